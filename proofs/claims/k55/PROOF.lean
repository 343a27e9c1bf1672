import PyProof.Rows.All
import Wide.All
import OpenK.AllK
import Wide.FinOn
import HandS.ForMost
import HandS.Walk
import HandS.Exc
import HandS.WordsExc
import HandS.TupAny
import HandS.ExcCtx
import HandS.HotCalls
import KE.KxText
import KE.KSortTupG
import HandS.Ends
import KE.GoesZip
import KE.GoesEnum
import KE.GoesMore
import KE.KDictZip
import PyProof.CollectWalk
import KE.KDictList
import HandS.AnyAll
import HandS.IsInst
import HandS.Star
import HandS.Conv
import HandS.Style
import HandS.Text
import HandS.StrMore
import HandS.Wide
import HandS.ListEq
import HandS.Flow
import HandS.RevTup
import KE.KRevSl
import HandS.ExcField
import HandS.ExcIs
import KE.KExcIs
import KE.KExcInit
import KE.KTryMore
import HandS.Small
import HandS.SetFor
import PyProof.NeKinds
import KE.DataMinMax
import PyProof.ListStr
import HandS.TupMul
import HandS.More
import HandS.Set
import PyProof.SetKind
import PyProof.SetRoads
import PyProof.Rows.SortShellAny
import HandS.SortInts
import HandS.Replace
import PyProof.StrLaws
import HandS.Codes
import PyProof.CollectStr
import PyProof.SliceStr2
import PyProof.Rows.StrStep
import PyProof.StrLawsIn
import KE.DataCmp
import HandS.NoneIn
import KE.KUnpackStar
import HandS.RaiseMore
import HandS.Property
import KE.KCallOwn
import KE.KOpsOwn
import HandS.FStr
import PyProof.RulesMatch
import KE.KParD
import PyProof.StrLawsRepr
import PyProof.FitsInt
import PySem.Challenge.RW_tailranks_k55_errors_of_select
set_option Elab.async false
set_option linter.all false
set_option maxRecDepth 100000
set_option maxHeartbeats 1000000
namespace DL
open PySem L2

/-- data: texts are lists of code points; ob: the k-th anchored object of the ghost region -/
inductive D where
  | non | bl (b : Bool) | int (i : Int) | str (x : List Nat) | lst (xs : List D) | tup (xs : List D) | dic (kvs : List (Key × D)) | ob (k : Nat) | exn (cls : Str) (ns : List Str) (ds : List D) | tx (xs : List D) | cl (c : Str)
/-- the table of modules stands in the base -/
def SmB (base : Heap) : Prop := ∃ o, base.get? sysModules = some o
/-- a caught exception's own object is known to the object -/
def exU : HO := .ext fun _ => True

mutual
inductive Rp (K : PySem.W.Frag) (F : Hp) (R : List Addr) : V → D → Prop
  | non : Rp K F R .non .non
  | bl (b : Bool) : Rp K F R (.bl b) (.bl b)
  | int (i : Int) : Rp K F R (.int i) (.int i)
  | str (z : Str) (x : List Nat) : z.cps.toList = x → Rp K F R (.str z) (.str x)
  | lst {a : Addr} {vs : List V} {ds : List D} : F a = some (.lst vs) → RpA K F R vs ds → Rp K F R (.ref a) (.lst ds)
  | tup {a : Addr} {vs : List V} {ds : List D} : SqT K F a vs → RpA K F R vs ds → Rp K F R (.ref a) (.tup ds)
  | dic {a : Addr} {kvs : List (Key × V)} {kds : List (Key × D)} : F a = some (.dK kvs) → RpK K F R kvs kds → Rp K F R (.ref a) (.dic kds)
  | ob {a : Addr} {k : Nat} : R[k]? = some a → Rp K F R (.ref a) (.ob k)
  | exn0 {a C : Addr} {cls : Str} {oe : Obj} : PySem.W.nsIn K mainGlobals cls = some (some (.ref C)) → F a = some (.frz oe exU) → Zc (.ref C) none oe → (∃ fv, oe.data = .fields fv) → Rp K F R (.ref a) (.exn cls [] [])
  | exn {a C dd : Addr} {cls : Str} {oe : Obj} {ns : List Str} {vs : List V} {ds : List D} : PySem.W.nsIn K mainGlobals cls = some (some (.ref C)) → F a = some (.frz oe exU) → Zc (.ref C) (some dd) oe → (∃ fv, oe.data = .fields fv) →
      F dd = some (.xd (ns.zip vs)) → ns.length = vs.length → RpA K F R vs ds → Rp K F R (.ref a) (.exn cls ns ds)
  | tx {a : Addr} {vs : List V} {ds : List D} {o : Obj} : F a = some (.frz o (.tup vs)) → o.dict = none → o.cls = .type "tuple" → RpA K F R vs ds → Rp K F R (.ref a) (.tx ds)
  | cl {C : Addr} {c : Str} : PySem.W.nsIn K mainGlobals c = some (some (.ref C)) → Rp K F R (.ref C) (.cl c)
inductive RpA (K : PySem.W.Frag) (F : Hp) (R : List Addr) : List V → List D → Prop
  | nil : RpA K F R [] []
  | cons {v : V} {vs : List V} {d : D} {ds : List D} : Rp K F R v d → RpA K F R vs ds → RpA K F R (v :: vs) (d :: ds)
inductive RpK (K : PySem.W.Frag) (F : Hp) (R : List Addr) : List (Key × V) → List (Key × D) → Prop
  | nil : RpK K F R [] []
  | cons {k : Key} {v : V} {kvs : List (Key × V)} {d : D} {kds : List (Key × D)} : Rp K F R v d → RpK K F R kvs kds → RpK K F R ((k, v) :: kvs) ((k, d) :: kds)
end

theorem same_tup {K : PySem.W.Frag} {H H' : Hp} {a : Addr} {xs : List V} (e : Same H H') (h : SqT K H a xs) : SqT K H' a xs := by
  rcases h with (h | ⟨o, h⟩) | h
  · exact .inl (.inl (e _ _ h))
  · exact .inl (.inr ⟨o, e _ _ h⟩)
  · exact .inr h
section
variable {K : PySem.W.Frag} {F F' : Hp} {R R' : List Addr}
mutual
theorem Rp.mono (e : Same F F') (r : ∀ (k : Nat) a, R[k]? = some a → R'[k]? = some a) : ∀ {v : V} {d : D}, Rp K F R v d → Rp K F' R' v d
  | _, _, .non => .non
  | _, _, .bl b => .bl b
  | _, _, .int i => .int i
  | _, _, .str z x h => .str z x h
  | _, _, .lst h q => .lst (e _ _ h) (RpA.mono e r q)
  | _, _, .tup h q => .tup (same_tup e h) (RpA.mono e r q)
  | _, _, .dic h q => .dic (e _ _ h) (RpK.mono e r q)
  | _, _, .ob h => .ob (r _ _ h)
  | _, _, .exn0 h1 h2 h3 h4 => .exn0 h1 (e _ _ h2) h3 h4
  | _, _, .exn h1 h2 h3 h4 h5 h6 q => .exn h1 (e _ _ h2) h3 h4 (e _ _ h5) h6 (RpA.mono e r q)
  | _, _, .tx h1 h2 h3 q => .tx (e _ _ h1) h2 h3 (RpA.mono e r q)
  | _, _, .cl h => .cl h
theorem RpA.mono (e : Same F F') (r : ∀ (k : Nat) a, R[k]? = some a → R'[k]? = some a) : ∀ {v : List V} {d : List D}, RpA K F R v d → RpA K F' R' v d
  | _, _, .nil => .nil
  | _, _, .cons h q => .cons (Rp.mono e r h) (RpA.mono e r q)
theorem RpK.mono (e : Same F F') (r : ∀ (k : Nat) a, R[k]? = some a → R'[k]? = some a) : ∀ {v : List (Key × V)} {d : List (Key × D)}, RpK K F R v d → RpK K F' R' v d
  | _, _, .nil => .nil
  | _, _, .cons h q => .cons (Rp.mono e r h) (RpK.mono e r q)
end
theorem RpA.length : ∀ {vs : List V} {ds : List D}, RpA K F R vs ds → vs.length = ds.length
  | _, _, .nil => rfl
  | _, _, .cons _ t => by rw [List.length_cons, List.length_cons, t.length]
theorem RpA.get' : ∀ {vs : List V} {ds : List D} {i : Nat} {d : D}, RpA K F R vs ds → ds[i]? = some d → ∃ v, vs[i]? = some v ∧ Rp K F R v d
  | _, _, _, _, .nil, e => by simp at e
  | _, _, 0, _, .cons r _, e => by simp at e; subst e; exact ⟨_, rfl, r⟩
  | _, _, i + 1, d, .cons _ t, e => by
    obtain ⟨u, h1, h2⟩ := RpA.get' (i := i) (d := d) t (by simpa using e)
    exact ⟨u, by simpa using h1, h2⟩
theorem RpA.append : ∀ {vs ws : List V} {ds es : List D}, RpA K F R vs ds → RpA K F R ws es → RpA K F R (vs ++ ws) (ds ++ es)
  | _, _, _, _, .nil, s => s
  | _, _, _, _, .cons r t, s => .cons r (RpA.append t s)
theorem RpA.take : ∀ {vs : List V} {ds : List D} (n : Nat), RpA K F R vs ds → RpA K F R (vs.take n) (ds.take n)
  | _, _, 0, _ => .nil
  | _, _, _ + 1, .nil => .nil
  | _, _, n + 1, .cons r t => .cons r (RpA.take n t)
theorem RpA.drop : ∀ {vs : List V} {ds : List D} (n : Nat), RpA K F R vs ds → RpA K F R (vs.drop n) (ds.drop n)
  | _, _, 0, r => r
  | _, _, _ + 1, .nil => .nil
  | _, _, n + 1, .cons _ t => RpA.drop n t
theorem RpA.set {v : V} {d : D} (r : Rp K F R v d) : ∀ {vs : List V} {ds : List D} (i : Nat), RpA K F R vs ds → RpA K F R (vs.set i v) (ds.set i d)
  | _, _, _, .nil => .nil
  | _, _, 0, .cons _ t => .cons r t
  | _, _, i + 1, .cons q t => .cons q (RpA.set r i t)
theorem RpA.flat {vs : List V} {ds : List D} (r : RpA K F R vs ds) : ∀ n : Nat, RpA K F R (List.replicate n vs).flatten (List.replicate n ds).flatten
  | 0 => .nil
  | n + 1 => by
    rw [List.replicate_succ, List.replicate_succ, List.flatten_cons, List.flatten_cons]
    exact r.append (RpA.flat r n)
theorem RpA.strs : ∀ {vs : List V} {xs : List (List Nat)}, RpA K F R vs (xs.map D.str) → ∃ zs : List Str, vs = zs.map V.str ∧ zs.map (·.cps.toList) = xs
  | _, [], .nil => ⟨[], rfl, rfl⟩
  | _, x :: xs, .cons (.str z _ e) t => by
    obtain ⟨zs, h1, h2⟩ := RpA.strs (xs := xs) t
    exact ⟨z :: zs, by rw [h1]; rfl, by rw [List.map_cons, e, h2]⟩
end

structure Ghost where
  G : Type
  ok : PySem.W.Frag → G → List Addr → Hp → Hp → Prop
  keep : ∀ {K : PySem.W.Frag} {g : G} {R : List Addr} {F H F' H' : Hp}, ok K g R F H → Same F F' → (∀ a ∈ R, H' a = H a) → ok K g R F' H'
structure Wd (M : Ghost) where
  F : Hp
  H : Hp
  R : List Addr
  g : M.G
structure Wok {M : Ghost} (K : PySem.W.Frag) (W : Wd M) : Prop where
  sub : Same W.F W.H
  gh : M.ok K W.g W.R W.F W.H
  rf : ∀ a ∈ W.R, W.F a = none
  rh : ∀ a ∈ W.R, W.H a ≠ none
structure Go {M : Ghost} (W W' : Wd M) : Prop where
  sub : Same W.F W'.F
  keep : ∀ a o, W.H a = some o → a ∉ W.R → W'.H a = some o
  live : ∀ a, W.H a ≠ none → W'.H a ≠ none
  young : ∀ a, W'.F a ≠ none → W.F a ≠ none ∨ W.H a = none
  reg : ∃ new, W'.R = W.R ++ new ∧ ∀ a ∈ new, W.H a = none
section
variable {M : Ghost} {K : PySem.W.Frag} {W W1 W2 W' : Wd M}
theorem Go.refl (W : Wd M) : Go W W := ⟨Same.refl _, fun _ _ h _ => h, fun _ h => h, fun _ h => .inl h, [], by simp, by simp⟩
theorem Go.notR (g : Go W W1) {a : Addr} (h : W.H a ≠ none) (n : a ∉ W.R) : a ∉ W1.R := by
  obtain ⟨new, e, q⟩ := g.reg
  rw [e]
  intro z
  rcases List.mem_append.mp z with z | z
  · exact n z
  · exact h (q a z)
theorem Go.trans (a : Go W W1) (b : Go W1 W2) : Go W W2 := by
  refine ⟨a.sub.trans b.sub, fun c o h n => ?_, fun c h => b.live c (a.live c h), fun c h => ?_, ?_⟩
  · exact b.keep c o (a.keep c o h n) (a.notR (by rw [h]; simp) n)
  · rcases b.young c h with z | z
    · exact a.young c z
    · right
      cases q : W.H c with
      | none => rfl
      | some o => exact absurd z (a.live c (by rw [q]; simp))
  · obtain ⟨n1, e1, q1⟩ := a.reg
    obtain ⟨n2, e2, q2⟩ := b.reg
    refine ⟨n1 ++ n2, by rw [e2, e1, List.append_assoc], fun c hc => ?_⟩
    rcases List.mem_append.mp hc with z | z
    · exact q1 c z
    · cases q : W.H c with
      | none => rfl
      | some o => exact absurd (q2 c z) (a.live c (by rw [q]; simp))
theorem Go.ix (g : Go W W1) : ∀ (k : Nat) a, W.R[k]? = some a → W1.R[k]? = some a := by
  obtain ⟨new, e, _⟩ := g.reg
  intro k a h
  rw [e, List.getElem?_append_left (List.getElem?_eq_some_iff.mp h).1]
  exact h
theorem Rp.step {v : V} {d : D} (h : Rp K W.F W.R v d) (g : Go W W1) : Rp K W1.F W1.R v d := h.mono g.sub g.ix
theorem RpA.step {v : List V} {d : List D} (h : RpA K W.F W.R v d) (g : Go W W1) : RpA K W1.F W1.R v d := h.mono g.sub g.ix
theorem RpK.step {v : List (Key × V)} {d : List (Key × D)} (h : RpK K W.F W.R v d) (g : Go W W1) : RpK K W1.F W1.R v d := h.mono g.sub g.ix

/-- a new object that stands still -/
abbrev Wd.lay (W : Wd M) (p : Addr) (o : HO) : Wd M := { W with F := upd W.F p o, H := upd W.H p o }
/-- a new object that is not (yet) frozen -/
abbrev Wd.new (W : Wd M) (p : Addr) (o : HO) : Wd M := { W with H := upd W.H p o }
abbrev Wd.freeze (W : Wd M) (p : Addr) (o : HO) : Wd M := { W with F := upd W.F p o }
theorem same_new {H : Hp} {p : Addr} {o : HO} (h : H p = none) : Same H (upd H p o) := fun b x e => by
  rw [upd_ne (ne_of_none e h)]
  exact e
theorem Wok.noR (k : Wok K W) {p : Addr} (h : W.H p = none) : p ∉ W.R := fun z => k.rh p z h
theorem Wok.noF (k : Wok K W) {p : Addr} (h : W.H p = none) : W.F p = none := k.sub.free h
theorem Go.new (k : Wok K W) {p : Addr} {o : HO} (h : W.H p = none) : Go W (W.new p o) := by
  refine ⟨Same.refl _, fun a x e _ => same_new h a x e, fun a e => ?_, fun _ z => .inl z, [], by simp, by simp⟩
  show upd W.H p o a ≠ none
  cases q : W.H a with
  | none => exact absurd q e
  | some x => rw [same_new h a x q]; simp
theorem Wok.new (k : Wok K W) {p : Addr} {o : HO} (h : W.H p = none) : Wok K (W.new p o) := by
  have nr := k.noR h
  refine ⟨k.sub.trans (same_new h), M.keep k.gh (Same.refl _) fun a ha => upd_ne (fun z => nr (z ▸ ha)), k.rf, fun a ha => ?_⟩
  show upd W.H p o a ≠ none
  rw [upd_ne (show a ≠ p from fun z => nr (z ▸ ha))]
  exact k.rh a ha
theorem Go.lay (k : Wok K W) {p : Addr} {o : HO} (h : W.H p = none) : Go W (W.lay p o) := by
  have g := Go.new (o := o) k h
  refine ⟨same_new (k.noF h), g.keep, g.live, fun a z => ?_, [], by simp, by simp⟩
  by_cases e : a = p
  · subst e; exact .inr h
  · rw [show (W.lay p o).F a = W.F a from upd_ne e] at z
    exact .inl z
theorem Wok.lay (k : Wok K W) {p : Addr} {o : HO} (h : W.H p = none) : Wok K (W.lay p o) := by
  have nr := k.noR h
  have q := Wok.new (o := o) k h
  refine ⟨fun a x e => ?_, M.keep q.gh (same_new (k.noF h)) fun a ha => rfl, fun a ha => ?_, q.rh⟩
  · by_cases z : a = p
    · subst z
      rw [show (W.lay a o).F a = some o from upd_same] at e
      rw [show (W.lay a o).H a = some o from upd_same]
      exact e
    · rw [show (W.lay p o).F a = W.F a from upd_ne z] at e
      rw [show (W.lay p o).H a = W.H a from upd_ne z]
      exact k.sub _ _ e
  · show upd W.F p o a = none
    rw [upd_ne (show a ≠ p from fun z => nr (z ▸ ha))]
    exact k.rf a ha
/-- freezing a thing of one's own -/
theorem Wok.freeze (k : Wok K W) {p : Addr} {o : HO} (h : W.H p = some o) (hf : W.F p = none) (nr : p ∉ W.R) : Wok K (W.freeze p o) := by
  refine ⟨fun a x e => ?_, M.keep k.gh (same_new hf) fun a ha => rfl, fun a ha => ?_, k.rh⟩
  · by_cases z : a = p
    · subst z
      rw [show (W.freeze a o).F a = some o from upd_same] at e
      cases e
      exact h
    · rw [show (W.freeze p o).F a = W.F a from upd_ne z] at e
      exact k.sub _ _ e
  · show upd W.F p o a = none
    rw [upd_ne (show a ≠ p from fun z => nr (z ▸ ha))]
    exact k.rf a ha
theorem Go.freeze {W0 : Wd M} (g : Go W0 W) {p : Addr} {o : HO} (hf : W.F p = none) (h0 : W0.H p = none) : Go W0 (W.freeze p o) := by
  refine ⟨g.sub.trans (same_new hf), g.keep, g.live, fun a z => ?_, g.reg⟩
  by_cases e : a = p
  · subst e; exact .inr h0
  · rw [show (W.freeze p o).F a = W.F a from upd_ne e] at z
    exact g.young a z
/-- writing a thing of one's own -/
abbrev Wd.put (W : Wd M) (p : Addr) (o : HO) : Wd M := { W with H := upd W.H p o }
theorem Wok.put (k : Wok K W) {p : Addr} {o : HO} (hf : W.F p = none) (nr : p ∉ W.R) : Wok K (W.put p o) := by
  refine ⟨fun a x e => ?_, M.keep k.gh (Same.refl _) fun a ha => upd_ne (fun z => nr (z ▸ ha)), k.rf, fun a ha => ?_⟩
  · show upd W.H p o a = some x
    rw [upd_ne (show a ≠ p from fun z => by rw [z, hf] at e; cases e)]
    exact k.sub _ _ e
  · show upd W.H p o a ≠ none
    rw [upd_ne (show a ≠ p from fun z => nr (z ▸ ha))]
    exact k.rh a ha
theorem Go.put {W0 : Wd M} (g : Go W0 W) {p : Addr} {o : HO} (h0 : W0.H p = none) : Go W0 (W.put p o) := by
  refine ⟨g.sub, fun a x e n => ?_, fun a e => ?_, g.young, g.reg⟩
  · show upd W.H p o a = some x
    rw [upd_ne (ne_of_none e h0)]
    exact g.keep a x e n
  · show upd W.H p o a ≠ none
    by_cases z : a = p
    · subst z; rw [upd_same]; simp
    · rw [upd_ne z]; exact g.live a e
end

structure Gs {M : Ghost} (W W' : Wd M) : Prop where
  sub : Same W.F W'.F
  ix : ∀ (k : Nat) a, W.R[k]? = some a → W'.R[k]? = some a
section
variable {M : Ghost} {W W1 W2 : Wd M}
theorem Gs.refl (W : Wd M) : Gs W W := ⟨Same.refl _, fun _ _ h => h⟩
theorem Gs.trans (a : Gs W W1) (b : Gs W1 W2) : Gs W W2 := ⟨a.sub.trans b.sub, fun k c h => b.ix k c (a.ix k c h)⟩
theorem Go.s (g : Go W W1) : Gs W W1 := ⟨g.sub, g.ix⟩
theorem Rp.gs {K : PySem.W.Frag} {v : V} {d : D} (h : Rp K W.F W.R v d) (g : Gs W W1) : Rp K W1.F W1.R v d := h.mono g.sub g.ix
theorem RpA.gs {K : PySem.W.Frag} {v : List V} {d : List D} (h : RpA K W.F W.R v d) (g : Gs W W1) : RpA K W1.F W1.R v d := h.mono g.sub g.ix
end

inductive Sl where
  | no | im (d : D) | own (ds : List D) | odt (kds : List (Key × D))
/-- a list or a dict of one's own -/
def Sl.isOwn : Sl → Bool
  | .own _ => true
  | .odt _ => true
  | _ => false
abbrev DEnv := List Sl
/-- an exception of the text: its class by name, its fields -/
structure Exn where
  cls : Str
  ns : List Str
  ds : List D
structure Ct (M : Ghost) where
  X : Cx
  W0 : Wd M
  EX : Exn → DEnv → M.G → Prop
  B : Wd M
section
variable {M : Ghost}
def SlOk (C : Ct M) (W : Wd M) : Sl → Option V → Prop
  | .no, _ => True
  | .im d, o => ∃ v, o = some v ∧ Rp C.X.K W.F W.R v d
  | .own ds, o => ∃ p vs, o = some (.ref p) ∧ W.H p = some (.lst vs) ∧ W.F p = none ∧ p ∉ W.R ∧ C.W0.H p = none ∧ RpA C.X.K W.F W.R vs ds
  | .odt kds, o => ∃ p kvs, o = some (.ref p) ∧ W.H p = some (.dK kvs) ∧ W.F p = none ∧ p ∉ W.R ∧ C.W0.H p = none ∧ RpK C.X.K W.F W.R kvs kds
theorem SlOk.live {C : Ct M} {W : Wd M} {s : Sl} {o : Option V} (h : SlOk C W s o) (ow : s.isOwn = true) : ∃ p u, o = some (.ref p) ∧ W.H p = some u ∧ W.F p = none ∧ p ∉ W.R ∧ C.W0.H p = none := by
  cases s with
  | no => cases ow
  | im d => cases ow
  | own ds =>
    obtain ⟨p, vs, e, h1, h2, h3, h4, r⟩ := h
    exact ⟨p, _, e, h1, h2, h3, h4⟩
  | odt ds =>
    obtain ⟨p, vs, e, h1, h2, h3, h4, r⟩ := h
    exact ⟨p, _, e, h1, h2, h3, h4⟩
structure Sat (C : Ct M) (σ : St) (ρ : DEnv) (W : Wd M) : Prop where
  ok : Wok C.X.K W
  go : Go C.W0 W
  len : σ.length = ρ.length
  sl : ∀ (i : Nat) s, ρ[i]? = some s → ∃ o, σ[i]? = some o ∧ SlOk C W s o
  dis : ∀ (i j : Nat) s t p, ρ[i]? = some s → ρ[j]? = some t → s.isOwn = true → t.isOwn = true → σ[i]? = some (some (.ref p)) → σ[j]? = some (some (.ref p)) → i = j
  gs : Gs C.B W
variable {C : Ct M} {W W1 W' : Wd M} {σ : St} {ρ : DEnv}
theorem SlOk.step {s : Sl} {o : Option V} (h : SlOk C W s o) (g : Go W W1) : SlOk C W1 s o := by
  cases s with
  | no => trivial
  | im d =>
    obtain ⟨v, e, r⟩ := h
    exact ⟨v, e, r.step g⟩
  | own ds =>
    obtain ⟨p, vs, e, h1, h2, h3, h4, r⟩ := h
    refine ⟨p, vs, e, g.keep _ _ h1 h3, ?_, g.notR (by rw [h1]; simp) h3, h4, r.step g⟩
    cases q : W1.F p with
    | none => rfl
    | some o =>
      rcases g.young p (by rw [q]; simp) with z | z
      · exact absurd h2 z
      · rw [h1] at z; cases z
  | odt ds =>
    obtain ⟨p, vs, e, h1, h2, h3, h4, r⟩ := h
    refine ⟨p, vs, e, g.keep _ _ h1 h3, ?_, g.notR (by rw [h1]; simp) h3, h4, r.step g⟩
    cases q : W1.F p with
    | none => rfl
    | some o =>
      rcases g.young p (by rw [q]; simp) with z | z
      · exact absurd h2 z
      · rw [h1] at z; cases z
theorem Sat.step (S : Sat C σ ρ W) (g : Go W W1) (k : Wok C.X.K W1) : Sat C σ ρ W1 :=
  ⟨k, S.go.trans g, S.len, fun i s e => let ⟨o, h1, h2⟩ := S.sl i s e; ⟨o, h1, h2.step g⟩, S.dis, S.gs.trans g.s⟩

abbrev EW (M : Ghost) := DEnv → M.G → (D → M.G → Prop) → Prop
def tOf (X : Cx) (e : Expr) : TE := fun σ H Q => ∀ (pins : List (Addr × Obj)) (s : Shared), Inv X pins σ H s → wpAny (model X.prog X.w) X.A (eval e X.env) (EP X pins σ Q) X.xe s
theorem pe_tOf {X : Cx} {e : Expr} : PE X e (tOf X e) := ⟨fun pins s _ _ _ I h => h pins s I⟩
theorem tOf_of {X : Cx} {e : Expr} {t : TE} (h : PE X e t) {σ : St} {H : Hp} {Q : VK} (q : t σ H Q) : tOf X e σ H Q := fun pins s I => h.run pins s σ H Q I q
/-- a value that may be looked at now: it stands still, or it is a list of one's own -/
def RdP (K : PySem.W.Frag) (W : Wd M) (v : V) (d : D) : Prop := Rp K W.F W.R v d ∨ ∃ p vs ds, v = .ref p ∧ d = .lst ds ∧ W.H p = some (.lst vs) ∧ p ∉ W.R ∧ RpA K W.F W.R vs ds
theorem RdP.step {K : PySem.W.Frag} {v : V} {d : D} (h : RdP K W v d) (g : Go W W1) : RdP K W1 v d := by
  rcases h with h | ⟨p, vs, ds, e1, e2, h, n, r⟩
  · exact .inl (h.step g)
  · exact .inr ⟨p, vs, ds, e1, e2, g.keep _ _ h n, g.notR (by rw [h]; simp) n, r.step g⟩
/-- the value of an expression that stands still -/
structure DE (C : Ct M) (e : Expr) (w : EW M) : Prop where
  run : ∀ (σ : St) (ρ : DEnv) (W : Wd M) (Q : VK) (q : D → M.G → Prop), Sat C σ ρ W → (∀ v d W', Go W W' → Wok C.X.K W' → Rp C.X.K W'.F W'.R v d → q d W'.g → Q v W'.H) → w ρ W.g q → tOf C.X e σ W.H Q
/-- one that is looked at -/
structure DP (C : Ct M) (e : Expr) (w : EW M) : Prop where
  run : ∀ (σ : St) (ρ : DEnv) (W : Wd M) (Q : VK) (q : D → M.G → Prop), Sat C σ ρ W → (∀ v d W', Go W W' → Wok C.X.K W' → RdP C.X.K W' v d → q d W'.g → Q v W'.H) → w ρ W.g q → tOf C.X e σ W.H Q
/-- what a slot may take -/
def Fresh (K : PySem.W.Frag) (W W' : Wd M) : V → Sl → Prop
  | _, .no => True
  | v, .im d => Rp K W'.F W'.R v d
  | v, .own ds => ∃ p vs, v = .ref p ∧ W'.H p = some (.lst vs) ∧ W'.F p = none ∧ p ∉ W'.R ∧ W.H p = none ∧ RpA K W'.F W'.R vs ds
  | v, .odt kds => ∃ p kvs, v = .ref p ∧ W'.H p = some (.dK kvs) ∧ W'.F p = none ∧ p ∉ W'.R ∧ W.H p = none ∧ RpK K W'.F W'.R kvs kds
theorem Fresh.live {K : PySem.W.Frag} {W W' : Wd M} {v : V} {s : Sl} (f : Fresh K W W' v s) (ow : s.isOwn = true) : ∃ p u, v = .ref p ∧ W'.H p = some u ∧ W'.F p = none ∧ p ∉ W'.R ∧ W.H p = none := by
  cases s with
  | no => cases ow
  | im d => cases ow
  | own ds =>
    obtain ⟨p, vs, e, h1, h2, h3, h4, r⟩ := f
    exact ⟨p, _, e, h1, h2, h3, h4⟩
  | odt ds =>
    obtain ⟨p, vs, e, h1, h2, h3, h4, r⟩ := f
    exact ⟨p, _, e, h1, h2, h3, h4⟩
abbrev VW (M : Ghost) := DEnv → M.G → (Sl → M.G → Prop) → Prop
structure DV (C : Ct M) (e : Expr) (w : VW M) : Prop where
  run : ∀ (σ : St) (ρ : DEnv) (W : Wd M) (Q : VK) (q : Sl → M.G → Prop), Sat C σ ρ W → (∀ v s W', Go W W' → Wok C.X.K W' → Fresh C.X.K W W' v s → q s W'.g → Q v W'.H) → w ρ W.g q → tOf C.X e σ W.H Q
/-- a new list -/
abbrev NW (M : Ghost) := DEnv → M.G → (List D → M.G → Prop) → Prop
structure DN (C : Ct M) (e : Expr) (w : NW M) : Prop where
  run : ∀ (σ : St) (ρ : DEnv) (W : Wd M) (Q : VK) (q : List D → M.G → Prop), Sat C σ ρ W → (∀ p vs ds W', Go W W' → Wok C.X.K W' → W'.H p = some (.lst vs) → W'.F p = none → p ∉ W'.R → W.H p = none → RpA C.X.K W'.F W'.R vs ds → q ds W'.g → Q (.ref p) W'.H) → w ρ W.g q → tOf C.X e σ W.H Q
variable {e : Expr} {w : EW M}
@[simp] def wL (w : NW M) : EW M := fun ρ g q => w ρ g fun ds g' => q (.lst ds) g'
@[simp] def wI (w : EW M) : VW M := fun ρ g q => w ρ g fun d g' => q (.im d) g'
@[simp] def wO (w : NW M) : VW M := fun ρ g q => w ρ g fun ds g' => q (.own ds) g'
theorem DE.p (h : DE C e w) : DP C e w := ⟨fun σ ρ W Q q S hQ hw => h.run σ ρ W Q q S (fun v d W' g k r => hQ v d W' g k (.inl r)) hw⟩
theorem DE.v (h : DE C e w) : DV C e (wI w) := ⟨fun σ ρ W Q q S hQ hw => h.run σ ρ W Q _ S (fun v d W' g k r hq => hQ v (.im d) W' g k r hq) hw⟩
theorem DN.v {w : NW M} (h : DN C e w) : DV C e (wO w) := ⟨fun σ ρ W Q q S hQ hw => h.run σ ρ W Q _ S (fun p vs ds W' g k h1 h2 h3 h4 r hq => hQ (.ref p) (.own ds) W' g k ⟨p, vs, rfl, h1, h2, h3, h4, r⟩ hq) hw⟩
theorem DN.p {w : NW M} (h : DN C e w) : DP C e (wL w) := ⟨fun σ ρ W Q q S hQ hw => h.run σ ρ W Q _ S (fun p vs ds W' g k h1 h2 h3 h4 r hq => hQ (.ref p) (.lst ds) W' g k (.inr ⟨p, vs, ds, rfl, rfl, h1, h3, r⟩) hq) hw⟩
theorem DN.fr {w : NW M} (h : DN C e w) : DE C e (wL w) := ⟨fun σ ρ W Q q S hQ hw => h.run σ ρ W Q _ S (fun p vs ds W' g k h1 h2 h3 h4 r hq =>
  hQ (.ref p) (.lst ds) (W'.freeze p (.lst vs)) (Go.freeze g h2 h4) (k.freeze h1 h2 h3) (.lst upd_same (r.mono (same_new h2) fun _ _ z => z)) hq) hw⟩

@[simp] def wVar (i : Nat) : EW M := fun ρ g q => ∃ d, ρ[i]? = some (.im d) ∧ q d g
@[simp] def wPk (i : Nat) : EW M := fun ρ g q => ∃ ds, ρ[i]? = some (.own ds) ∧ q (.lst ds) g
@[simp] def wC (d : D) : EW M := fun _ g q => q d g
theorem de_var {i : Nat} {x : Str} {pos : Pos} (h : PE C.X (.Name x pos) (tVar i)) : DE C (.Name x pos) (wVar i) := ⟨fun σ ρ W Q q S hQ hw => by
  obtain ⟨d, e, hq⟩ := hw
  obtain ⟨o, h1, v, h2, r⟩ := S.sl i _ e
  subst h2
  exact tOf_of h ⟨v, h1, hQ v d W (Go.refl W) S.ok r hq⟩⟩
theorem dp_own {i : Nat} {x : Str} {pos : Pos} (h : PE C.X (.Name x pos) (tVar i)) : DP C (.Name x pos) (wPk i) := ⟨fun σ ρ W Q q S hQ hw => by
  obtain ⟨ds, e, hq⟩ := hw
  obtain ⟨o, h1, p, vs, h2, h3, h4, h5, h6, r⟩ := S.sl i _ e
  subst h2
  exact tOf_of h ⟨.ref p, h1, hQ _ _ W (Go.refl W) S.ok (.inr ⟨p, vs, ds, rfl, rfl, h3, h5, r⟩) hq⟩⟩
theorem de_c {e : Expr} {v : V} {d : D} (h : PE C.X e (tC v)) (r : ∀ F R, Rp C.X.K F R v d) : DE C e (wC d) := ⟨fun σ ρ W Q q S hQ hw => tOf_of h (hQ v d W (Go.refl W) S.ok (r _ _) hw)⟩
theorem de_int {i : Int} {j : Nat} {pos : Pos} : DE C (.Constant (.int i) j pos) (wC (.int i)) := de_c pe_int fun _ _ => .int i
theorem de_bl {b : Bool} {j : Nat} {pos : Pos} : DE C (.Constant (.bool b) j pos) (wC (.bl b)) := de_c pe_bl fun _ _ => .bl b
theorem de_non {j : Nat} {pos : Pos} : DE C (.Constant .none j pos) (wC .non) := de_c pe_non fun _ _ => .non
theorem de_str {x : Str} {j : Nat} {pos : Pos} (y : List Nat) (h : x.cps.toList = y := by decide) : DE C (.Constant (.str x) j pos) (wC (.str y)) := de_c pe_str fun _ _ => .str x y h

/-- an operation on two values, by data -/
structure OpD (C : Ct M) (f : Value → Value → Sem Value) (r : D → D → (D → Prop) → Prop) : Prop where
  run : ∃ rr, OpR C.X f rr ∧ ∀ (W : Wd M) (x y : V) (d e : D) (Q : VK) (q : D → Prop), Wok C.X.K W → RdP C.X.K W x d → RdP C.X.K W y e →
    (∀ v d' W', Go W W' → Wok C.X.K W' → W'.g = W.g → Rp C.X.K W'.F W'.R v d' → q d' → Q v W'.H) → r d e q → rr x y W.H Q
/-- .. that makes a new list -/
structure OpN (C : Ct M) (f : Value → Value → Sem Value) (r : D → D → (List D → Prop) → Prop) : Prop where
  run : ∃ rr, OpR C.X f rr ∧ ∀ (W : Wd M) (x y : V) (d e : D) (Q : VK) (q : List D → Prop), Wok C.X.K W → RdP C.X.K W x d → RdP C.X.K W y e →
    (∀ p vs ds W', Go W W' → Wok C.X.K W' → W'.g = W.g → W'.H p = some (.lst vs) → W'.F p = none → p ∉ W'.R → W.H p = none → RpA C.X.K W'.F W'.R vs ds → q ds → Q (.ref p) W'.H) → r d e q → rr x y W.H Q
@[simp] def wBin (r : D → D → (D → Prop) → Prop) (wa wb : EW M) : EW M := fun ρ g q => wa ρ g fun x g1 => wb ρ g1 fun y g2 => r x y fun d => q d g2
@[simp] def wBinN (r : D → D → (List D → Prop) → Prop) (wa wb : EW M) : NW M := fun ρ g q => wa ρ g fun x g1 => wb ρ g1 fun y g2 => r x y fun d => q d g2
variable {a b : Expr} {wa wb : EW M} {pos : Pos} {r : D → D → (D → Prop) → Prop} {rn : D → D → (List D → Prop) → Prop}
theorem two_run {f : Value → Value → Sem Value} {rr : R2} (ha : DP C a wa) (hb : DP C b wb) {Q : VK} {q : D → D → M.G → Prop} (S : Sat C σ ρ W)
    (h : ∀ W1 x y d e, Go W W1 → Wok C.X.K W1 → RdP C.X.K W1 x d → RdP C.X.K W1 y e → q d e W1.g → rr x y W1.H Q) (hw : wa ρ W.g fun x g1 => wb ρ g1 fun y g2 => q x y g2) :
    tOp rr (tOf C.X a) (tOf C.X b) σ W.H Q :=
  ha.run σ ρ W _ _ S (fun v d W1 g1 k1 r1 q1 => hb.run σ ρ W1 _ _ (S.step g1 k1) (fun u e W2 g2 k2 r2 q2 => h W2 v u d e (g1.trans g2) k2 (r1.step g2) r2 q2) q1) hw
theorem de_op {op : Operator} (ho : OpD C (binaryOp op) r) (ha : DP C a wa) (hb : DP C b wb) : DE C (.BinOp a op b pos) (wBin r wa wb) := ⟨fun σ ρ W Q q S hQ hw => by
  obtain ⟨rr, hop, h⟩ := ho.run
  exact tOf_of (pe_op hop pe_tOf pe_tOf) (two_run (f := binaryOp op) ha hb S (fun W1 x y d e g k r1 r2 q1 => h W1 x y d e Q _ k r1 r2 (fun v d' W' g' k' eg r' q' => hQ v d' W' (g.trans g') k' r' (eg ▸ q')) q1) hw)⟩
theorem dn_op {op : Operator} (ho : OpN C (binaryOp op) rn) (ha : DP C a wa) (hb : DP C b wb) : DN C (.BinOp a op b pos) (wBinN rn wa wb) := ⟨fun σ ρ W Q q S hQ hw => by
  obtain ⟨rr, hop, h⟩ := ho.run
  refine tOf_of (pe_op hop pe_tOf pe_tOf) (two_run (f := binaryOp op) ha hb S (fun W1 x y d e g k r1 r2 q1 => h W1 x y d e Q _ k r1 r2 (fun p vs ds W' g' k' eg h1 h2 h3 h4 r' q' => hQ p vs ds W' (g.trans g') k' h1 h2 h3 ?_ r' (eg ▸ q')) q1) hw)
  cases z : W.H p with
  | none => rfl
  | some o => exact absurd h4 (g.live p (by rw [z]; simp))⟩
theorem de_cmp {op : CmpOp} (ho : OpD C (compareOp op) r) (ha : DP C a wa) (hb : DP C b wb) (hm : behindInMarks op b = false) : DE C (.Compare a [op] [b] pos) (wBin r wa wb) := ⟨fun σ ρ W Q q S hQ hw => by
  obtain ⟨rr, hop, h⟩ := ho.run
  exact tOf_of (pe_cmpR hop pe_tOf pe_tOf hm) (two_run (f := compareOp op) ha hb S (fun W1 x y d e g k r1 r2 q1 => h W1 x y d e Q _ k r1 r2 (fun v d' W' g' k' eg r' q' => hQ v d' W' (g.trans g') k' r' (eg ▸ q')) q1) hw)⟩

abbrev TW (M : Ghost) := DEnv → M.G → (Bool → M.G → Prop) → Prop
def ttOf (X : Cx) (e : Expr) : TT := fun σ H Q => ∀ (pins : List (Addr × Obj)) (s : Shared), Inv X pins σ H s → wpAny (model X.prog X.w) X.A (isTrue e X.env (eval e X.env)) (TP X pins σ Q) X.xe s
theorem pt_tOf {X : Cx} {e : Expr} : PT X e (ttOf X e) := ⟨fun pins s _ _ _ I h => h pins s I⟩
theorem ttOf_of {X : Cx} {e : Expr} {t : TT} (h : PT X e t) {σ : St} {H : Hp} {Q : Bool → Hp → Prop} (q : t σ H Q) : ttOf X e σ H Q := fun pins s I => h.run pins s σ H Q I q
structure DT (C : Ct M) (e : Expr) (w : TW M) : Prop where
  run : ∀ (σ : St) (ρ : DEnv) (W : Wd M) (Q : Bool → Hp → Prop) (q : Bool → M.G → Prop), Sat C σ ρ W → (∀ b W', Go W W' → Wok C.X.K W' → q b W'.g → Q b W'.H) → w ρ W.g q → ttOf C.X e σ W.H Q
def twOf (X : Cx) (e : Expr) : TT := fun σ H Q => ∀ (whole : Sem Value) (pins : List (Addr × Obj)) (s : Shared), Inv X pins σ H s → wpAny (model X.prog X.w) X.A (isTrue e X.env whole) (TP X pins σ Q) X.xe s
structure DW (C : Ct M) (e : Expr) (w : TW M) : Prop where
  run : ∀ (σ : St) (ρ : DEnv) (W : Wd M) (Q : Bool → Hp → Prop) (q : Bool → M.G → Prop), Sat C σ ρ W → (∀ b W', Go W W' → Wok C.X.K W' → q b W'.g → Q b W'.H) → w ρ W.g q → twOf C.X e σ W.H Q
/-- the truth of a datum that is a bool -/
def isB (d : D) (q : Bool → Prop) : Prop := match d with
  | .bl b => q b
  | _ => False
@[simp] def wB (w : EW M) : TW M := fun ρ g q => w ρ g fun d g' => isB d fun b => q b g'
theorem isB_elim {d : D} {q : Bool → Prop} (h : isB d q) : ∃ b, d = .bl b ∧ q b := by
  cases d <;> first | exact h.elim | exact ⟨_, rfl, h⟩
theorem Rp.bl_inv {K : PySem.W.Frag} {F : Hp} {R : List Addr} {v : V} {b : Bool} (r : Rp K F R v (.bl b)) : v = .bl b := by cases r; rfl
theorem RdP.bl_inv {K : PySem.W.Frag} {v : V} {b : Bool} (r : RdP K W v (.bl b)) : v = .bl b := by
  rcases r with r | ⟨_, _, _, _, e, _⟩
  · exact r.bl_inv
  · cases e
theorem RdP.int_inv {K : PySem.W.Frag} {v : V} {b : Int} (r : RdP K W v (.int b)) : v = .int b := by
  rcases r with r | ⟨_, _, _, _, e, _⟩
  · cases r; rfl
  · cases e
theorem RdP.str_inv {K : PySem.W.Frag} {v : V} {x : List Nat} (r : RdP K W v (.str x)) : ∃ z : Str, v = .str z ∧ z.cps.toList = x := by
  rcases r with r | ⟨_, _, _, _, e, _⟩
  · cases r with
    | str z _ h => exact ⟨z, rfl, h⟩
  · cases e
theorem RdP.lst_inv {K : PySem.W.Frag} {v : V} {ds : List D} (k : Wok K W) (r : RdP K W v (.lst ds)) : ∃ p vs, v = .ref p ∧ W.H p = some (.lst vs) ∧ p ∉ W.R ∧ RpA K W.F W.R vs ds := by
  rcases r with r | ⟨p, vs, es, e1, e2, h, n, r⟩
  · cases r with
    | lst h q => exact ⟨_, _, rfl, k.sub _ _ h, (fun z => by rw [k.rf _ z] at h; cases h), q⟩
  · cases e2
    exact ⟨p, vs, e1, h, n, r⟩
theorem RdP.tup_inv {K : PySem.W.Frag} {v : V} {ds : List D} (r : RdP K W v (.tup ds)) : ∃ p vs, v = .ref p ∧ SqT K W.F p vs ∧ RpA K W.F W.R vs ds := by
  rcases r with r | ⟨_, _, _, _, e, _⟩
  · cases r with
    | tup h q => exact ⟨_, _, rfl, h, q⟩
  · cases e
theorem dt_val (h : DE C e w) (he : ∀ whole, isTrue e C.X.env whole = (do let v ← whole; standAt e.pos; holding [v] (truthy v)) := by intro _; rfl) : DT C e (wB w) := ⟨fun σ ρ W Q q S hQ hw =>
  ttOf_of (pt_val pe_tOf he) (h.run σ ρ W _ _ S (fun v d W' g k r1 q1 => by
    obtain ⟨b, rfl, q2⟩ := isB_elim q1
    exact ⟨b, r1.bl_inv, hQ b W' g k q2⟩) hw)⟩
theorem dt_cmp {op : CmpOp} (ho : OpD C (compareOp op) r) (ha : DP C a wa) (hb : DP C b wb) (hm : behindInMarks op b = false) : DT C (.Compare a [op] [b] pos) (wB (wBin r wa wb)) := ⟨fun σ ρ W Q q S hQ hw => by
  obtain ⟨rr, hop, h⟩ := ho.run
  exact ttOf_of (pt_cmpR hop pe_tOf pe_tOf hm) (two_run (f := compareOp op) ha hb S (fun W1 x y d e g k r1 r2 q1 => h W1 x y d e _ _ k r1 r2 (fun v d' W' g' k' eg r' q' => by
    obtain ⟨c, rfl, q2⟩ := isB_elim q'
    exact ⟨c, r'.bl_inv, hQ c W' (g.trans g') k' (eg ▸ q2)⟩) q1) hw)⟩
variable {wt wu : TW M} {rest : List Expr}
@[simp] def wNot (w : TW M) : TW M := fun ρ g q => w ρ g fun b g' => q (!b) g'
theorem dt_not (ha : DT C a wt) : DT C (.UnaryOp .Not a pos) (wNot wt) := ⟨fun σ ρ W Q q S hQ hw => ttOf_of (pt_not pt_tOf) (ha.run σ ρ W _ _ S (fun b W' g k q1 => hQ (!b) W' g k q1) hw)⟩
theorem DW.t (h : DW C e wt) : DT C e wt := ⟨fun σ ρ W Q q S hQ hw pins s I => h.run σ ρ W Q q S hQ hw _ pins s I⟩
/-- .. as values -/
@[simp] def wNotV (w : EW M) : EW M := fun ρ g q => w ρ g fun d g' => isB d fun b => q (.bl (!b)) g'
@[simp] def wAndV (w u : EW M) : EW M := fun ρ g q => w ρ g fun d g' => isB d fun b => if b = true then u ρ g' q else q (.bl false) g'
@[simp] def wOrV (w u : EW M) : EW M := fun ρ g q => w ρ g fun d g' => isB d fun b => if b = true then q (.bl true) g' else u ρ g' q
theorem de_not (ha : DE C a wa) : DE C (.UnaryOp .Not a pos) (wNotV wa) := ⟨fun σ ρ W Q q S hQ hw => tOf_of (pe_not pe_tOf) (ha.run σ ρ W _ _ S (fun v d W' g k r1 q1 => by
  obtain ⟨b, rfl, q2⟩ := isB_elim q1
  exact ⟨b, r1.bl_inv, hQ _ _ W' g k (.bl _) q2⟩) hw)⟩
theorem de_one {op : BoolOp} (ha : DE C a wa) : DE C (.BoolOp op [a] pos) wa := ⟨fun σ ρ W Q q S hQ hw => tOf_of (pe_one pe_tOf) (ha.run σ ρ W _ _ S hQ hw)⟩
theorem de_and (ha : DE C a wa) (hb : DE C (.BoolOp .And (b :: rest) pos) wb) : DE C (.BoolOp .And (a :: b :: rest) pos) (wAndV wa wb) := ⟨fun σ ρ W Q q S hQ hw => tOf_of (pe_and pe_tOf pe_tOf) (ha.run σ ρ W _ _ S (fun v d W' g k r1 q1 => by
  obtain ⟨c, rfl, q2⟩ := isB_elim q1
  refine ⟨c, r1.bl_inv, ?_⟩
  cases c with
  | true => exact iteT (hb.run σ ρ W' Q q (S.step g k) (fun v d W2 g2 k2 r2 q2 => hQ v d W2 (g.trans g2) k2 r2 q2) q2)
  | false => exact iteF (hQ _ _ W' g k (.bl _) q2)) hw)⟩
theorem de_or (ha : DE C a wa) (hb : DE C (.BoolOp .Or (b :: rest) pos) wb) : DE C (.BoolOp .Or (a :: b :: rest) pos) (wOrV wa wb) := ⟨fun σ ρ W Q q S hQ hw => tOf_of (pe_or pe_tOf pe_tOf) (ha.run σ ρ W _ _ S (fun v d W' g k r1 q1 => by
  obtain ⟨c, rfl, q2⟩ := isB_elim q1
  refine ⟨c, r1.bl_inv, ?_⟩
  cases c with
  | true => exact iteT (hQ _ _ W' g k (.bl _) q2)
  | false => exact iteF (hb.run σ ρ W' Q q (S.step g k) (fun v d W2 g2 k2 r2 q2 => hQ v d W2 (g.trans g2) k2 r2 q2) q2)) hw)⟩
@[simp] def wIf (w : TW M) (wa wb : EW M) : EW M := fun ρ g q => w ρ g fun b g' => if b = true then wa ρ g' q else wb ρ g' q
theorem de_if {c : Expr} (hc : DT C c wt) (ha : DE C a wa) (hb : DE C b wb) : DE C (.IfExp c a b pos) (wIf wt wa wb) := ⟨fun σ ρ W Q q S hQ hw => tOf_of (pe_ifExp pt_tOf pe_tOf pe_tOf) (hc.run σ ρ W _ _ S (fun c W' g k q1 => by
  cases c with
  | true => exact iteT (ha.run σ ρ W' Q q (S.step g k) (fun v d W2 g2 k2 r2 q2 => hQ v d W2 (g.trans g2) k2 r2 q2) q1)
  | false => exact iteF (hb.run σ ρ W' Q q (S.step g k) (fun v d W2 g2 k2 r2 q2 => hQ v d W2 (g.trans g2) k2 r2 q2) q1)) hw)⟩
end
end DL
set_option Elab.async false
set_option linter.all false
set_option maxRecDepth 100000
set_option maxHeartbeats 1000000
namespace DL
open PySem L2

section
variable {M : Ghost} {C : Ct M} {W W1 W2 W' : Wd M} {σ : L2.St} {ρ : DEnv}
structure K3 (M : Ghost) where
  nx : DEnv → M.G → Prop
  rt : D → M.G → Prop
  bk : DEnv → M.G → Prop
  ct : DEnv → M.G → Prop
abbrev SW (M : Ghost) := K3 M → DEnv → M.G → Prop
/-- what is wanted by data is what is wanted by the heap -/
structure Lf (C : Ct M) (W : Wd M) (k : K3 M) (E : Ends) : Prop where
  nx : ∀ σ' ρ' W', Gs W W' → Sat C σ' ρ' W' → k.nx ρ' W'.g → E.nx σ' W'.H
  rt : ∀ v d W', Go C.W0 W' → Wok C.X.K W' → Rp C.X.K W'.F W'.R v d → k.rt d W'.g → E.rt v W'.H
  bk : ∀ σ' ρ' W', Gs W W' → Sat C σ' ρ' W' → k.bk ρ' W'.g → E.bk σ' W'.H
  ct : ∀ σ' ρ' W', Gs W W' → Sat C σ' ρ' W' → k.ct ρ' W'.g → E.ct σ' W'.H
theorem Lf.step {k : K3 M} {E : Ends} (l : Lf C W k E) (g : Gs W W1) : Lf C W1 k E :=
  ⟨fun σ' ρ' W' g' => l.nx σ' ρ' W' (g.trans g'), l.rt, fun σ' ρ' W' g' => l.bk σ' ρ' W' (g.trans g'), fun σ' ρ' W' g' => l.ct σ' ρ' W' (g.trans g')⟩
def tsOf (X : Cx) (st : Stmt) : TS := fun D σ H => ∀ (pins : List (Addr × Obj)) (s : Shared), Inv X pins σ H s → wpAny (model X.prog X.w) X.A (exec st X.env) (SP X pins D) X.xe s
theorem ps_tOf {X : Cx} {st : Stmt} : PS X st (tsOf X st) := ⟨fun pins s _ _ _ I h => h pins s I⟩
theorem tsOf_of {X : Cx} {st : Stmt} {t : TS} (h : PS X st t) {E : Ends} {H : Hp} (q : t E σ H) : tsOf X st E σ H := fun pins s I => h.run pins s σ H E I q
def tssOf (X : Cx) (st : List Stmt) : TS := fun D σ H => ∀ (pins : List (Addr × Obj)) (s : Shared), Inv X pins σ H s → wpAny (model X.prog X.w) X.A (execs st X.env) (SP X pins D) X.xe s
theorem pss_tOf {X : Cx} {st : List Stmt} : PSs X st (tssOf X st) := ⟨fun pins s _ _ _ I h => h pins s I⟩
theorem tssOf_of {X : Cx} {st : List Stmt} {t : TS} (h : PSs X st t) {E : Ends} {H : Hp} (q : t E σ H) : tssOf X st E σ H := fun pins s I => h.run pins s σ H E I q
structure DS (C : Ct M) (st : Stmt) (w : SW M) : Prop where
  run : ∀ (σ : L2.St) (ρ : DEnv) (W : Wd M) (k : K3 M) (E : Ends), Sat C σ ρ W → Lf C W k E → w k ρ W.g → tsOf C.X st E σ W.H
structure DSs (C : Ct M) (st : List Stmt) (w : SW M) : Prop where
  run : ∀ (σ : L2.St) (ρ : DEnv) (W : Wd M) (k : K3 M) (E : Ends), Sat C σ ρ W → Lf C W k E → w k ρ W.g → tssOf C.X st E σ W.H
variable {st : Stmt} {sts : List Stmt} {w u : SW M} {e : Expr} {we : EW M} {pos : Pos}
@[simp] def wNext : SW M := fun k ρ g => k.nx ρ g
@[simp] def wSeq (w u : SW M) : SW M := fun k ρ g => w { k with nx := u k } ρ g
theorem dss_nil : DSs C [] wNext := ⟨fun σ ρ W k E S l h => tssOf_of pss_nil (l.nx σ ρ W (Gs.refl W) S h)⟩
theorem dss_cons (h1 : DS C st w) (h2 : DSs C sts u) : DSs C (st :: sts) (wSeq w u) := ⟨fun σ ρ W k E S l h =>
  tssOf_of (pss_cons ps_tOf pss_tOf) (h1.run σ ρ W { k with nx := u k } _ S ⟨fun σ' ρ' W' g S' q => h2.run σ' ρ' W' k E S' (l.step g) q, l.rt, l.bk, l.ct⟩ h)⟩
theorem dss_one (h1 : DS C st w) : DSs C [st] w := ⟨fun σ ρ W k E S l h => tssOf_of (pss_one ps_tOf) (h1.run σ ρ W _ _ S l h)⟩
@[simp] def wRet (w : EW M) : SW M := fun k ρ g => w ρ g k.rt
theorem ds_ret (he : DE C e we) : DS C (.Return (some e) pos) (wRet we) := ⟨fun σ ρ W k E S l h =>
  tsOf_of (ps_ret pe_tOf) (he.run σ ρ W _ _ S (fun v d W' g ok r q => l.rt v d W' (S.go.trans g) ok r q) h)⟩
@[simp] def wIfS (c : TW M) (w u : SW M) : SW M := fun k ρ g => c ρ g fun b g' => if b = true then w k ρ g' else u k ρ g'
theorem ds_if {c : Expr} {a b : List Stmt} {wc : TW M} (hc : DT C c wc) (ha : DSs C a w) (hb : DSs C b u) : DS C (.If c a b pos) (wIfS wc w u) := ⟨fun σ ρ W k E S l h =>
  tsOf_of (ps_if pt_tOf pss_tOf pss_tOf) (hc.run σ ρ W _ _ S (fun b W' g ok q => by
    cases b with
    | true => exact iteT (ha.run σ ρ W' k E (S.step g ok) (l.step g.s) q)
    | false => exact iteF (hb.run σ ρ W' k E (S.step g ok) (l.step g.s) q)) h)⟩

theorem slOk_fresh (S : Sat C σ ρ W) (g : Go W W') {v : V} {s : Sl} (f : Fresh C.X.K W W' v s) : SlOk C W' s (some v) := by
  have old : ∀ p, W.H p = none → C.W0.H p = none := fun p h4 => by
    cases q : C.W0.H p with
    | none => rfl
    | some o => exact absurd h4 (S.go.live p (by rw [q]; simp))
  cases s with
  | no => trivial
  | im d => exact ⟨v, rfl, f⟩
  | own ds =>
    obtain ⟨p, vs, e, h1, h2, h3, h4, r⟩ := f
    exact ⟨p, vs, by rw [e], h1, h2, h3, old p h4, r⟩
  | odt ds =>
    obtain ⟨p, vs, e, h1, h2, h3, h4, r⟩ := f
    exact ⟨p, vs, by rw [e], h1, h2, h3, old p h4, r⟩
theorem own_live (S : Sat C σ ρ W) {m : Nat} {t : Sl} {p : Addr} (ow : t.isOwn = true) (e1 : ρ[m]? = some t) (e2 : σ[m]? = some (some (.ref p))) : W.H p ≠ none := by
  obtain ⟨o, h1, h2⟩ := S.sl m _ e1
  obtain ⟨q, u, h3, h4, _⟩ := h2.live ow
  rw [e2] at h1
  cases h1
  cases h3
  rw [h4]
  simp
/-- a value put into a slot that stands apart from the others -/
theorem Sat.puts (S : Sat C σ ρ W) {v : V} {s : Sl} (f : SlOk C W s (some v)) (i : Nat) (ap : ∀ p, s.isOwn = true → v = .ref p → ∀ (m : Nat) t, t.isOwn = true → m ≠ i → ρ[m]? = some t → σ[m]? ≠ some (some (.ref p))) :
    Sat C (σ.set i (some v)) (ρ.set i s) W := by
  refine ⟨S.ok, S.go, by rw [List.length_set, List.length_set, S.len], fun j t e => ?_, fun j l d1 d2 q e1 e2 w1 w2 e3 e4 => ?_, S.gs⟩
  · by_cases hij : i = j
    · subst hij
      have hlt : i < ρ.length := by
        have := (List.getElem?_eq_some_iff.mp e).1
        rwa [List.length_set] at this
      rw [List.getElem?_set_self hlt] at e
      cases e
      exact ⟨some v, List.getElem?_set_self (by rw [S.len]; exact hlt), f⟩
    · rw [List.getElem?_set_ne hij] at e
      obtain ⟨o, h1, h2⟩ := S.sl j t e
      exact ⟨o, by rw [List.getElem?_set_ne hij]; exact h1, h2⟩
  · have here : ∀ (m : Nat) d, i = m → (ρ.set i s)[m]? = some d → (σ.set i (some v))[m]? = some (some (.ref q)) → s = d ∧ v = .ref q := fun m d hm e1 e2 => by
      subst hm
      have hlt : i < ρ.length := by
        have := (List.getElem?_eq_some_iff.mp e1).1
        rwa [List.length_set] at this
      rw [List.getElem?_set_self hlt] at e1
      rw [List.getElem?_set_self (by rw [S.len]; exact hlt)] at e2
      exact ⟨Option.some.inj e1, Option.some.inj (Option.some.inj e2)⟩
    by_cases hj : i = j
    · by_cases hl : i = l
      · exact hj.symm.trans hl
      · obtain ⟨h1, h2⟩ := here j d1 hj e1 e3
        rw [List.getElem?_set_ne hl] at e2 e4
        exact absurd e4 (ap _ (h1 ▸ w1) h2 l d2 w2 (fun z => hl z.symm) e2)
    · by_cases hl : i = l
      · obtain ⟨h1, h2⟩ := here l d2 hl e2 e4
        rw [List.getElem?_set_ne hj] at e1 e3
        exact absurd e3 (ap _ (h1 ▸ w2) h2 j d1 w1 (fun z => hj z.symm) e1)
      · rw [List.getElem?_set_ne hj] at e1 e3
        rw [List.getElem?_set_ne hl] at e2 e4
        exact S.dis j l d1 d2 q e1 e2 w1 w2 e3 e4
theorem fresh_dead {K : PySem.W.Frag} {v : V} {s : Sl} {p : Addr} (f : Fresh K W W' v s) (ow : s.isOwn = true) (e : v = .ref p) : W.H p = none := by
  obtain ⟨p', u, e', h1, h2, h3, h4⟩ := f.live ow
  rw [e] at e'
  cases e'
  exact h4
theorem fresh_live {K : PySem.W.Frag} {v : V} {s : Sl} {p : Addr} (f : Fresh K W W' v s) (ow : s.isOwn = true) (e : v = .ref p) : W'.H p ≠ none := by
  obtain ⟨p', u, e', h1, h2, h3, h4⟩ := f.live ow
  rw [e] at e'
  cases e'
  rw [h1]
  simp
theorem Sat.set (S : Sat C σ ρ W) (g : Go W W') (ok : Wok C.X.K W') {v : V} {s : Sl} (f : Fresh C.X.K W W' v s) (i : Nat) : Sat C (σ.set i (some v)) (ρ.set i s) W' :=
  (S.step g ok).puts (slOk_fresh S g f) i fun p w1 e m t w2 _ e1 e2 => own_live S w2 e1 e2 (fresh_dead f w1 e)
@[simp] def wSet (i : Nat) (w : VW M) : SW M := fun k ρ g => w ρ g fun s g' => k.nx (ρ.set i s) g'
theorem ds_set {i : Nat} {x : Str} {pos' : Pos} {wv : VW M} (hN : C.X.N.Nodup) (hi : C.X.N[i]? = some x) (hx : Loc C.X.env.scope x) (he : DV C e wv) (hs : swapsWith e (some (.Name x pos')) pos.line C.X.env = pure false := by rfl)
    (hf : C.X.fn x = true ∨ C.X.env.scope.names.lookup x = some .local := by first | exact .inl rfl | exact .inr rfl | assumption) : DS C (.Assign [.Name x pos'] e pos) (wSet i wv) := ⟨fun σ ρ W k E S l h =>
  tsOf_of (ps_set hN hi hx pe_tOf hs hf) (he.run σ ρ W _ _ S (fun v s W' g ok f q => l.nx _ _ W' g.s (S.set g ok f i) q) h)⟩
/-- a thing of one's own, written -/
theorem Sat.writeG (S : Sat C σ ρ W) {i : Nat} {s0 s1 : Sl} {p : Addr} {u : HO} (e : ρ[i]? = some s0) (ow : s0.isOwn = true) (ow1 : s1.isOwn = true) (hp : σ[i]? = some (some (.ref p))) (f : W.F p = none → p ∉ W.R → C.W0.H p = none → SlOk C (W.put p u) s1 (some (.ref p))) :
    Sat C σ (ρ.set i s1) (W.put p u) ∧ Gs W (W.put p u) := by
  obtain ⟨o, h1, h2⟩ := S.sl i _ e
  obtain ⟨p', v, h2, h3, h4, h5, h6⟩ := h2.live ow
  rw [hp] at h1
  cases h1
  cases h2
  have hlt : i < ρ.length := (List.getElem?_eq_some_iff.mp e).1
  refine ⟨⟨S.ok.put h4 h5, S.go.put h6, by rw [List.length_set]; exact S.len, fun j t ej => ?_, fun j l d1 d2 q e1 e2 w1 w2 e3 e4 => ?_, S.gs.trans ⟨Same.refl _, fun _ _ h => h⟩⟩, Same.refl _, fun _ _ h => h⟩
  · by_cases hij : i = j
    · subst hij
      rw [List.getElem?_set_self hlt] at ej
      cases ej
      exact ⟨_, hp, f h4 h5 h6⟩
    · rw [List.getElem?_set_ne hij] at ej
      obtain ⟨o, q1, q2⟩ := S.sl j t ej
      refine ⟨o, q1, ?_⟩
      have ne : ∀ p2, t.isOwn = true → o = some (.ref p2) → upd W.H p u p2 = W.H p2 := fun p2 wt eo => upd_ne (fun z => hij (by subst z; exact S.dis i j _ _ p2 e ej ow wt hp (eo ▸ q1)))
      cases t with
      | no => trivial
      | im d => exact q2
      | own d2 =>
        obtain ⟨p2, v2, a1, a2, a3, a4, a5, a6⟩ := q2
        exact ⟨p2, v2, a1, (ne p2 rfl a1).trans a2, a3, a4, a5, a6⟩
      | odt d2 =>
        obtain ⟨p2, v2, a1, a2, a3, a4, a5, a6⟩ := q2
        exact ⟨p2, v2, a1, (ne p2 rfl a1).trans a2, a3, a4, a5, a6⟩
  · have back : ∀ (j : Nat) d, (ρ.set i s1)[j]? = some d → d.isOwn = true → ∃ d', ρ[j]? = some d' ∧ d'.isOwn = true := fun j d ej wd => by
      by_cases hij : i = j
      · subst hij; exact ⟨_, e, ow⟩
      · rw [List.getElem?_set_ne hij] at ej; exact ⟨_, ej, wd⟩
    obtain ⟨d1', e1', w1'⟩ := back j d1 e1 w1
    obtain ⟨d2', e2', w2'⟩ := back l d2 e2 w2
    exact S.dis j l _ _ q e1' e2' w1' w2' e3 e4
/-- a list of one's own, written -/
theorem Sat.write (S : Sat C σ ρ W) {i : Nat} {ds : List D} {p : Addr} {ws : List V} {es : List D} (e : ρ[i]? = some (.own ds)) (hp : σ[i]? = some (some (.ref p))) (r : RpA C.X.K W.F W.R ws es) :
    Sat C σ (ρ.set i (.own es)) (W.put p (.lst ws)) ∧ Gs W (W.put p (.lst ws)) :=
  S.writeG e rfl rfl hp fun h4 h5 h6 => ⟨p, ws, rfl, upd_same, h4, h5, h6, r⟩
/-- freezing a slot, where nothing is done -/
theorem Sat.frz (S : Sat C σ ρ W) {i : Nat} {ds : List D} (e : ρ[i]? = some (.own ds)) : ∃ W', W'.H = W.H ∧ W'.g = W.g ∧ Gs W W' ∧ Sat C σ (ρ.set i (.im (.lst ds))) W' := by
  obtain ⟨o, h1, p, vs, h2, h3, h4, h5, h6, r⟩ := S.sl i _ e
  subst h2
  have hlt : i < ρ.length := (List.getElem?_eq_some_iff.mp e).1
  have rr : ∀ {v d}, Rp C.X.K W.F W.R v d → Rp C.X.K (upd W.F p (.lst vs)) W.R v d := fun h => h.mono (same_new h4) fun _ _ z => z
  refine ⟨W.freeze p (.lst vs), rfl, rfl, ⟨same_new h4, fun _ _ h => h⟩, S.ok.freeze h3 h4 h5, Go.freeze S.go h4 h6, by rw [List.length_set]; exact S.len, fun j t ej => ?_, fun j l d1 d2 q e1 e2 w1 w2 e3 e4 => ?_, S.gs.trans ⟨same_new h4, fun _ _ h => h⟩⟩
  · by_cases hij : i = j
    · subst hij
      rw [List.getElem?_set_self hlt] at ej
      cases ej
      exact ⟨_, h1, .ref p, rfl, .lst upd_same (r.mono (same_new h4) fun _ _ z => z)⟩
    · rw [List.getElem?_set_ne hij] at ej
      obtain ⟨o, q1, q2⟩ := S.sl j t ej
      refine ⟨o, q1, ?_⟩
      have ne : ∀ p2, t.isOwn = true → o = some (.ref p2) → upd W.F p (.lst vs) p2 = W.F p2 := fun p2 wt eo => upd_ne (fun z => hij (by subst z; exact S.dis i j _ _ p2 e ej rfl wt h1 (eo ▸ q1)))
      cases t with
      | no => trivial
      | im d =>
        obtain ⟨v, a1, a2⟩ := q2
        exact ⟨v, a1, rr a2⟩
      | own d2 =>
        obtain ⟨p2, v2, a1, a2, a3, a4, a5, a6⟩ := q2
        exact ⟨p2, v2, a1, a2, (ne p2 rfl a1).trans a3, a4, a5, a6.mono (same_new h4) fun _ _ z => z⟩
      | odt d2 =>
        obtain ⟨p2, v2, a1, a2, a3, a4, a5, a6⟩ := q2
        exact ⟨p2, v2, a1, a2, (ne p2 rfl a1).trans a3, a4, a5, a6.mono (same_new h4) fun _ _ z => z⟩
  · have back : ∀ (j : Nat) d, (ρ.set i (.im (.lst ds)))[j]? = some d → d.isOwn = true → ρ[j]? = some d := fun j d ej wd => by
      by_cases hij : i = j
      · subst hij
        rw [List.getElem?_set_self hlt] at ej
        cases ej
        cases wd
      · rw [List.getElem?_set_ne hij] at ej; exact ej
    exact S.dis j l _ _ q (back j d1 e1 w1) (back l d2 e2 w2) w1 w2 e3 e4
@[simp] def wFrz (i : Nat) (w : SW M) : SW M := fun k ρ g => ∃ ds, ρ[i]? = some (.own ds) ∧ w k (ρ.set i (.im (.lst ds))) g
theorem dss_frz (i : Nat) (h : DSs C sts w) : DSs C sts (wFrz i w) := ⟨fun σ ρ W k E S l hw => by
  obtain ⟨ds, e, hw⟩ := hw
  obtain ⟨W', e1, e2, g, S'⟩ := S.frz e
  rw [← e1]
  exact h.run σ _ W' k E S' (l.step g) (by rw [e2]; exact hw)⟩

abbrev GW := D → DEnv → (DEnv → Prop) → Prop
abbrev GWs := List D → DEnv → (DEnv → Prop) → Prop
def tgOf (X : Cx) (tg : Expr) : TG := fun v σ H Q => ∀ (pins : List (Addr × Obj)) (s : Shared) (u : Value), Inv X pins σ H s → RelV v u →
  wpAny (model X.prog X.w) X.A (assign tg X.env u) (fun _ s' => ∃ σ' H', Inv X pins σ' H' s' ∧ Q σ' H') X.xe s
theorem pg_tOf {X : Cx} {tg : Expr} : PG X tg (tgOf X tg) := ⟨fun pins s _ _ _ u _ I r h => h pins s u I r⟩
theorem tgOf_of {X : Cx} {tg : Expr} {t : TG} (h : PG X tg t) {v : V} {H : Hp} {Q : L2.St → Hp → Prop} (q : t v σ H Q) : tgOf X tg v σ H Q := fun pins s u I r => h.run pins s σ H v u Q I r q
def tgsOf (X : Cx) (ts : List Expr) : TGs := fun vs σ H Q => ∀ (pins : List (Addr × Obj)) (s : Shared) (us : List Value), Inv X pins σ H s → Vals vs us →
  wpAny (model X.prog X.w) X.A (assignInOrder ((assignEach ts X.env).map (·.2)) us) (fun _ s' => ∃ σ' H', Inv X pins σ' H' s' ∧ Q σ' H') X.xe s
theorem pgs_tOf {X : Cx} {ts : List Expr} : PGs X ts (tgsOf X ts) := ⟨fun pins s _ _ _ us _ I r h => h pins s us I r⟩
theorem tgsOf_of {X : Cx} {ts : List Expr} {t : TGs} (h : PGs X ts t) {vs : List V} {H : Hp} {Q : L2.St → Hp → Prop} (q : t vs σ H Q) : tgsOf X ts vs σ H Q := fun pins s us I r => h.run pins s σ H vs us Q I r q
structure DG (C : Ct M) (is : List Nat) (tg : Expr) (w : GW) : Prop where
  run : ∀ (σ : L2.St) (ρ : DEnv) (W : Wd M) (v : V) (d : D) (Q : L2.St → Hp → Prop) (q : DEnv → Prop), Sat C σ ρ W → Rp C.X.K W.F W.R v d →
    (∀ σ' ρ', Sat C σ' ρ' W → σ'.length = σ.length → (∀ j, j ∉ is → σ'[j]? = σ[j]?) → q ρ' → Q σ' W.H) → w d ρ q → tgOf C.X tg v σ W.H Q
structure DGs (C : Ct M) (is : List Nat) (ts : List Expr) (w : GWs) : Prop where
  run : ∀ (σ : L2.St) (ρ : DEnv) (W : Wd M) (vs : List V) (ds : List D) (Q : L2.St → Hp → Prop) (q : DEnv → Prop), Sat C σ ρ W → RpA C.X.K W.F W.R vs ds →
    (∀ σ' ρ', Sat C σ' ρ' W → σ'.length = σ.length → (∀ j, j ∉ is → σ'[j]? = σ[j]?) → q ρ' → Q σ' W.H) → w ds ρ q → tgsOf C.X ts vs σ W.H Q
@[simp] def gwN (i : Nat) : GW := fun d ρ q => q (ρ.set i (.im d))
@[simp] def gwNil : GWs := fun ds ρ q => match ds with
  | [] => q ρ
  | _ => False
@[simp] def gwCons (w : GW) (u : GWs) : GWs := fun ds ρ q => match ds with
  | d :: ds => w d ρ fun ρ' => u ds ρ' q
  | [] => False
@[simp] def gwT (n : Nat) (u : GWs) : GW := fun d ρ q => match d with
  | .tup ds => ds.length = n ∧ u ds ρ q
  | _ => False
theorem dg_name {i : Nat} {x : Str} (h : PG C.X (.Name x pos) (gName i)) : DG C [i] (.Name x pos) (gwN i) := ⟨fun σ ρ W v d Q q S r hQ hw =>
  tgOf_of h (hQ _ _ (S.set (Go.refl W) S.ok (s := .im d) r i) (by simp) (fun j hj => by rw [List.getElem?_set_ne (by simpa using Ne.symm (by simpa using hj))]) hw)⟩
theorem dgs_nil : DGs C [] [] gwNil := ⟨fun σ ρ W vs ds Q q S r hQ hw => by
  cases ds with
  | nil =>
    cases r
    exact tgsOf_of pgs_nil ⟨rfl, hQ σ ρ S rfl (fun _ _ => rfl) hw⟩
  | cons d ds => exact hw.elim⟩
theorem dgs_cons {is js : List Nat} {tg : Expr} {ts : List Expr} {gw : GW} {gs : GWs} (h1 : DG C is tg gw) (h2 : DGs C js ts gs)
    (hs : (assignEach (tg :: ts) C.X.env).map (·.2) = assign tg C.X.env :: (assignEach ts C.X.env).map (·.2) := by rfl) : DGs C (is ++ js) (tg :: ts) (gwCons gw gs) := ⟨fun σ ρ W vs ds Q q S r hQ hw => by
  cases ds with
  | nil => exact hw.elim
  | cons d ds =>
    cases r with
    | cons r1 r2 =>
      refine tgsOf_of (pgs_cons pg_tOf pgs_tOf hs) ⟨_, _, rfl, h1.run σ ρ W _ d _ _ S r1 (fun σ' ρ' S' l1 k1 q1 => ?_) hw⟩
      refine h2.run σ' ρ' W _ ds _ _ S' r2 (fun σ2 ρ2 S2 l2 k2 q2 => hQ σ2 ρ2 S2 (l2.trans l1) (fun j hj => ?_) q2) q1
      rw [List.mem_append, not_or] at hj
      rw [k2 j hj.2, k1 j hj.1]⟩
theorem dg_tup {is : List Nat} {ts : List Expr} {kk n : Nat} {gs : GWs} (hc : C.X.calm = true) (h : DGs C is ts gs) (hn : (assignEach ts C.X.env).length = n := by rfl) (hst : (assignEach ts C.X.env).findIdx? (·.1) = none := by rfl) :
    DG C is (.Tuple ts kk pos) (gwT n gs) := ⟨fun σ ρ W v d Q q S r hQ hw => by
  cases d with
  | tup ds =>
    cases r with
    | tup hs r2 =>
      refine tgOf_of (pg_tup hc pgs_tOf hn hst) ⟨_, _, rfl, same_tup S.ok.sub hs, by rw [r2.length]; exact hw.1, h.run σ ρ W _ ds _ _ S r2 hQ hw.2⟩
  | _ => exact hw.elim⟩

structure WK (K : PySem.W.Frag) (Ws : Wd M) (J : It) (ds : List D) : Prop where
  go : ∀ (i : Nat) (W : Wd M) d, Gs Ws W → Wok K W → ds[i]? = some d → J.go i W.H ∧ ∀ x H', J.yld i W.H x H' → ∃ W', W'.H = H' ∧ Go W W' ∧ Wok K W' ∧ W'.g = W.g ∧ Rp K W'.F W'.R x d
  stop : ∀ (i : Nat) (W : Wd M), Gs Ws W → Wok K W → ds[i]? = none → J.stop i W.H
abbrev IW (M : Ghost) := DEnv → M.G → (List D → M.G → Prop) → Prop
def iOf (X : Cx) (tg iter : Expr) : TI := fun σ H R => ∀ (pins : List (Addr × Obj)) (s : Shared), Inv X pins σ H s →
  wpAny (model X.prog X.w) X.A (eval iter X.env) (fun v s1 => wpAny (model X.prog X.w) X.A (pyIter v) (PIE X pins σ tg R) X.xe s1) X.xe s
theorem pi_tOf {X : Cx} {tg iter : Expr} : PI X tg iter (iOf X tg iter) := ⟨fun pins s _ _ _ I h => h pins s I⟩
theorem iOf_of {X : Cx} {tg iter : Expr} {t : TI} (h : PI X tg iter t) {H : Hp} {R : It → Hp → Prop} (q : t σ H R) : iOf X tg iter σ H R := fun pins s I => h.run pins s σ H R I q
structure DI (C : Ct M) (tg iter : Expr) (w : IW M) : Prop where
  run : ∀ (σ : L2.St) (ρ : DEnv) (W : Wd M) (R : It → Hp → Prop) (q : List D → M.G → Prop), Sat C σ ρ W → (∀ J ds W', Go W W' → Wok C.X.K W' → WK C.X.K W' J ds → q ds W'.g → R J W'.H) → w ρ W.g q → iOf C.X tg iter σ W.H R
/-- a list, a tuple or a text that stands still -/
def itemsOf : D → Option (List D)
  | .lst ds => some ds
  | .tup ds => some ds
  | .str x => some (x.map fun c => .str [c])
  | _ => none
@[simp] def wItems (w : EW M) : IW M := fun ρ g q => w ρ g fun d g' => ∃ ds, itemsOf d = some ds ∧ q ds g'
def iSeq (K : PySem.W.Frag) (tl : TE) : TI := fun σ H R => tl σ H fun x H1 => (∃ a xs, x = .ref a ∧ SqL K H1 a xs ∧ R (Itl K a) H1) ∨ (∃ a xs, x = .ref a ∧ SqT K H1 a xs ∧ R (Itt K a) H1) ∨ (∃ z, x = .str z ∧ R (Its z) H1)
theorem pi_seq {X : Cx} {tg l : Expr} {tl : TE} (hl : PE X l tl) : PI X tg l (iSeq X.K tl) := by
  refine ⟨fun pins s σ H R I h => ?_⟩
  refine thn (hl.run pins s σ H _ I h) fun v s1 ⟨x, H1, I1, r1, q1⟩ => ?_
  rcases q1 with ⟨a, xs, rfl, hq, q⟩ | ⟨a, xs, rfl, hq, q⟩ | ⟨z, rfl, q⟩
  · cases r1
    obtain ⟨its, rv, p, hz⟩ := I1.list hq
    refine wpAny_pyIter_list p.isList ?_
    refine ⟨s1.heap.objs.size, [s1.heap.objs.size], _, _, H1, rfl, I1.kept (t' := s1.toks) fun b o e => Heap.get?_push_of_some _ e, turn_list a _, ⟨_, Heap.get?_push_size _ rfl, rfl, rfl⟩, fun b hb => ?_, q⟩
    have e : b = s1.heap.objs.size := by simpa using hb
    subst e
    exact I1.fpOk (Nat.le_refl _) (I1.hok.fresh (Nat.le_refl _))
  · cases r1
    obtain ⟨its, rv, p, hz⟩ := I1.tuple hq
    refine wpAny_pyIter_tuple (show s1.heap.IsTuple a its.toArray from p) ?_
    refine ⟨s1.heap.objs.size, [s1.heap.objs.size], _, _, H1, rfl, I1.kept (t' := s1.toks) fun b o e => Heap.get?_push_of_some _ e, turn_tuple a _, ⟨_, Heap.get?_push_size _ rfl, rfl, rfl⟩, fun b hb => ?_, q⟩
    have e : b = s1.heap.objs.size := by simpa using hb
    subst e
    exact I1.fpOk (Nat.le_refl _) (I1.hok.fresh (Nat.le_refl _))
  · obtain ⟨t, rfl⟩ := r1
    cases ha : z.cps.all (· < 128)
    · exact wpAny_pyIter_wide ha (pi_one (tk := s1.toks) I1 _ (turn_str _ z t "str_iterator" (.inr rfl)) ⟨_, Heap.get?_push_size _ rfl, rfl, rfl⟩ q)
    · exact wpAny_pyIter_ascii ha (pi_one (tk := s1.toks) I1 _ (turn_str _ z t "str_ascii_iterator" (.inl rfl)) ⟨_, Heap.get?_push_size _ rfl, rfl, rfl⟩ q)
theorem wk_lst {K : PySem.W.Frag} {a : Addr} {vs : List V} {ds : List D} (h : W.F a = some (.lst vs)) (r : RpA K W.F W.R vs ds) : WK K W (Itl K a) ds where
  go := fun i W1 d g k e => by
    obtain ⟨v, e1, e2⟩ := r.get' e
    have hl : SqL K W1.H a vs := .of (k.sub _ _ (g.sub _ _ h))
    refine ⟨⟨vs, v, hl, e1⟩, fun x H' y => ?_⟩
    obtain ⟨rfl, y⟩ := y
    have ex : x = v := Option.some.inj ((y _ hl).symm.trans e1)
    subst ex
    exact ⟨W1, rfl, Go.refl _, k, rfl, e2.gs g⟩
  stop := fun i W1 g k e => ⟨vs, .of (k.sub _ _ (g.sub _ _ h)), by rw [r.length]; exact List.getElem?_eq_none_iff.mp e⟩
theorem wk_tup {K : PySem.W.Frag} {a : Addr} {vs : List V} {ds : List D} (h : SqT K W.F a vs) (r : RpA K W.F W.R vs ds) : WK K W (Itt K a) ds where
  go := fun i W1 d g k e => by
    obtain ⟨v, e1, e2⟩ := r.get' e
    have hl : SqT K W1.H a vs := same_tup k.sub (same_tup g.sub h)
    refine ⟨⟨vs, v, hl, e1⟩, fun x H' y => ?_⟩
    obtain ⟨rfl, y⟩ := y
    have ex : x = v := Option.some.inj ((y _ hl).symm.trans e1)
    subst ex
    exact ⟨W1, rfl, Go.refl _, k, rfl, e2.gs g⟩
  stop := fun i W1 g k e => ⟨vs, same_tup k.sub (same_tup g.sub h), by rw [r.length]; exact List.getElem?_eq_none_iff.mp e⟩
theorem wk_str {K : PySem.W.Frag} {z : Str} : WK K W (Its z) (z.cps.toList.map fun c => .str [c]) where
  go := fun i W1 d g k e => by
    rw [List.getElem?_map] at e
    cases q : z.cps.toList[i]? with
    | none => rw [q] at e; cases e
    | some c =>
      rw [q] at e
      cases e
      have hi : i < z.cps.size := by
        have := (List.getElem?_eq_some_iff.mp q).1
        simpa using this
      refine ⟨hi, fun x H' y => ?_⟩
      obtain ⟨rfl, c', e1, rfl⟩ := y
      refine ⟨W1, rfl, Go.refl _, k, rfl, .str _ _ ?_⟩
      have : z.cps.toList[i]? = some c' := by simpa using e1
      rw [q] at this
      cases this
      rfl
  stop := fun i W1 g k e => by
    have := List.getElem?_eq_none_iff.mp e
    rw [List.length_map] at this
    show z.cps.size ≤ i
    simpa using this
theorem di_seq {tg : Expr} (he : DE C e we) : DI C tg e (wItems we) := ⟨fun σ ρ W R q S hR hw => iOf_of (pi_seq pe_tOf) (he.run σ ρ W _ _ S (fun v d W' g k r q1 => by
  obtain ⟨ds, e1, q1⟩ := q1
  cases d with
  | lst ds' =>
    cases e1
    cases r with
    | lst h r2 => exact .inl ⟨_, _, rfl, .of (k.sub _ _ h), hR _ _ W' g k (wk_lst h r2) q1⟩
  | tup ds' =>
    cases e1
    cases r with
    | tup h r2 => exact .inr (.inl ⟨_, _, rfl, same_tup k.sub h, hR _ _ W' g k (wk_tup h r2) q1⟩)
  | str x =>
    cases e1
    cases r with
    | str z _ h =>
      subst h
      exact .inr (.inr ⟨z, rfl, hR _ _ W' g k wk_str q1⟩)
  | _ => cases e1) hw)⟩

def forW (gw : GW) (wb : SW M) : List D → SW M
  | [], k => k.nx
  | d :: ds, k => fun ρ g => gw d ρ fun ρ' => wb { nx := forW gw wb ds k, rt := k.rt, bk := k.nx, ct := forW gw wb ds k } ρ' g
@[simp] def wFor (wi : IW M) (gw : GW) (wb : SW M) : SW M := fun k ρ g => wi ρ g fun ds g' => forW gw wb ds k ρ g'
theorem ds_for {tg iter : Expr} {body : List Stmt} {is : List Nat} {wi : IW M} {gw : GW} {wb : SW M} (hp : PassesOwn (model C.X.prog C.X.w) C.X.A C.X.env C.X.xe) (hc : C.X.calm = true) (hi : DI C tg iter wi) (hg : DG C is tg gw) (hb : DSs C body wb)
    (hs : ∀ x, foldedSetIterable iter C.X.env x = pure x := by intro _; rfl) : DS C (.For tg iter body [] pos) (wFor wi gw wb) := ⟨fun σ ρ W k E S l h => by
  refine tsOf_of (ps_for hp hc pi_tOf pg_tOf pss_tOf hs) (hi.run σ ρ W _ _ S (fun J ds W1 g1 k1 wk q1 => ?_) h)
  refine ⟨fun i m σ H => ∃ (ρ : DEnv) (W2 : Wd M), W2.H = H ∧ Sat C σ ρ W2 ∧ Gs W1 W2 ∧ m = ds.length - i ∧ forW gw wb (ds.drop i) k ρ W2.g, ⟨ds.length, ρ, W1, rfl, S.step g1 k1, Gs.refl _, rfl, q1⟩, ?_⟩
  rintro i m σ2 H2 ⟨ρ2, W2, rfl, S2, g2, rfl, q2⟩
  cases hd : ds[i]? with
  | none =>
    have e : ds.drop i = [] := List.drop_eq_nil_of_le (List.getElem?_eq_none_iff.mp hd)
    rw [e] at q2
    exact .inl ⟨wk.stop i W2 g2 S2.ok hd, l.nx σ2 ρ2 W2 (g1.s.trans g2) S2 q2⟩
  | some d =>
    obtain ⟨hlt, hd'⟩ := List.getElem?_eq_some_iff.mp hd
    have e : ds.drop i = d :: ds.drop (i + 1) := by rw [List.drop_eq_getElem_cons hlt, hd']
    rw [e] at q2
    obtain ⟨go, yld⟩ := wk.go i W2 d g2 S2.ok hd
    refine .inr ⟨go, fun σ H => ∃ (ρ : DEnv) (W3 : Wd M), W3.H = H ∧ Sat C σ ρ W3 ∧ Gs W1 W3 ∧ forW gw wb (ds.drop (i + 1)) k ρ W3.g, ?_, fun x H' y => ?_⟩
    · rintro σ' H' ⟨ρ3, W3, e3, S3, g3, q3⟩
      exact ⟨ds.length - (i + 1), by omega, ρ3, W3, e3, S3, g3, rfl, q3⟩
    · obtain ⟨W3, rfl, g3, k3, e3, r3⟩ := yld x H' y
      rw [← e3] at q2
      refine hg.run σ2 ρ2 W3 x d _ _ (S2.step g3 k3) r3 (fun σ4 ρ4 S4 _ _ q4 => ?_) q2
      have g13 : Gs W1 W3 := g2.trans g3.s
      have nx : ∀ σ' ρ' W', Gs W3 W' → Sat C σ' ρ' W' → forW gw wb (ds.drop (i + 1)) k ρ' W'.g → ∃ (ρ : DEnv) (W4 : Wd M), W4.H = W'.H ∧ Sat C σ' ρ W4 ∧ Gs W1 W4 ∧ forW gw wb (ds.drop (i + 1)) k ρ W4.g :=
        fun σ' ρ' W' g S' q => ⟨ρ', W', rfl, S', g13.trans g, q⟩
      exact hb.run σ4 ρ4 W3 { nx := forW gw wb (ds.drop (i + 1)) k, rt := k.rt, bk := k.nx, ct := forW gw wb (ds.drop (i + 1)) k } _ S4 ⟨nx, l.rt, fun σ' ρ' W' g S' q => l.nx σ' ρ' W' ((g1.s.trans g13).trans g) S' q, nx⟩ q4⟩

end
end DL
set_option Elab.async false
set_option linter.all false
set_option maxRecDepth 100000
set_option maxHeartbeats 1000000
namespace DL
open PySem L2
section
variable {M : Ghost} {C : Ct M} {W W1 W2 W' : Wd M} {σ : L2.St} {ρ : DEnv} {e : Expr} {es : List Expr} {we : EW M} {pos : Pos}

@[simp] def wipeD (ρ : DEnv) : List Nat → DEnv
  | [] => ρ
  | v :: vs => (wipeD ρ vs).set v .no
theorem Sat.setNo (S : Sat C σ ρ W) (i : Nat) : Sat C (σ.set i none) (ρ.set i .no) W := by
  refine ⟨S.ok, S.go, by rw [List.length_set, List.length_set, S.len], fun j t e => ?_, fun j l ds es p e1 e2 w1 w2 e3 e4 => ?_, S.gs⟩
  · by_cases hij : i = j
    · subst hij
      have hlt : i < ρ.length := by
        have := (List.getElem?_eq_some_iff.mp e).1
        rwa [List.length_set] at this
      rw [List.getElem?_set_self hlt] at e
      cases e
      exact ⟨none, by rw [List.getElem?_set_self (by rw [S.len]; exact hlt)], trivial⟩
    · rw [List.getElem?_set_ne hij] at e
      obtain ⟨o, h1, h2⟩ := S.sl j t e
      exact ⟨o, by rw [List.getElem?_set_ne hij]; exact h1, h2⟩
  · have nj : ∀ (j : Nat) d, (ρ.set i .no)[j]? = some d → d.isOwn = true → i ≠ j ∧ ρ[j]? = some d := fun j d e wd => by
      by_cases hij : i = j
      · subst hij
        have hlt : i < ρ.length := by
          have := (List.getElem?_eq_some_iff.mp e).1
          rwa [List.length_set] at this
        rw [List.getElem?_set_self hlt] at e
        cases e
        cases wd
      · rw [List.getElem?_set_ne hij] at e
        exact ⟨hij, e⟩
    obtain ⟨n1, e1'⟩ := nj j ds e1 w1
    obtain ⟨n2, e2'⟩ := nj l es e2 w2
    rw [List.getElem?_set_ne n1] at e3
    rw [List.getElem?_set_ne n2] at e4
    exact S.dis j l ds es p e1' e2' w1 w2 e3 e4
theorem Sat.wipe (S : Sat C σ ρ W) : ∀ vs : List Nat, Sat C (L2.wipe σ vs) (wipeD ρ vs) W
  | [] => S
  | v :: vs => (Sat.wipe S vs).setNo v
theorem wipe_in {σ : L2.St} {i : Nat} : ∀ {vs : List Nat}, i ∈ vs → (L2.wipe σ vs)[i]? = if i < σ.length then some none else none
  | [], h => by cases h
  | v :: vs, h => by
    unfold L2.wipe
    by_cases hi : v = i
    · subst hi
      by_cases hv : v < σ.length
      · rw [if_pos hv, List.getElem?_set_self (by rw [wipe_length]; exact hv)]
      · rw [if_neg hv, List.getElem?_eq_none (by rw [List.length_set, wipe_length]; omega)]
    · rw [List.getElem?_set_ne hi]
      exact wipe_in ((List.mem_cons.mp h).resolve_left fun z => hi z.symm)
theorem wipe_eq {σ σ' : L2.St} {vs : List Nat} (hl : σ'.length = σ.length) (h : ∀ j, j ∉ vs → σ'[j]? = σ[j]?) : L2.wipe σ' vs = L2.wipe σ vs := by
  refine List.ext_getElem? fun j => ?_
  by_cases hj : j ∈ vs
  · rw [wipe_in hj, wipe_in hj, hl]
  · rw [wipe_out hj, wipe_out hj, h j hj]
abbrev Ct.blk (C : Ct M) (s : Shared) (H : Hp) (scope : Scope) (cenv : Env) (fp : List Addr) : Ct M := ⟨C.X.blk s H scope cenv fp, C.W0, fun _ _ _ => False, C.B⟩
abbrev Ct.bk (C : Ct M) (s : Shared) (H : Hp) (scope : Scope) (cl : List (Str × Addr)) (Cc : Addr) (fp : List Addr) : Ct M := C.blk s H scope (compEnvC scope cl Cc C.X.env) fp
theorem Sat.blk (S : Sat C σ ρ W) {s : Shared} {H : Hp} {scope : Scope} {cenv : Env} {fp : List Addr} : Sat (C.blk s H scope cenv fp) σ ρ W := ⟨S.ok, S.go, S.len, S.sl, S.dis, S.gs⟩
def ttsOf (X : Cx) (ifs : List Expr) : TT := fun σ H Q => ∀ (pins : List (Addr × Obj)) (s : Shared), Inv X pins σ H s →
  wpAny (model X.prog X.w) X.A (forIn ifs true fun c r => if r = true then do let ok ← isTrue c X.env (eval c X.env); pure (ForInStep.yield ok) else pure (ForInStep.yield r)) (TP X pins σ Q) X.xe s
structure DTs (C : Ct M) (ifs : List Expr) (w : TW M) : Prop where
  run : ∀ (σ : L2.St) (ρ : DEnv) (W : Wd M) (Q : Bool → Hp → Prop) (q : Bool → M.G → Prop), Sat C σ ρ W → (∀ b W', Go W W' → Wok C.X.K W' → q b W'.g → Q b W'.H) → w ρ W.g q → ttsOf C.X ifs σ W.H Q
@[simp] def wYes : TW M := fun _ g q => q true g
theorem dts_nil : DTs C [] wYes := ⟨fun σ ρ W Q q S hQ hw pins s I => pts_nil.run pins s σ W.H Q I (hQ true W (Go.refl W) S.ok hw)⟩
theorem dts_one {c : Expr} {wt : TW M} (h : DT C c wt) : DTs C [c] wt := ⟨fun σ ρ W Q q S hQ hw pins s I => (pts_one pt_tOf).run pins s σ W.H Q I (h.run σ ρ W Q q S hQ hw)⟩
def lcW (gw : GW) (wt : TW M) (we : EW M) (ρ : DEnv) : List D → M.G → (List D → M.G → Prop) → Prop
  | [], g, q => q [] g
  | d :: ds, g, q => gw d ρ fun ρ' => wt ρ' g fun b g1 => if b = true then we ρ' g1 fun y g2 => lcW gw wt we ρ ds g2 fun ys g3 => q (y :: ys) g3 else lcW gw wt we ρ ds g1 q
@[simp] def wLc (wi : IW M) (gw : GW) (wt : TW M) (we : EW M) (vs : List Nat) : NW M := fun ρ g q => wi ρ g fun ds g' => ds.length ≤ sizeLine ∧ lcW gw wt we (wipeD ρ vs) ds g' q
theorem lcW_mono {gw : GW} {wt : TW M} {ds : List D} {g : M.G} {q q' : List D → M.G → Prop} (h : lcW gw wt we ρ ds g q) (e : q = q') : lcW gw wt we ρ ds g q' := e ▸ h
section
variable {elt tg iter : Expr} {ifs : List Expr} {scope : Scope} {own : List (Str × Nat)} {wi : IW M} {gw : GW} {wt : TW M} {is : List Nat}
def teB (C : Ct M) (scope : Scope) (e : Expr) : TE := fun σ H Q => ∀ s H0 Cc cl fp, tOf (C.X.blk s H0 scope (compEnvC scope cl Cc C.X.env) fp) e σ H Q
def ttB (C : Ct M) (scope : Scope) (e : List Expr) : TT := fun σ H Q => ∀ s H0 Cc cl fp, ttsOf (C.X.blk s H0 scope (compEnvC scope cl Cc C.X.env) fp) e σ H Q
def tgB (C : Ct M) (scope : Scope) (e : Expr) : TG := fun v σ H Q => ∀ s H0 Cc cl fp, tgOf (C.X.blk s H0 scope (compEnvC scope cl Cc C.X.env) fp) e v σ H Q
structure DIg (C : Ct M) (ti : TI) (w : IW M) : Prop where
  run : ∀ (σ : L2.St) (ρ : DEnv) (W : Wd M) (R : It → Hp → Prop) (q : List D → M.G → Prop), Sat C σ ρ W → (∀ J ds W', Go W W' → Wok C.X.K W' → WK C.X.K W' J ds → q ds W'.g → R J W'.H) → w ρ W.g q → ti σ W.H R
theorem lc_run {ti : TI} (hi : DIg C ti wi) (hvs : ∀ j ∈ is, j ∈ own.map (·.2)) (hg : ∀ s H Cc cl fp, DG (C.bk s H scope cl Cc fp) is tg gw) (ht : ∀ s H Cc cl fp, DTs (C.bk s H scope cl Cc fp) ifs wt)
    (he : ∀ s H Cc cl fp, DE (C.bk s H scope cl Cc fp) elt we) {Q : VK} {q : List D → M.G → Prop} (S : Sat C σ ρ W)
    (hQ : ∀ p vs ds W', Go W W' → Wok C.X.K W' → W'.H p = some (.lst vs) → W'.F p = none → p ∉ W'.R → W.H p = none → RpA C.X.K W'.F W'.R vs ds → q ds W'.g → Q (.ref p) W'.H)
    (hw : wLc wi gw wt we (own.map (·.2)) ρ W.g q) : tLc ti (tgB C scope tg) (ttB C scope ifs) (teB C scope elt) (own.map (·.2)) σ W.H Q := by
  refine hi.run σ ρ W _ _ S (fun J ds W1 g1 k1 wk q1 P hP => ?_) hw
  obtain ⟨hz, q1⟩ := q1
  have hP0 : W.H P = none := by
    cases z : W.H P with
    | none => rfl
    | some o => exact absurd hP (g1.live P (by rw [z]; simp))
  refine ⟨fun i m H => ∃ (W2 : Wd M) (acc : List V) (as : List D), W2.H = H ∧ Go W1 W2 ∧ Wok C.X.K W2 ∧ H P = some (.lst acc) ∧ W2.F P = none ∧ P ∉ W2.R ∧ RpA C.X.K W2.F W2.R acc as ∧ as.length ≤ i ∧ m = ds.length - i ∧
      lcW gw wt we (wipeD ρ (own.map (·.2))) (ds.drop i) W2.g fun ys g' => q (as ++ ys) g',
    ⟨ds.length, W1.new P (.lst []), [], [], rfl, Go.new k1 hP, k1.new hP, upd_same, k1.noF hP, k1.noR hP, .nil, Nat.zero_le _, rfl, q1⟩, ?_⟩
  rintro i m H ⟨W2, acc, as, rfl, g2, k2, h1, h2, h3, r, hl, rfl, q2⟩
  cases hd : ds[i]? with
  | none =>
    have e : ds.drop i = [] := List.drop_eq_nil_of_le (List.getElem?_eq_none_iff.mp hd)
    rw [e] at q2
    have q3 : q (as ++ []) W2.g := q2
    rw [List.append_nil] at q3
    exact .inl ⟨wk.stop i W2 g2.s k2 hd, hQ P acc as W2 (g1.trans g2) k2 h1 h2 h3 hP0 r q3⟩
  | some d =>
    obtain ⟨hlt, hd'⟩ := List.getElem?_eq_some_iff.mp hd
    have e : ds.drop i = d :: ds.drop (i + 1) := by rw [List.drop_eq_getElem_cons hlt, hd']
    rw [e] at q2
    obtain ⟨go, yld⟩ := wk.go i W2 d g2.s k2 hd
    refine .inr ⟨go, fun H => ∃ (W2 : Wd M) (acc : List V) (as : List D), W2.H = H ∧ Go W1 W2 ∧ Wok C.X.K W2 ∧ H P = some (.lst acc) ∧ W2.F P = none ∧ P ∉ W2.R ∧ RpA C.X.K W2.F W2.R acc as ∧ as.length ≤ i + 1 ∧
      lcW gw wt we (wipeD ρ (own.map (·.2))) (ds.drop (i + 1)) W2.g fun ys g' => q (as ++ ys) g', ?_, fun x H' y => ?_⟩
    · rintro H' ⟨W3, a3, d3, b1, b2, b3, b4, b5, b6, b7, b8, b9⟩
      exact ⟨ds.length - (i + 1), by omega, W3, a3, d3, b1, b2, b3, b4, b5, b6, b7, b8, rfl, b9⟩
    · obtain ⟨W3, rfl, g3, k3, e3, r3⟩ := yld x H' y
      rw [← e3] at q2
      have Sw : Sat C (L2.wipe σ (own.map (·.2))) (wipeD ρ (own.map (·.2))) W3 := (S.step ((g1.trans g2).trans g3) k3).wipe _
      -- the new list stays as it is
      have stay : ∀ {W4 : Wd M}, Go W2 W4 → W4.H P = some (.lst acc) ∧ W4.F P = none ∧ P ∉ W4.R := fun {W4} g => by
        refine ⟨g.keep _ _ h1 h3, ?_, g.notR (by rw [h1]; simp) h3⟩
        cases z : W4.F P with
        | none => rfl
        | some o =>
          rcases g.young P (by rw [z]; simp) with a | a
          · exact absurd h2 a
          · rw [h1] at a; cases a
      intro s0 H0 Cc cl fp
      refine (hg s0 H0 Cc cl fp).run _ _ W3 x d _ _ Sw.blk r3 (fun σ4 ρ4 S4 l4 n4 q4 => ⟨?_, fun s1 H1 Cc1 cl1 fp1 => ?_⟩) q2
      · rw [wipe_eq (σ := L2.wipe σ (own.map (·.2))) l4 fun j hj => n4 j fun z => hj (hvs j z)]
        exact wipe_eq (wipe_length _ _) fun j hj => wipe_out hj
      · refine (ht s1 H1 Cc1 cl1 fp1).run σ4 ρ4 W3 _ _ ⟨S4.ok, S4.go, S4.len, S4.sl, S4.dis, S4.gs⟩ (fun b W5 g5 k5 q5 => ?_) q4
        cases b with
        | false =>
          obtain ⟨a1, a2, a3⟩ := stay (g3.trans g5)
          exact iteF ⟨W5, acc, as, rfl, (g2.trans g3).trans g5, k5, a1, a2, a3, r.step (g3.trans g5), by omega, q5⟩
        | true =>
          refine iteT fun s2 H2 Cc2 cl2 fp2 => ?_
          have S5 := S4.step g5 k5
          refine (he s2 H2 Cc2 cl2 fp2).run σ4 ρ4 W5 _ _ ⟨S5.ok, S5.go, S5.len, S5.sl, S5.dis, S5.gs⟩ (fun v dy W6 g6 k6 r6 q6 => ?_) q5
          obtain ⟨a1, a2, a3⟩ := stay ((g3.trans g5).trans g6)
          refine ⟨acc, a1, by rw [r.length]; omega, W6.put P (.lst (acc ++ [v])), acc ++ [v], as ++ [dy], rfl, Go.put (((g2.trans g3).trans g5).trans g6) hP, k6.put a2 a3, upd_same, a2, a3,
            (r.step ((g3.trans g5).trans g6)).append (.cons r6 .nil), by rw [List.length_append, List.length_singleton]; omega, ?_⟩
          refine lcW_mono q6 ?_
          funext ys g'
          rw [List.append_assoc]
          rfl
theorem dn_lc (hc : C.X.calm = true) (hN : C.X.N.Nodup) (hi : DI C tg iter wi) (ok : BlkOk C.X.N C.X.env.scope scope own) (hvs : ∀ j ∈ is, j ∈ own.map (·.2)) (hg : ∀ s H Cc cl fp, DG (C.bk s H scope cl Cc fp) is tg gw)
    (ht : ∀ s H Cc cl fp, DTs (C.bk s H scope cl Cc fp) ifs wt) (he : ∀ s H Cc cl fp, DE (C.bk s H scope cl Cc fp) elt we) (hs : ∀ x, foldedSetIterable iter C.X.env x = pure x := by intro _; rfl) :
    DN C (.ListComp elt [⟨tg, iter, ifs, 0⟩] scope pos) (wLc wi gw wt we (own.map (·.2))) := ⟨fun σ ρ W Q q S hQ hw =>
  tOf_of (pe_lc (wi := iOf C.X tg iter) (g := tgB C scope tg) (tt := ttB C scope ifs) (te := teB C scope elt) hc hN pi_tOf ok (fun s H Cc cl fp => ⟨fun pins s' σ H' v u Q I r h => h s H Cc cl fp pins s' u I r⟩)
    (fun s H Cc cl fp => ⟨fun pins s' σ H' Q I h => h s H Cc cl fp pins s' I⟩) (fun s H Cc cl fp => ⟨fun pins s' σ H' Q I h => h s H Cc cl fp pins s' I⟩) hs) (lc_run ⟨hi.run⟩ hvs hg ht he S hQ hw)⟩
theorem fresh_own {K : PySem.W.Frag} {p : Addr} {vs : List V} {ds : List D} (h1 : W'.H p = some (.lst vs)) (h2 : W'.F p = none) (h3 : p ∉ W'.R) (h4 : W.H p = none) (r : RpA K W'.F W'.R vs ds) : Fresh K W W' (.ref p) (.own ds) := ⟨p, vs, rfl, h1, h2, h3, h4, r⟩
/-- y = [..], y a local name: it is one's own -/
theorem ds_setLc {i : Nat} {y : Str} {py spos : Pos} (hc : C.X.calm = true) (hN : C.X.N.Nodup) (hy : C.X.N[i]? = some y) (hyl : C.X.env.scope.names.lookup y = some .local)
    (hsw : swapsWith (.ListComp elt [⟨tg, iter, ifs, 0⟩] scope pos) (some (.Name y py)) spos.line C.X.env = pure true) (hi : DI C tg iter wi) (ok : BlkOk C.X.N C.X.env.scope scope own) (hvs : ∀ j ∈ is, j ∈ own.map (·.2)) (hg : ∀ s H Cc cl fp, DG (C.bk s H scope cl Cc fp) is tg gw)
    (ht : ∀ s H Cc cl fp, DTs (C.bk s H scope cl Cc fp) ifs wt) (he : ∀ s H Cc cl fp, DE (C.bk s H scope cl Cc fp) elt we) (hs : ∀ x, foldedSetIterable iter C.X.env x = pure x := by intro _; rfl) :
    DS C (.Assign [.Name y py] (.ListComp elt [⟨tg, iter, ifs, 0⟩] scope pos) spos) (wSet i (wO (wLc wi gw wt we (own.map (·.2))))) := ⟨fun σ ρ W k E S l h =>
  tsOf_of (ps_setLc (wi := iOf C.X tg iter) (g := tgB C scope tg) (tt := ttB C scope ifs) (te := teB C scope elt) hc hN hy hyl hsw pi_tOf ok (fun s H Cc cl fp => ⟨fun pins s' σ H' v u Q I r h => h s H Cc cl fp pins s' u I r⟩)
    (fun s H Cc cl fp => ⟨fun pins s' σ H' Q I h => h s H Cc cl fp pins s' I⟩) (fun s H Cc cl fp => ⟨fun pins s' σ H' Q I h => h s H Cc cl fp pins s' I⟩) hs)
    (lc_run ⟨hi.run⟩ hvs hg ht he S (fun p vs ds W' g k' h1 h2 h3 h4 r q => l.nx _ _ W' g.s (S.set g k' (fresh_own h1 h2 h3 h4 r) i) q) h)⟩
/-- .. frozen at once -/
theorem ds_setLcI {i : Nat} {y : Str} {py spos : Pos} (hc : C.X.calm = true) (hN : C.X.N.Nodup) (hy : C.X.N[i]? = some y) (hyl : C.X.env.scope.names.lookup y = some .local)
    (hsw : swapsWith (.ListComp elt [⟨tg, iter, ifs, 0⟩] scope pos) (some (.Name y py)) spos.line C.X.env = pure true) (hi : DI C tg iter wi) (ok : BlkOk C.X.N C.X.env.scope scope own) (hvs : ∀ j ∈ is, j ∈ own.map (·.2)) (hg : ∀ s H Cc cl fp, DG (C.bk s H scope cl Cc fp) is tg gw)
    (ht : ∀ s H Cc cl fp, DTs (C.bk s H scope cl Cc fp) ifs wt) (he : ∀ s H Cc cl fp, DE (C.bk s H scope cl Cc fp) elt we) (hs : ∀ x, foldedSetIterable iter C.X.env x = pure x := by intro _; rfl) :
    DS C (.Assign [.Name y py] (.ListComp elt [⟨tg, iter, ifs, 0⟩] scope pos) spos) (wSet i (wI (wL (wLc wi gw wt we (own.map (·.2)))))) := ⟨fun σ ρ W k E S l h =>
  tsOf_of (ps_setLc (wi := iOf C.X tg iter) (g := tgB C scope tg) (tt := ttB C scope ifs) (te := teB C scope elt) hc hN hy hyl hsw pi_tOf ok (fun s H Cc cl fp => ⟨fun pins s' σ H' v u Q I r h => h s H Cc cl fp pins s' u I r⟩)
    (fun s H Cc cl fp => ⟨fun pins s' σ H' Q I h => h s H Cc cl fp pins s' I⟩) (fun s H Cc cl fp => ⟨fun pins s' σ H' Q I h => h s H Cc cl fp pins s' I⟩) hs)
    (lc_run ⟨hi.run⟩ hvs hg ht he S (fun p vs ds W' g k' h1 h2 h3 h4 r q => by
      have S2 := S.set (Go.freeze g h2 h4) (k'.freeze h1 h2 h3) (s := .im (.lst ds)) (v := .ref p) (show Rp C.X.K (upd W'.F p (.lst vs)) W'.R (.ref p) (.lst ds) from .lst upd_same (r.mono (same_new h2) fun _ _ z => z)) i
      exact l.nx _ _ (W'.freeze p (.lst vs)) (Go.s (Go.freeze g h2 h4)) S2 q) h)⟩
end

abbrev AW (M : Ghost) := DEnv → M.G → (List D → M.G → Prop) → Prop
def aOf (X : Cx) (es : List Expr) : TA := fun σ H Q => ∀ (pos : Pos) (pins : List (Addr × Obj)) (s : Shared), Inv X pins σ H s → wpAny (model X.prog X.w) X.A (spliced (backTo pos (starEach es X.env))) (AP X pins σ Q) X.xe s
theorem pa_tOf {X : Cx} {es : List Expr} : PA X es (aOf X es) := ⟨fun pos pins s _ _ _ I h => h pos pins s I⟩
theorem aOf_of {X : Cx} {es : List Expr} {t : TA} (h : PA X es t) {H : Hp} {Q : List V → Hp → Prop} (q : t σ H Q) : aOf X es σ H Q := fun pos pins s I => h.run pos pins s σ H Q I q
structure DA (C : Ct M) (es : List Expr) (w : AW M) : Prop where
  run : ∀ (σ : L2.St) (ρ : DEnv) (W : Wd M) (Q : List V → Hp → Prop) (q : List D → M.G → Prop), Sat C σ ρ W → (∀ vs ds W', Go W W' → Wok C.X.K W' → RpA C.X.K W'.F W'.R vs ds → q ds W'.g → Q vs W'.H) → w ρ W.g q → aOf C.X es σ W.H Q
structure DAP (C : Ct M) (es : List Expr) (w : AW M) : Prop where
  run : ∀ (σ : L2.St) (ρ : DEnv) (W : Wd M) (Q : List V → Hp → Prop) (q : List D → M.G → Prop), Sat C σ ρ W → (∀ vs ds W', Go W W' → Wok C.X.K W' → Paired (RdP C.X.K W') vs ds → q ds W'.g → Q vs W'.H) → w ρ W.g q → aOf C.X es σ W.H Q
@[simp] def wANil : AW M := fun _ g q => q [] g
@[simp] def wACons (w : EW M) (u : AW M) : AW M := fun ρ g q => w ρ g fun d g1 => u ρ g1 fun ds g2 => q (d :: ds) g2
variable {wa : AW M}
theorem da_nil : DA C [] wANil := ⟨fun σ ρ W Q q S hQ hw => aOf_of pa_nil (hQ [] [] W (Go.refl W) S.ok .nil hw)⟩
theorem da_cons (he : DE C e we) (hr : DA C es wa) (hs : starEach (e :: es) C.X.env = (false, eval e C.X.env) :: starEach es C.X.env := by rfl) : DA C (e :: es) (wACons we wa) := ⟨fun σ ρ W Q q S hQ hw =>
  aOf_of (pa_cons pe_tOf pa_tOf hs) (he.run σ ρ W _ _ S (fun v d W1 g1 k1 r1 q1 => hr.run σ ρ W1 _ _ (S.step g1 k1) (fun vs ds W2 g2 k2 r2 q2 => hQ (v :: vs) (d :: ds) W2 (g1.trans g2) k2 (.cons (r1.step g2) r2) q2) q1) hw)⟩
theorem dap_nil : DAP C [] wANil := ⟨fun σ ρ W Q q S hQ hw => aOf_of pa_nil (hQ [] [] W (Go.refl W) S.ok .nil hw)⟩
theorem dap_cons (he : DP C e we) (hr : DAP C es wa) (hs : starEach (e :: es) C.X.env = (false, eval e C.X.env) :: starEach es C.X.env := by rfl) : DAP C (e :: es) (wACons we wa) := ⟨fun σ ρ W Q q S hQ hw =>
  aOf_of (pa_cons pe_tOf pa_tOf hs) (he.run σ ρ W _ _ S (fun v d W1 g1 k1 r1 q1 => hr.run σ ρ W1 _ _ (S.step g1 k1) (fun vs ds W2 g2 k2 r2 q2 => hQ (v :: vs) (d :: ds) W2 (g1.trans g2) k2 (.cons (r1.step g2) r2) q2) q1) hw)⟩

@[simp] def wTup (wa : AW M) : EW M := fun ρ g q => wa ρ g fun ds g' => ds.length ≤ sizeLine ∧ q (.tup ds) g'
theorem de_tup {kk : Nat} (ha : DA C es wa) : DE C (.Tuple es kk pos) (wTup wa) := ⟨fun σ ρ W Q q S hQ hw =>
  tOf_of (pe_tup pa_tOf) (ha.run σ ρ W _ _ S (fun vs ds W1 g1 k1 r1 q1 => ⟨by rw [r1.length]; exact q1.1, fun p hp => hQ (.ref p) (.tup ds) (W1.lay p (.tup vs)) (g1.trans (Go.lay k1 hp)) (k1.lay hp) (.tup (.of upd_same) (r1.mono (same_new (k1.noF hp)) fun _ _ z => z)) q1.2⟩) hw)⟩
@[simp] def wLst (wa : AW M) : NW M := fun ρ g q => wa ρ g fun ds g' => ds.length ≤ sizeLine ∧ q ds g'
theorem dn_lst (ha : DA C es wa) : DN C (.List es pos) (wLst wa) := ⟨fun σ ρ W Q q S hQ hw =>
  tOf_of (pe_lst pa_tOf) (ha.run σ ρ W _ _ S (fun vs ds W1 g1 k1 r1 q1 => ⟨by rw [r1.length]; exact q1.1, fun p hp => hQ p vs ds (W1.new p (.lst vs)) (g1.trans (Go.new k1 hp)) (k1.new hp) upd_same (k1.noF hp) (k1.noR hp) (by
    cases z : W.H p with
    | none => rfl
    | some o => exact absurd hp (g1.live p (by rw [z]; simp))) r1 q1.2⟩) hw)⟩

abbrev DSp (M : Ghost) := List D → M.G → (D → M.G → Prop) → (Exn → M.G → Prop) → Prop
/-- an exception by its class's name and its fields -/
def ExR (K : PySem.W.Frag) (W : Wd M) (x : Exn) (cls : Value) (d : Option Addr) : Prop :=
  PySem.W.nsIn K mainGlobals x.cls = some (some cls) ∧ (∃ C : Addr, cls = .ref C) ∧ ((x.ns = [] ∧ x.ds = [] ∧ d = none) ∨ ∃ dd vs, d = some dd ∧ W.F dd = some (.xd (x.ns.zip vs)) ∧ x.ns.length = vs.length ∧ RpA K W.F W.R vs x.ds)
def EXk (K : PySem.W.Frag) (W0 : Wd M) (ex : Exn → M.G → Prop) : XK := fun cls d H => ∃ x W', W'.H = H ∧ Go W0 W' ∧ Wok K W' ∧ ExR K W' x cls d ∧ ex x W'.g
/-- nothing is handled, or an exception that stands frozen and whose context is None -/
def HotF (A : Around) (F : Hp) : Prop := A.handled = none ∨ ∃ (a : Addr) (oe : Obj) (fv : Array Value), A.handled = some (.ref a) ∧ F a = some (.frz oe exU) ∧ oe.data = .fields fv ∧ fv[2]? = some .none
theorem HotF.mono {A : Around} {F F' : Hp} (h : HotF A F) (s : Same F F') : HotF A F' := by
  rcases h with h | ⟨a, oe, fv, h1, h2, h3, h4⟩
  · exact .inl h
  · exact .inr ⟨a, oe, fv, h1, s a _ h2, h3, h4⟩
def liftSp (K : PySem.W.Frag) (mg : Str → Option Value) (n : Nat) (sp : DSp M) : Sp := fun vs H Q E => ∃ (W : Wd M) (ds : List D) (q : D → M.G → Prop) (ex : Exn → M.G → Prop), W.H = H ∧ Wok K W ∧ RpA K W.F W.R vs ds ∧ ds.length = n ∧ sp ds W.g q ex ∧
  (∀ v d W', Go W W' → Wok K W' → Rp K W'.F W'.R v d → q d W'.g → Q v W'.H) ∧ ∀ cls d H', EXk K W ex cls d H' → E cls d H'
def liftSpH (K : PySem.W.Frag) (mg : Str → Option Value) (n : Nat) (sp : DSp M) (A : Around) : Sp := fun vs H Q E => ∃ (W : Wd M) (ds : List D) (q : D → M.G → Prop) (ex : Exn → M.G → Prop), W.H = H ∧ Wok K W ∧ RpA K W.F W.R vs ds ∧ ds.length = n ∧ sp ds W.g q ex ∧
  ((∀ v d W', Go W W' → Wok K W' → Rp K W'.F W'.R v d → q d W'.g → Q v W'.H) ∧ ∀ cls d H', EXk K W ex cls d H' → E cls d H') ∧ HotF A W.F
/-- what leaves the code is what is wished of exceptions, at the slots as they stand -/
def EXs (C : Ct M) (σ : L2.St) : XK := fun cls d H => ∃ x ρ W', W'.H = H ∧ Sat C σ ρ W' ∧ ExR C.X.K W' x cls d ∧ C.EX x ρ W'.g
def TakesD (C : Ct M) : Prop := L2N.Takes C.X fun cls d σ H => EXs C σ cls d H
abbrev xno : Exn → DEnv → M.G → Prop := fun _ _ _ => False
abbrev xk (ex : Exn → M.G → Prop) : Exn → DEnv → M.G → Prop := fun x _ g => ex x g
theorem takesD_blk {s : Shared} {H : Hp} {scope : Scope} {cenv : Env} {fp : List Addr} : TakesD (C.blk s H scope cenv fp) := fun u s' x => by
  obtain ⟨_, _, _, _, _, _, _, _, _, _, _, _, _, _, _, _, z⟩ := x
  obtain ⟨_, _, _, _, _, _, w⟩ := z
  exact w.elim
theorem ExR.step {K : PySem.W.Frag} {x : Exn} {cls : Value} {d : Option Addr} (h : ExR K W x cls d) (g : Go W W1) : ExR K W1 x cls d := by
  obtain ⟨h1, h2, h3⟩ := h
  refine ⟨h1, h2, ?_⟩
  rcases h3 with h3 | ⟨dd, vs, e1, e2, e3, e4⟩
  · exact .inl h3
  · exact .inr ⟨dd, vs, e1, g.sub _ _ e2, e3, e4.step g⟩
/-- a call's exception is the caller's -/
theorem exs_of {EX : Exn → M.G → Prop} {cls : Value} {d : Option Addr} {H : Hp} (S : Sat C σ ρ W) (hx : ∀ x g, EX x g → C.EX x ρ g) (h : EXk C.X.K W EX cls d H) : EXs C σ cls d H := by
  obtain ⟨x, W', h1, h2, h3, h4, h5⟩ := h
  exact ⟨x, ρ, W', h1, S.step h2 h3, h4, hx _ _ h5⟩
@[simp] def startD (N : List Str) (ds : List D) : DEnv := ds.map .im ++ List.replicate (N.length - ds.length) .no
theorem sat_start {N : List Str} {vs : List V} {ds : List D} (ok : Wok C.X.K W) (h0 : C.W0 = W) (hB : C.B = W) (r : RpA C.X.K W.F W.R vs ds) : Sat C (L2.start N vs) (startD N ds) W := by
  have hg : Gs C.B W := by rw [hB]; exact Gs.refl _
  subst h0
  refine ⟨ok, Go.refl _, ?_, fun i s e => ?_, fun i j s1 s2 p e1 e2 w1 w2 e3 e4 => ?_, hg⟩
  · unfold L2.start startD
    rw [List.length_append, List.length_append, List.length_map, List.length_map, List.length_replicate, List.length_replicate, r.length]
  · unfold startD at e
    by_cases hi : i < ds.length
    · rw [List.getElem?_append_left (by rw [List.length_map]; exact hi), List.getElem?_map] at e
      cases hd : ds[i]? with
      | none => rw [hd] at e; cases e
      | some d =>
        rw [hd] at e
        cases e
        obtain ⟨v, h1, h2⟩ := r.get' hd
        refine ⟨some v, ?_, v, rfl, h2⟩
        unfold L2.start
        rw [List.getElem?_append_left (by rw [List.length_map, r.length]; exact hi), List.getElem?_map, h1]
        rfl
    · rw [List.getElem?_append_right (by rw [List.length_map]; omega), List.length_map] at e
      obtain ⟨hlt, e'⟩ := List.getElem?_eq_some_iff.mp e
      rw [List.getElem_replicate] at e'
      subst e'
      rw [List.length_replicate] at hlt
      refine ⟨none, ?_, trivial⟩
      unfold L2.start
      rw [List.getElem?_append_right (by rw [List.length_map, r.length]; omega), List.length_map, r.length, List.getElem?_replicate, if_pos hlt]
  · exfalso
    unfold startD at e1
    by_cases hi : i < ds.length
    · rw [List.getElem?_append_left (by rw [List.length_map]; exact hi), List.getElem?_map] at e1
      cases hd : ds[i]? with
      | none => rw [hd] at e1; cases e1
      | some d => rw [hd] at e1; cases e1; cases w1
    · rw [List.getElem?_append_right (by rw [List.length_map]; omega), List.length_map] at e1
      obtain ⟨hlt, e'⟩ := List.getElem?_eq_some_iff.mp e1
      rw [List.getElem_replicate] at e'
      subst e'
      cases w1
end
end DL
set_option Elab.async false
set_option linter.all false
set_option maxRecDepth 100000
set_option maxHeartbeats 1000000
namespace DL
open PySem L2
/-- as the layer's promise of a def, under no guard -/
structure FnG (P : Program) (w : World) (K : PySem.W.Frag) (mg : Str → Option Value) (base : Heap) (k : Nat) (f : Addr) (fd : FuncData) (ps : List Str) (sp : Sp) : Prop where
  len : ∀ xs H Q E, sp xs H Q E → xs.length = ps.length
  run : ∀ (A : Around) (fr : List Env) (s : Shared) (H : Hp) (as : Args) (us : List Value) (xs : List V) (Q : VK) (E : XK), Room k A → A.guards = some [] →
    Env0 P w K mg base A fr s H → BindsTo s fd as (ps.zip us) → Vals xs us → sp xs H Q E → codeAny (model P w) A (.call (.ref f) as) (CR (L2N.CX P w) fr P w H s Q E) s
section
variable {P : Program} {w : World} {K : PySem.W.Frag} {mg : Str → Option Value} {base : Heap}
theorem FnG.mono {j k : Nat} {f : Addr} {fd : FuncData} {ps : List Str} {sp : Sp} (F : FnG P w K mg base j f fd ps sp) (h : j ≤ k) : FnG P w K mg base k f fd ps sp :=
  ⟨F.len, fun A fr s H as us xs Q E room => F.run A fr s H as us xs Q E (room.mono h)⟩
theorem fng_of {x qual : Str} {st : Stmt} {f : Addr} {fd : FuncData} {N ps : List Str} {k : Nat} {sp : Sp} (F : Fun K x qual st f fd) (Sc : FnScope N ps (defScope st)) (len : ∀ xs H Q E, sp xs H Q E → xs.length = ps.length)
    (hb : ∀ (cdv : Value) (A : Around) (fr : List Env) (s : Shared) (H : Hp) (xs : List V) (Q : VK) (E : XK), Room k (A.deeper (PyProof.Rows.envOfC qual (defScope st) s.heap.objs.size f cdv)) → A.guards = some [] → sp xs H Q E →
      ∃ t, PSs (cxOf (L2N.CX P w) P w K mg base N qual (defScope st) f cdv A fr s H E) (defBody st) t ∧ t { nx := fun _ H' => Q .non H', rt := Q } (L2.start N xs) H) :
    FnG P w K mg base (k + 1) f fd ps sp := by
  obtain ⟨oc, od, kV, doc, pm, an, cdv, ct, osl, rfl, lk, hcd⟩ := F.ex
  refine ⟨len, fun A fr s H as us xs Q E room gd e0 bd rel want => ?_⟩
  have hlen := len _ _ _ _ want
  have kin : K.In s.heap := e0.mod.kin.keeps fun b o e => (e0.bs b o e).1
  have hk : ((ps.zip us).all fun y => (defScope st).names.lookup y.1 == some .local || (defScope st).names.lookup y.1 == some .cell) = true := by
    rw [List.all_eq_true]
    rintro ⟨n, v⟩ hm
    rcases Sc.par n (List.of_mem_zip hm).1 with q | q
    · rw [q]; rfl
    · rw [q]; rfl
  refine Att.call_fn kin (e0.mod.nolimit.keeps fun b o e => (e0.bs b o e).1) lk hcd room.depth bd hk (fun s1 inC => ?_) Sc.co Sc.gen Sc.kind
  obtain ⟨t, ht, hq⟩ := hb cdv A fr s H xs Q E (room.deeper _) gd want
  have inv := inv_start (CX := L2N.CX P w) (N := N) (E := E) Sc room.hd e0 hlen rel inC
  refine wpAny_mono (ht.run [] s1 _ H _ inv hq) (fun fl s2 hs => ?_) fun e s2 hs => hs
  have back : ∀ {σ2 : L2.St} {H2 : Hp} {v : V} {u : Value}, Inv (cxOf (L2N.CX P w) P w K mg base N qual (defScope st) f cdv A fr s H E) [] σ2 H2 s2 → RelV v u → Q v H2 → CE fr P w H s Q u s2 :=
    fun {σ2 H2 v u} J rv q => ⟨v, H2, J.os, J.bare, J.base, J.hok, rv, q⟩
  match fl, hs with
  | .ret u, ⟨v, σ2, H2, J, rv, q⟩ => exact back J rv q
  | .next, ⟨σ2, H2, J, q⟩ => exact back (v := .non) (u := .none) J rfl q
  | .brk, ⟨_, _, _, q⟩ => exact q.elim
  | .cont, ⟨_, _, _, q⟩ => exact q.elim
end
section
variable {X : Cx} {k : Nat} {f : Addr} {fd : FuncData} {ps : List Str} {sp : Sp} {E : L2.St → XK} {x : Str} {p pos : Pos} {e : Expr} {es : List Expr} {t : TA}
theorem run_fng {pins : List (Addr × Obj)} {σ : L2.St} {H : Hp} {s : Shared} {Q : VK} {us : List Value} {xs : List V} (F : FnG X.prog X.w X.K X.mg X.base k f fd ps sp) (gd : X.A.guards = some []) (room : Room k X.A) (hb : Binds X.K fd ps [])
    (hx : ∀ σ, PassesAt (L2N.CX X.prog X.w) X σ (E σ)) (I : Inv X pins σ H s) (rel : Vals xs us) (want : sp xs H Q (E σ)) : wpAny (model X.prog X.w) X.A (call (.ref f) us) (EP X pins σ Q) X.xe s := by
  have hl : (us ++ []).length = ps.length := by rw [List.append_nil, ← rel.length]; exact F.len _ _ _ _ want
  have bd := hb s us I.kIn hl
  rw [List.append_nil] at bd
  refine wpAny_call (codeAny_mono (F.run X.A X.stack s H ⟨us, []⟩ us xs Q (E σ) room gd I.env0 bd rel want) fun r s2 hq => ?_)
  match r, hq with
  | .error er, hq => exact hx σ pins H s er s2 I hq
  | .ok (.ret u), hq => exact I.after hq
  | .ok .next, hq => exact False.elim hq
  | .ok .brk, hq => exact False.elim hq
  | .ok .cont, hq => exact False.elim hq
def tCallG (sp : Sp) (E : L2.St → XK) (t : TA) : TE := fun σ H Q => t σ H fun xs H1 => sp xs H1 Q (E σ)
theorem pe_callG (F : FnG X.prog X.w X.K X.mg X.base k f fd ps sp) (gd : X.A.guards = some []) (room : Room k X.A) (hg : Gl X x) (hm : X.mg x = some (.ref f)) (hk : PySem.W.keepIn X.K (.ref f) = true) (hb : Binds X.K fd ps []) (hx : ∀ σ, PassesAt (L2N.CX X.prog X.w) X σ (E σ))
    (ha : PA X (e :: es) t) (hdb : (x == ("__debug__" : Str)) = false := by decide) (he : starEach (e :: es) X.env = (false, eval e X.env) :: starEach es X.env := by rfl) (hpl : (backTo pos (starEach es X.env)).any (·.1) = false := by rfl) :
    PE X (.Call (.Name x p) (e :: es) [] pos) (tCallG sp E t) := ⟨fun pins s σ H Q I h =>
  wpAny_Call_Name_kw (ld_glob I hg hm (PySem.W.callWith_K (h₀ := X.base) I.ok.mod.kin hk (thn (ha.run pos pins s σ H _ I h) fun us s1 ⟨xs, H1, I1, rel, want⟩ => ⟨I1.kIn, run_fng F gd room hb hx I1 rel want⟩) he hpl) hdb)⟩
end
theorem roomH_suite {k : Nat} {A : Around} {v : Option Value} (r : Room k A) : L2H.RoomH k (A.mark v) := ⟨r.dp, r.un⟩
theorem _root_.L2H.RoomH.units {k : Nat} {A : Around} (r : L2H.RoomH k A) : A.units + 64 < cLine := by have := r.un; omega

open L2H in
structure FnQ (P : Program) (w : World) (K : PySem.W.Frag) (mg : Str → Option Value) (base : Heap) (k : Nat) (f : Addr) (fd : FuncData) (ps : List Str) (sp : Around → Sp) : Prop where
  len : ∀ A xs H Q E, sp A xs H Q E → xs.length = ps.length
  run : ∀ (A : Around) (fr : List Env) (s : Shared) (H : Hp) (as : Args) (us : List Value) (xs : List V) (Q : VK) (E : XK), RoomH k A → A.guards = some [] →
    Env0 P w K mg base A fr s H → BindsTo s fd as (ps.zip us) → Vals xs us → sp A xs H Q E → codeAny (model P w) A (.call (.ref f) as) (CR (L2N.CX P w) fr P w H s Q E) s
section
open L2H
variable {P : Program} {w : World} {K : PySem.W.Frag} {mg : Str → Option Value} {base : Heap}
theorem FnQ.g {k : Nat} {f : Addr} {fd : FuncData} {ps : List Str} {sp : Around → Sp} {sp' : Sp} (F : FnQ P w K mg base k f fd ps sp) (hl : ∀ xs H Q E, sp' xs H Q E → xs.length = ps.length) (h : ∀ A xs H Q E, A.handled = none → sp' xs H Q E → sp A xs H Q E) : FnG P w K mg base k f fd ps sp' :=
  ⟨hl, fun A fr s H as us xs Q E room gd e0 bd rel want => F.run A fr s H as us xs Q E (roomH_of room) gd e0 bd rel (h A xs H Q E room.hd want)⟩
theorem fnq_of {x qual : Str} {st : Stmt} {f : Addr} {fd : FuncData} {N ps : List Str} {k : Nat} {sp : Around → Sp} (F : Fun K x qual st f fd) (Sc : FnScope N ps (defScope st)) (len : ∀ A xs H Q E, sp A xs H Q E → xs.length = ps.length)
    (hb : ∀ (cdv : Value) (A : Around) (fr : List Env) (s : Shared) (H : Hp) (xs : List V) (Q : VK) (E : XK) (p : Addr × Obj), RoomH k (A.deeper (PyProof.Rows.envOfC qual (defScope st) s.heap.objs.size f cdv)) → A.guards = some [] → sp A xs H Q E →
      ∃ t, PSs (cxH (L2N.CX P w) P w K mg base N qual (defScope st) f cdv A fr s H E p) (defBody st) t ∧ t { nx := fun _ H' => Q .non H', rt := Q } (L2.start N xs) H) :
    FnQ P w K mg base (k + 1) f fd ps sp := by
  obtain ⟨oc, od, kV, doc, pm, an, cdv, ct, osl, rfl, lk, hcd⟩ := F.ex
  refine ⟨len, fun A fr s H as us xs Q E room gd e0 bd rel want => ?_⟩
  have hlen := len _ _ _ _ _ want
  have inB := e0.mod.kin _ _ lk
  have kin : K.In s.heap := e0.mod.kin.keeps fun b o e => (e0.bs b o e).1
  have nof : f ∉ frs fr := fun hm => by
    have z := (e0.funs.mem hm).1
    rw [inB] at z
    cases z
  obtain ⟨p, pin⟩ : ∃ p : Addr × Obj, PinOk fr H s p := ⟨(f, _), (e0.bs _ _ inB).1, (e0.bs _ _ inB).2, nof, fun _ z => nomatch z⟩
  have hk : ((ps.zip us).all fun y => (defScope st).names.lookup y.1 == some .local || (defScope st).names.lookup y.1 == some .cell) = true := by
    rw [List.all_eq_true]
    rintro ⟨n, v⟩ hm
    rcases Sc.par n (List.of_mem_zip hm).1 with q | q
    · rw [q]; rfl
    · rw [q]; rfl
  refine Att.call_fn kin (e0.mod.nolimit.keeps fun b o e => (e0.bs b o e).1) lk hcd room.depth bd hk (fun s1 inC => ?_) Sc.co Sc.gen Sc.kind
  obtain ⟨t, ht, hq⟩ := hb cdv A fr s H xs Q E p (room.deeper _) gd want
  have inv := inv_startH (CX := L2N.CX P w) (N := N) (E := E) Sc pin e0 hlen rel inC
  refine wpAny_mono (ht.run [] s1 _ H _ inv hq) (fun fl s2 hs => ?_) fun e s2 hs => hs
  have back : ∀ {σ2 : L2.St} {H2 : Hp} {v : V} {u : Value}, Inv (cxH (L2N.CX P w) P w K mg base N qual (defScope st) f cdv A fr s H E p) [] σ2 H2 s2 → RelV v u → Q v H2 → CE fr P w H s Q u s2 :=
    fun {σ2 H2 v u} J rv q => ⟨v, H2, J.os, J.bare, J.base, J.hok, rv, q⟩
  match fl, hs with
  | .ret u, ⟨v, σ2, H2, J, rv, q⟩ => exact back J rv q
  | .next, ⟨σ2, H2, J, q⟩ => exact back (v := .non) (u := .none) J rfl q
  | .brk, ⟨_, _, _, q⟩ => exact q.elim
  | .cont, ⟨_, _, _, q⟩ => exact q.elim
end
section
open L2H
variable {X : Cx} {k : Nat} {f : Addr} {fd : FuncData} {ps : List Str} {sp : Around → Sp} {E : L2.St → XK} {x : Str} {p pos : Pos} {e : Expr} {es : List Expr} {t : TA}
theorem pe_callQ (F : FnQ X.prog X.w X.K X.mg X.base k f fd ps sp) (gd : X.A.guards = some []) (room : RoomH k X.A) (hg : Gl X x) (hm : X.mg x = some (.ref f)) (hk : PySem.W.keepIn X.K (.ref f) = true) (hb : Binds X.K fd ps []) (hx : ∀ σ, PassesAt (L2N.CX X.prog X.w) X σ (E σ))
    (ha : PA X (e :: es) t) (hdb : (x == ("__debug__" : Str)) = false := by decide) (he : starEach (e :: es) X.env = (false, eval e X.env) :: starEach es X.env := by rfl) (hpl : (backTo pos (starEach es X.env)).any (·.1) = false := by rfl) :
    PE X (.Call (.Name x p) (e :: es) [] pos) (tCallG (sp X.A) E t) := ⟨fun pins s σ H Q I h =>
  wpAny_Call_Name_kw (ld_glob I hg hm (PySem.W.callWith_K (h₀ := X.base) I.ok.mod.kin hk (thn (ha.run pos pins s σ H _ I h) fun us s1 ⟨xs, H1, I1, rel, want⟩ => ⟨I1.kIn, by
    have hl : (us ++ []).length = ps.length := by rw [List.append_nil, ← rel.length]; exact F.len _ _ _ _ _ want
    have bd := hb s1 us I1.kIn hl
    rw [List.append_nil] at bd
    refine wpAny_call (codeAny_mono (F.run X.A X.stack s1 H1 ⟨us, []⟩ us xs Q (E σ) room gd I1.env0 bd rel want) fun r s2 hq => ?_)
    match r, hq with
    | .error er, hq => exact hx σ pins H1 s1 er s2 I1 hq
    | .ok (.ret u), hq => exact I1.after hq
    | .ok .next, hq => exact False.elim hq
    | .ok .brk, hq => exact False.elim hq
    | .ok .cont, hq => exact False.elim hq⟩) he hpl) hdb)⟩
end
end DL
set_option Elab.async false
set_option linter.all false
set_option maxRecDepth 100000
set_option maxHeartbeats 1000000
namespace DL
open PySem L2
def S (x : List Nat) : Str := ⟨x.toArray⟩
theorem S_list (x : List Nat) : (S x).cps.toList = x := by simp [S]
theorem S_of (z : Str) : S z.cps.toList = z := by simp [S]
theorem str_len (z : Str) : z.length = z.cps.toList.length := by simp [Str.length]
theorem str_app (a b : Str) : (a ++ b).cps.toList = a.cps.toList ++ b.cps.toList := PySem.W.KT.app_list a b
section
variable {M : Ghost} {C : Ct M} {W W1 W2 W' : Wd M} {σ : L2.St} {ρ : DEnv} {e : Expr} {es : List Expr} {we : EW M} {pos : Pos}
theorem rp_str {K : PySem.W.Frag} {F : Hp} {R : List Addr} (z : Str) : Rp K F R (.str z) (.str z.cps.toList) := .str z _ rfl
theorem rp_strS {K : PySem.W.Frag} {F : Hp} {R : List Addr} (z : Str) {x : List Nat} (h : z.cps.toList = x) : Rp K F R (.str z) (.str x) := .str z _ h

def oAdd : D → D → (D → Prop) → Prop
  | .int i, .int j, q => q (.int (i + j))
  | .int i, .bl k, q => q (.int (i + PyProof.Rows.b2i k))
  | .str x, .str y, q => x.length + y.length ≤ sizeLine ∧ q (.str (x ++ y))
  | .tup x, .tup y, q => x.length + y.length ≤ sizeLine ∧ q (.tup (x ++ y))
  | _, _, _ => False
theorem opd_add : OpD C (binaryOp .Add) oAdd := by
  refine ⟨_, ((op_add.or op_add_ib).or op_add_str).or op_catA, fun W x y d e Q q k r1 r2 hQ h => ?_⟩
  cases d with
  | int i =>
    cases e with
    | int j => exact .inl (.inl (.inl ⟨i, j, r1.int_inv, r2.int_inv, hQ _ _ W (Go.refl W) k rfl (.int _) h⟩))
    | bl b => exact .inl (.inl (.inr ⟨i, b, r1.int_inv, r2.bl_inv, hQ _ _ W (Go.refl W) k rfl (.int _) h⟩))
    | _ => exact h.elim
  | str a =>
    cases e with
    | str b =>
      obtain ⟨z, rfl, rfl⟩ := r1.str_inv
      obtain ⟨z2, rfl, rfl⟩ := r2.str_inv
      exact .inl (.inr ⟨z, z2, rfl, rfl, by rw [str_len, str_len]; exact h.1, hQ _ _ W (Go.refl W) k rfl (rp_strS _ (str_app z z2)) h.2⟩)
    | _ => exact h.elim
  | tup a =>
    cases e with
    | tup b =>
      obtain ⟨p, vs, rfl, hs, ra⟩ := r1.tup_inv
      obtain ⟨p2, vs2, rfl, hs2, rb⟩ := r2.tup_inv
      refine .inr ⟨p, p2, vs, vs2, rfl, rfl, same_tup k.sub hs, same_tup k.sub hs2, by rw [ra.length, rb.length]; exact h.1, fun e => ?_, fun _ e => ?_, fun _ _ l hl => ?_⟩
      · subst e
        cases ra
        exact hQ _ _ W (Go.refl W) k rfl (.tup hs2 rb) h.2
      · subst e
        cases rb
        have hq := h.2
        rw [List.append_nil] at hq
        exact hQ _ _ W (Go.refl W) k rfl (.tup hs ra) hq
      · exact hQ _ _ (W.lay l (.tup (vs ++ vs2))) (Go.lay k hl) (k.lay hl) rfl (.tup (.of upd_same) ((ra.append rb).mono (same_new (k.noF hl)) fun _ _ z => z)) h.2
    | _ => exact h.elim
  | _ => exact h.elim
def oCat : D → D → (List D → Prop) → Prop
  | .lst x, .lst y, q => x.length + y.length ≤ sizeLine ∧ q (x ++ y)
  | _, _, _ => False
theorem opn_cat : OpN C (binaryOp .Add) oCat := by
  refine ⟨_, op_cat, fun W x y d e Q q k r1 r2 hQ h => ?_⟩
  cases d with
  | lst a =>
    cases e with
    | lst b =>
      obtain ⟨p, vs, rfl, hp, np, ra⟩ := r1.lst_inv k
      obtain ⟨p2, vs2, rfl, hp2, np2, rb⟩ := r2.lst_inv k
      exact ⟨p, p2, vs, vs2, rfl, rfl, hp, hp2, by rw [ra.length, rb.length]; exact h.1, fun l hl => hQ l _ _ (W.new l (.lst (vs ++ vs2))) (Go.new k hl) (k.new hl) rfl upd_same (k.noF hl) (k.noR hl) hl (ra.append rb) h.2⟩
    | _ => exact h.elim
  | _ => exact h.elim
def oSub : D → D → (D → Prop) → Prop
  | .int i, .int j, q => q (.int (i - j))
  | _, _, _ => False
theorem opd_sub : OpD C (binaryOp .Sub) oSub := by
  refine ⟨_, op_sub, fun W x y d e Q q k r1 r2 hQ h => ?_⟩
  cases d with
  | int i =>
    cases e with
    | int j => exact ⟨i, j, r1.int_inv, r2.int_inv, hQ _ _ W (Go.refl W) k rfl (.int _) h⟩
    | _ => exact h.elim
  | _ => exact h.elim
def oMul : D → D → (D → Prop) → Prop
  | .int i, .int j, q => CMul i j ∧ q (.int (i * j))
  | .str x, .int j, q => 0 ≤ j ∧ x.length * j.toNat ≤ sizeLine ∧ j ≤ 2 ^ 32 ∧ q (.str (List.replicate j.toNat x).flatten)
  | _, _, _ => False
def oRep : D → D → (List D → Prop) → Prop
  | .lst x, .int j, q => -(2 ^ 63) ≤ j ∧ j < 2 ^ 63 ∧ x.length * j.toNat ≤ sizeLine ∧ q (List.replicate j.toNat x).flatten
  | _, _, _ => False
theorem opn_rep : OpN C (binaryOp .Mult) oRep := by
  refine ⟨_, op_rep, fun W x y d e Q q k r1 r2 hQ h => ?_⟩
  cases d with
  | lst a =>
    cases e with
    | int j =>
      obtain ⟨p, vs, rfl, hp, np, ra⟩ := r1.lst_inv k
      exact ⟨p, j, vs, rfl, r2.int_inv, hp, h.1, h.2.1, by rw [ra.length]; exact h.2.2.1, fun l hl => hQ l _ _ (W.new l (.lst _)) (Go.new k hl) (k.new hl) rfl upd_same (k.noF hl) (k.noR hl) hl (ra.flat _) h.2.2.2⟩
    | _ => exact h.elim
  | _ => exact h.elim
/-- ints by ints -/
theorem opd_ii {f : Value → Value → Sem Value} {Cd : Int → Int → Prop} {g : Int → Int → V} {gd : Int → Int → D} (ho : OpR C.X f (rI Cd g)) (hg : ∀ F R i j, Rp C.X.K F R (g i j) (gd i j)) :
    OpD C f (fun d e q => match d, e with | .int i, .int j => Cd i j ∧ q (gd i j) | _, _ => False) := by
  refine ⟨_, ho, fun W x y d e Q q k r1 r2 hQ h => ?_⟩
  cases d with
  | int i =>
    cases e with
    | int j => exact ⟨i, j, r1.int_inv, r2.int_inv, h.1, hQ _ _ W (Go.refl W) k rfl (hg _ _ _ _) h.2⟩
    | _ => exact h.elim
  | _ => exact h.elim
def oDiv : D → D → (D → Prop) → Prop := fun d e q => match d, e with | .int i, .int j => CDiv i j ∧ q (.int (i / j)) | _, _ => False
def oMod : D → D → (D → Prop) → Prop := fun d e q => match d, e with | .int i, .int j => 0 < j ∧ q (.int (i % j)) | _, _ => False
theorem opd_mod : OpD C (binaryOp .Mod) oMod := opd_ii op_mod fun _ _ _ _ => .int _
def oPow : D → D → (D → Prop) → Prop := fun d e q => match d, e with | .int i, .int j => CPow i j ∧ q (.int (i ^ j.toNat)) | _, _ => False
theorem opd_pow : OpD C (binaryOp .Pow) oPow := opd_ii op_pow fun _ _ _ _ => .int _
def asI (d : D) (q : Int → Prop) : Prop := match d with
  | .int i => q i
  | _ => False
@[simp] def wNeg (w : EW M) : EW M := fun ρ g q => w ρ g fun d g' => asI d fun i => q (.int (-i)) g'
theorem de_neg {a : Expr} {wa : EW M} (ha : DE C a wa) : DE C (.UnaryOp .USub a pos) (wNeg wa) := ⟨fun σ ρ W Q q S hQ hw => tOf_of (pe_un un_neg pe_tOf) (ha.run σ ρ W _ _ S (fun v d W' g k r q1 => by
  cases d with
  | int i => exact ⟨i, by cases r; rfl, hQ _ _ W' g k (.int _) q1⟩
  | _ => exact q1.elim) hw)⟩

def oLt : D → D → (D → Prop) → Prop
  | .int i, .int j, q => q (.bl (decide (i < j)))
  | .str x, .str y, q => q (.bl (decide (x < y)))
  | _, _, _ => False
def oLe : D → D → (D → Prop) → Prop
  | .int i, .int j, q => q (.bl (decide (i ≤ j)))
  | .str x, .str y, q => q (.bl (!decide (y < x)))
  | _, _, _ => False
def oGt : D → D → (D → Prop) → Prop
  | .int i, .int j, q => q (.bl (decide (j < i)))
  | .str x, .str y, q => q (.bl (decide (y < x)))
  | _, _, _ => False
def oGe : D → D → (D → Prop) → Prop
  | .int i, .int j, q => q (.bl (decide (j ≤ i)))
  | .str x, .str y, q => q (.bl (!decide (x < y)))
  | _, _, _ => False
theorem opd_is {f : Value → Value → Sem Value} {gi : Int → Int → Bool} {gs : List Nat → List Nat → Bool} (h1 : OpR C.X f (rI0 fun i j => .bl (gi i j)))
    (h2 : OpR C.X f (fun x y H Q => ∃ i j, x = .str i ∧ y = .str j ∧ Q (.bl (gs i.cps.toList j.cps.toList)) H)) :
    OpD C f (fun d e q => match d, e with | .int i, .int j => q (.bl (gi i j)) | .str x, .str y => q (.bl (gs x y)) | _, _ => False) := by
  refine ⟨_, h1.or h2, fun W x y d e Q q k r1 r2 hQ h => ?_⟩
  cases d with
  | int i =>
    cases e with
    | int j => exact .inl ⟨i, j, r1.int_inv, r2.int_inv, hQ _ _ W (Go.refl W) k rfl (.bl _) h⟩
    | _ => exact h.elim
  | str a =>
    cases e with
    | str b =>
      obtain ⟨z, rfl, rfl⟩ := r1.str_inv
      obtain ⟨z2, rfl, rfl⟩ := r2.str_inv
      exact .inr ⟨z, z2, rfl, rfl, hQ _ _ W (Go.refl W) k rfl (.bl _) h⟩
    | _ => exact h.elim
  | _ => exact h.elim
theorem OpD.of_eq {f : Value → Value → Sem Value} {r r' : D → D → (D → Prop) → Prop} (h : OpD C f r) (e : ∀ x y q, r' x y q → r x y q) : OpD C f r' := by
  obtain ⟨rr, h1, h2⟩ := h.run
  exact ⟨rr, h1, fun W x y d e' Q q k r1 r2 hQ hr => h2 W x y d e' Q q k r1 r2 hQ (e _ _ _ hr)⟩
theorem opd_lt : OpD C (compareOp .Lt) oLt := (opd_is (gi := fun i j => decide (i < j)) (gs := fun x y => decide (x < y)) op_lt op_lt_str).of_eq fun x y q h => by cases x <;> cases y <;> exact h
theorem opd_gt : OpD C (compareOp .Gt) oGt := (opd_is (gi := fun i j => decide (j < i)) (gs := fun x y => decide (y < x)) op_gt op_gt_str).of_eq fun x y q h => by cases x <;> cases y <;> exact h
mutual
def py : D → PyData
  | .non => .none
  | .bl b => .bool b
  | .int i => .int i
  | .str x => .str (S x)
  | .lst xs => .list (pyA xs)
  | .tup xs => .tuple (pyA xs)
  | .dic kvs => .dict (pyK kvs)
  | .ob _ => .none
  | .exn _ _ _ => .none
  | .tx _ => .none
  | .cl _ => .none
def pyA : List D → List PyData
  | [] => []
  | d :: ds => py d :: pyA ds
def pyK : List (Key × D) → List (PyData × PyData)
  | [] => []
  | (k, d) :: r => ((match k with | .inl i => .int i | .inr x => .str x), py d) :: pyK r
end
mutual
def pln : D → Bool
  | .lst xs => plnA xs
  | .tup xs => plnA xs
  | .dic kvs => plnK kvs
  | .ob _ => false
  | .exn _ _ _ => false
  | .tx _ => false
  | .cl _ => false
  | .non => true
  | .bl _ => true
  | .int _ => true
  | .str _ => true
def plnA : List D → Bool
  | [] => true
  | d :: ds => pln d && plnA ds
def plnK : List (Key × D) → Bool
  | [] => true
  | (_, d) :: r => pln d && plnK r
end
section
variable {K : PySem.W.Frag} {F H : Hp} {R : List Addr}
mutual
theorem rp_dp (s : Same F H) : ∀ {v : V} {d : D}, Rp K F R v d → (py d).canLay0 = true → pln d = true → Dp K H v (py d)
  | _, _, .non, _, _ => .non
  | _, _, .bl b, _, _ => .bl b
  | _, _, .int i, _, _ => .int i
  | _, _, .str z x h, _, _ => by subst h; rw [show py (.str z.cps.toList) = .str (S z.cps.toList) from rfl, S_of]; exact .str z
  | _, .lst ds, .lst h q, hc, hp => .lst (.of (s _ _ h)) (rpA_dp s q (by simpa [py, PyData.canLay0] using hc) (by simpa [pln] using hp))
  | _, .tup ds, .tup h q, hc, hp => .tup (same_tup s h) (rpA_dp s q (by simpa [py, PyData.canLay0] using hc) (by simpa [pln] using hp))
  | _, .dic ds, .dic h q, hc, _ => by simp [py, PyData.canLay0] at hc
  | _, .ob k, .ob h, _, hp => by simp [pln] at hp
  | _, .exn _ _ _, .exn0 _ _ _ _, _, hp => by simp [pln] at hp
  | _, .exn _ _ _, .exn _ _ _ _ _ _ _, _, hp => by simp [pln] at hp
  | _, .tx _, .tx _ _ _ _, _, hp => by simp [pln] at hp
  | _, .cl _, .cl _, _, hp => by simp [pln] at hp
theorem rpA_dp (s : Same F H) : ∀ {vs : List V} {ds : List D}, RpA K F R vs ds → PyData.canLayAll0 (pyA ds) = true → plnA ds = true → DpAll K H vs (pyA ds)
  | _, _, .nil, _, _ => .nil
  | _, d :: ds, .cons r t, hc, hp => by
    have h1 : (py d).canLay0 = true ∧ PyData.canLayAll0 (pyA ds) = true := by simpa [pyA, PyData.canLayAll0] using hc
    have h2 : pln d = true ∧ plnA ds = true := by simpa [plnA] using hp
    exact .cons (rp_dp s r h1.1 h2.1) (rpA_dp s t h1.2 h2.2)
end
end
theorem rdp_dp {K : PySem.W.Frag} (k : Wok K W) {v : V} {d : D} (h : RdP K W v d) (hc : (py d).canLay0 = true) (hp : pln d = true) : Dp K W.H v (py d) := by
  rcases h with h | ⟨p, vs, ds, rfl, rfl, h, n, r⟩
  · exact rp_dp k.sub h hc hp
  · exact .lst (.of h) (rpA_dp k.sub r (by simpa [py, PyData.canLay0] using hc) (by simpa [pln] using hp))
/-- == of data -/
def deq (d e : D) : Bool := PyData.eqv (py d) (py e)
def shp (d : D) : Bool := SeqAt.shaped (py d) && pln d
def oEqB (f : Bool → Bool) : D → D → (D → Prop) → Prop
  | .int i, .int j, q => q (.bl (f (decide (i = j))))
  | .str x, .str y, q => q (.bl (f (decide (x = y))))
  | .bl x, .bl y, q => q (.bl (f (decide (x = y))))
  | d, e, q => shp d = true ∧ shp e = true ∧ q (.bl (f (deq d e)))
def oEq := oEqB id
def oNe := oEqB not
theorem str_dec (z z2 : Str) : decide (V.str z = V.str z2) = decide (z.cps.toList = z2.cps.toList) := by
  refine decide_eq_decide.mpr ⟨fun h => by cases h; rfl, fun h => ?_⟩
  obtain ⟨a⟩ := z
  obtain ⟨b⟩ := z2
  rw [show a = b from Array.toList_inj.mp h]
theorem oEqB_cases {f : Bool → Bool} {d e : D} {q : D → Prop} (h : oEqB f d e q) : (∃ i j, d = .int i ∧ e = .int j ∧ q (.bl (f (decide (i = j))))) ∨ (∃ i j, d = .str i ∧ e = .str j ∧ q (.bl (f (decide (i = j))))) ∨ (∃ i j, d = .bl i ∧ e = .bl j ∧ q (.bl (f (decide (i = j))))) ∨
    (shp d = true ∧ shp e = true ∧ q (.bl (f (deq d e)))) := by
  cases d <;> cases e <;> first | exact .inl ⟨_, _, rfl, rfl, h⟩ | exact .inr (.inl ⟨_, _, rfl, rfl, h⟩) | exact .inr (.inr (.inl ⟨_, _, rfl, rfl, h⟩)) | exact .inr (.inr (.inr h))
theorem shp_and {d : D} (h : shp d = true) : SeqAt.shaped (py d) = true ∧ pln d = true := by simpa [shp] using h
theorem opd_eqB {f : Bool → Bool} {g : Value → Value → Sem Value} (h1 : OpR C.X g (fun x y H Q => scal x y = true ∧ Q (.bl (f (decide (x = y)))) H)) (h2 : OpR C.X g (fun x y H Q => ∃ d e, Dp C.X.K H x d ∧ Dp C.X.K H y e ∧ SeqAt.shaped d = true ∧ SeqAt.shaped e = true ∧ Q (.bl (f (PyData.eqv d e))) H)) :
    OpD C g (oEqB f) := by
  refine ⟨_, h1.or h2, fun W x y d e Q q k r1 r2 hQ h => ?_⟩
  rcases oEqB_cases h with ⟨i, j, rfl, rfl, h⟩ | ⟨i, j, rfl, rfl, h⟩ | ⟨i, j, rfl, rfl, h⟩ | ⟨a, b, h⟩
  · have e1 := r1.int_inv
    have e2 := r2.int_inv
    subst e1 e2
    refine .inl ⟨rfl, hQ _ _ W (Go.refl W) k rfl (.bl _) ?_⟩
    rw [dec_int, Bool.beq_eq_decide_eq]
    exact h
  · obtain ⟨z, rfl, rfl⟩ := r1.str_inv
    obtain ⟨z2, rfl, rfl⟩ := r2.str_inv
    refine .inl ⟨rfl, hQ _ _ W (Go.refl W) k rfl (.bl _) ?_⟩
    rw [str_dec]
    exact h
  · have e1 := r1.bl_inv
    have e2 := r2.bl_inv
    subst e1 e2
    refine .inl ⟨rfl, hQ _ _ W (Go.refl W) k rfl (.bl _) ?_⟩
    rw [dec_bl, Bool.beq_eq_decide_eq]
    exact h
  · obtain ⟨a1, a2⟩ := shp_and a
    obtain ⟨b1, b2⟩ := shp_and b
    exact .inr ⟨py d, py e, rdp_dp k r1 (SeqAt.canLay_of_shaped a1) a2, rdp_dp k r2 (SeqAt.canLay_of_shaped b1) b2, a1, b1, hQ _ _ W (Go.refl W) k rfl (.bl _) h⟩
theorem opd_eq (hu : C.X.A.units + 64 < cLine) : OpD C (compareOp .Eq) oEq := opd_eqB op_eq (op_eqD hu)
theorem opd_ne (hu : C.X.A.units + 64 < cLine) : OpD C (compareOp .NotEq) oNe := opd_eqB op_ne (op_neD hu)
/-- is None -/
def isN : D → Bool
  | .non => true
  | _ => false
def oIsN : D → D → (D → Prop) → Prop := fun d e q => match e with | .non => q (.bl (isN d)) | _ => False
def oNotN : D → D → (D → Prop) → Prop := fun d e q => match e with | .non => q (.bl (!isN d)) | _ => False
def oIx : D → D → (D → Prop) → Prop
  | .lst ds, .int i, q => ∃ d, atI ds i = some d ∧ q d
  | .tup ds, .int i, q => ∃ d, atI ds i = some d ∧ q d
  | .str x, .int i, q => x.length ≤ sizeLine ∧ ∃ c, atI x i = some c ∧ q (.str [c])
  | _, _, _ => False
theorem atI_get2 {K : PySem.W.Frag} {F : Hp} {R : List Addr} {vs : List V} {ds : List D} {i : Int} {d : D} (r : RpA K F R vs ds) (h : atI ds i = some d) : ∃ v, atI vs i = some v ∧ Rp K F R v d := by
  unfold atI at h ⊢
  rw [← r.length] at h
  cases hj : ixN vs.length i with
  | none => rw [hj] at h; cases h
  | some j =>
    rw [hj] at h
    exact r.get' h
variable {a b : Expr} {wa wb : EW M}
theorem de_ix (ha : DP C a wa) (hb : DP C b wb) (hs : PlainIx b) : DE C (.Subscript a b pos) (wBin oIx wa wb) := ⟨fun σ ρ W Q q S hQ hw =>
  tOf_of (pe_ix ix_seq pe_tOf pe_tOf hs) (two_run (f := fun _ _ => pure .none) ha hb S (fun W1 x y d e g k r1 r2 q1 => by
    cases d with
    | lst ds =>
      cases e with
      | int i =>
        obtain ⟨d, h1, q1⟩ := q1
        obtain ⟨p, vs, rfl, hp, np, ra⟩ := r1.lst_inv k
        obtain ⟨v, h2, h3⟩ := atI_get2 ra h1
        exact .inl ⟨p, vs, i, v, rfl, r2.int_inv, .of hp, h2, hQ v d W1 g k h3 q1⟩
      | _ => exact q1.elim
    | tup ds =>
      cases e with
      | int i =>
        obtain ⟨d, h1, q1⟩ := q1
        obtain ⟨p, vs, rfl, hp, ra⟩ := r1.tup_inv
        obtain ⟨v, h2, h3⟩ := atI_get2 ra h1
        exact .inr (.inl ⟨p, vs, i, v, rfl, r2.int_inv, same_tup k.sub hp, h2, hQ v d W1 g k h3 q1⟩)
      | _ => exact q1.elim
    | str x =>
      cases e with
      | int i =>
        obtain ⟨hz, c, h1, q1⟩ := q1
        obtain ⟨z, rfl, rfl⟩ := r1.str_inv
        exact .inr (.inr ⟨z, i, c, rfl, r2.int_inv, by rw [str_len]; exact hz, h1, hQ _ _ W1 g k (rp_strS _ rfl) q1⟩)
      | _ => exact q1.elim
    | _ => exact q1.elim) hw)⟩
abbrev OW (M : Ghost) := DEnv → M.G → (Option Int → M.G → Prop) → Prop
def oOf (X : Cx) (e : Option Expr) : TO := fun σ H Q => ∀ (pins : List (Addr × Obj)) (s : Shared), Inv X pins σ H s →
  wpAny (model X.prog X.w) X.A (evalPart e X.env) (fun u s' => ∃ o H', Inv X pins σ H' s' ∧ PySem.IsPart u o ∧ Q o H') X.xe s
theorem po_tOf {X : Cx} {e : Option Expr} : PO X e (oOf X e) := ⟨fun pins s _ _ _ I h => h pins s I⟩
structure DO (C : Ct M) (e : Option Expr) (w : OW M) : Prop where
  run : ∀ (σ : L2.St) (ρ : DEnv) (W : Wd M) (Q : Option Int → Hp → Prop) (q : Option Int → M.G → Prop), Sat C σ ρ W → (∀ o W', Go W W' → Wok C.X.K W' → q o W'.g → Q o W'.H) → w ρ W.g q → oOf C.X e σ W.H Q
@[simp] def wONone : OW M := fun _ g q => q none g
@[simp] def wOSome (w : EW M) : OW M := fun ρ g q => w ρ g fun d g' => asI d fun i => q (some i) g'
theorem do_none : DO C none wONone := ⟨fun σ ρ W Q q S hQ hw pins s I => po_none.run pins s σ W.H Q I (hQ none W (Go.refl W) S.ok hw)⟩
theorem do_some (he : DE C e we) : DO C (some e) (wOSome we) := ⟨fun σ ρ W Q q S hQ hw pins s I => (po_some pe_tOf).run pins s σ W.H Q I (he.run σ ρ W _ _ S (fun v d W' g k r q1 => by
  cases d with
  | int i => exact ⟨i, by cases r; rfl, hQ _ W' g k q1⟩
  | _ => exact q1.elim) hw)⟩
def cutL {α : Type} (xs : List α) (lo hi : Option Int) : List α := (xs.drop (HT.sIx xs.length 0 lo)).take (HT.sIx xs.length xs.length hi - HT.sIx xs.length 0 lo)
theorem RpA.cut {K : PySem.W.Frag} {F : Hp} {R : List Addr} {vs : List V} {ds : List D} (r : RpA K F R vs ds) (lo hi : Option Int) : RpA K F R (cutV vs lo hi) (cutL ds lo hi) := by
  unfold cutV cutL
  rw [r.length]
  exact (r.drop _).take _
theorem cut_all {α : Type} {xs : List α} {lo hi : Option Int} (h : HT.sIx xs.length 0 lo = 0 ∧ HT.sIx xs.length xs.length hi = xs.length) : cutL xs lo hi = xs := by
  unfold cutL
  rw [h.1, h.2]
  simp
def oSl : D → Option Int → Option Int → (D → Prop) → Prop
  | .str x, lo, hi, q => x.length ≤ sizeLine ∧ q (.str (cutL x lo hi))
  | .tup ds, lo, hi, q => q (.tup (cutL ds lo hi))
  | .lst ds, lo, hi, q => q (.lst (cutL ds lo hi))
  | _, _, _, _ => False
def oSlN : D → Option Int → Option Int → (List D → Prop) → Prop
  | .lst ds, lo, hi, q => q (cutL ds lo hi)
  | _, _, _, _ => False
@[simp] def wSl (w : EW M) (l h : OW M) : EW M := fun ρ g q => w ρ g fun d g1 => l ρ g1 fun lo g2 => h ρ g2 fun hi g3 => oSl d lo hi fun r => q r g3
variable {lo hi : Option Expr} {wl wh : OW M} {p2 : Pos}
theorem sl_run {rr : V → Option Int → Option Int → Hp → VK → Prop} (ha : DP C a wa) (hl : DO C lo wl) (hh : DO C hi wh) {Q : VK} {q : D → Option Int → Option Int → M.G → Prop} (S : Sat C σ ρ W)
    (h : ∀ W1 x d l u, Go W W1 → Wok C.X.K W1 → RdP C.X.K W1 x d → q d l u W1.g → rr x l u W1.H Q) (hw : wa ρ W.g fun d g1 => wl ρ g1 fun l g2 => wh ρ g2 fun u g3 => q d l u g3) :
    tSl rr (tOf C.X a) (oOf C.X lo) (oOf C.X hi) σ W.H Q :=
  ha.run σ ρ W _ _ S (fun v d W1 g1 k1 r1 q1 => hl.run σ ρ W1 _ _ (S.step g1 k1) (fun l W2 g2 k2 q2 => hh.run σ ρ W2 _ _ (S.step (g1.trans g2) k2) (fun u W3 g3 k3 q3 => h W3 v d l u ((g1.trans g2).trans g3) k3 ((r1.step g2).step g3) q3) q2) q1) hw
theorem de_slice (ha : DP C a wa) (hl : DO C lo wl) (hh : DO C hi wh) : DE C (.Subscript a (.Slice lo hi none p2) pos) (wSl wa wl wh) := ⟨fun σ ρ W Q q S hQ hw =>
  tOf_of (pe_slice ((sl_str.or sl_tupA).or sl_list) pe_tOf po_tOf po_tOf) (sl_run ha hl hh S (fun W1 x d l u g k r q1 => by
    cases d with
    | str y =>
      obtain ⟨z, rfl, rfl⟩ := r.str_inv
      refine .inl (.inl ⟨z, rfl, by rw [str_len]; exact q1.1, hQ _ _ W1 g k (rp_strS _ ?_) q1.2⟩)
      unfold cutS cutL
      rw [str_len]
    | tup ds =>
      obtain ⟨p, vs, rfl, hp, ra⟩ := r.tup_inv
      refine .inl (.inr ⟨p, vs, rfl, same_tup k.sub hp, fun hw => ?_, fun _ t ht => ?_⟩)
      · rw [ra.length] at hw
        rw [show oSl (.tup ds) l u (fun r => q r W1.g) = q (.tup (cutL ds l u)) W1.g from rfl, cut_all hw] at q1
        exact hQ _ _ W1 g k (.tup hp ra) q1
      · exact hQ _ _ (W1.lay t (.tup (cutV vs l u))) (g.trans (Go.lay k ht)) (k.lay ht) (.tup (.of upd_same) ((ra.cut l u).mono (same_new (k.noF ht)) fun _ _ z => z)) q1
    | lst ds =>
      obtain ⟨p, vs, rfl, hp, np, ra⟩ := r.lst_inv k
      exact .inr ⟨p, vs, rfl, .of hp, fun t ht => hQ _ _ (W1.lay t (.lst (cutV vs l u))) (g.trans (Go.lay k ht)) (k.lay ht) (.lst upd_same ((ra.cut l u).mono (same_new (k.noF ht)) fun _ _ z => z)) q1⟩
    | _ => exact q1.elim) hw)⟩
theorem nofresh (g : Go W W1) {p : Addr} (h : W1.H p = none) : W.H p = none := by
  cases z : W.H p with
  | none => rfl
  | some o => exact absurd h (g.live p (by rw [z]; simp))
structure CallD (C : Ct M) (f : Value) (r : List D → (D → Prop) → Prop) : Prop where
  run : ∃ rr, CallR C.X f rr ∧ ∀ (W : Wd M) (vs : List V) (ds : List D) (Q : VK) (q : D → Prop), Wok C.X.K W → Paired (RdP C.X.K W) vs ds →
    (∀ v d' W', Go W W' → Wok C.X.K W' → W'.g = W.g → Rp C.X.K W'.F W'.R v d' → q d' → Q v W'.H) → r ds q → rr vs W.H Q
structure CallN (C : Ct M) (f : Value) (r : List D → (List D → Prop) → Prop) : Prop where
  run : ∃ rr, CallR C.X f rr ∧ ∀ (W : Wd M) (vs : List V) (ds : List D) (Q : VK) (q : List D → Prop), Wok C.X.K W → Paired (RdP C.X.K W) vs ds →
    (∀ p vs ds W', Go W W' → Wok C.X.K W' → W'.g = W.g → W'.H p = some (.lst vs) → W'.F p = none → p ∉ W'.R → W.H p = none → RpA C.X.K W'.F W'.R vs ds → q ds → Q (.ref p) W'.H) → r ds q → rr vs W.H Q
@[simp] def wCB (r : List D → (D → Prop) → Prop) (wa : AW M) : EW M := fun ρ g q => wa ρ g fun ds g' => r ds fun d => q d g'
@[simp] def wCN (r : List D → (List D → Prop) → Prop) (wa : AW M) : NW M := fun ρ g q => wa ρ g fun ds g' => r ds fun d => q d g'
variable {x : Str} {p : Pos} {id T : String} {r : List D → (D → Prop) → Prop} {rn : List D → (List D → Prop) → Prop} {wA : AW M}
theorem de_callB (hc : CallD C (.builtin id) r) (hg : Gl C.X x) (hm : C.X.mg x = none) (hv : bootBuiltins x = some (.builtin id)) (ha : DAP C (e :: es) wA) (hn : x ≠ "__name__" := by decide) (hdb : (x == ("__debug__" : Str)) = false := by decide)
    (he : starEach (e :: es) C.X.env = (false, eval e C.X.env) :: starEach es C.X.env := by rfl) (hpl : (backTo pos (starEach es C.X.env)).any (·.1) = false := by rfl) : DE C (.Call (.Name x p) (e :: es) [] pos) (wCB r wA) := ⟨fun σ ρ W Q q S hQ hw => by
  obtain ⟨rr, h1, h2⟩ := hc.run
  exact tOf_of (pe_callB h1 hg hm hv pa_tOf hn hdb he hpl) (ha.run σ ρ W _ _ S (fun vs ds W1 g1 k1 r1 q1 => h2 W1 vs ds Q _ k1 r1 (fun v d W2 g2 k2 eg r2 q2 => hQ v d W2 (g1.trans g2) k2 r2 (eg ▸ q2)) q1) hw)⟩
theorem de_callTy (hc : CallD C (.type T) r) (hg : Gl C.X x) (hm : C.X.mg x = none) (hv : bootBuiltins x = some (.type T)) (ha : DAP C (e :: es) wA) (hn : x ≠ "__name__" := by decide) (hdb : (x == ("__debug__" : Str)) = false := by decide)
    (he : starEach (e :: es) C.X.env = (false, eval e C.X.env) :: starEach es C.X.env := by rfl) (hpl : (backTo pos (starEach es C.X.env)).any (·.1) = false := by rfl) : DE C (.Call (.Name x p) (e :: es) [] pos) (wCB r wA) := ⟨fun σ ρ W Q q S hQ hw => by
  obtain ⟨rr, h1, h2⟩ := hc.run
  exact tOf_of (pe_callTy h1 hg hm hv pa_tOf hn hdb he hpl) (ha.run σ ρ W _ _ S (fun vs ds W1 g1 k1 r1 q1 => h2 W1 vs ds Q _ k1 r1 (fun v d W2 g2 k2 eg r2 q2 => hQ v d W2 (g1.trans g2) k2 r2 (eg ▸ q2)) q1) hw)⟩
theorem dn_callB (hc : CallN C (.builtin id) rn) (hg : Gl C.X x) (hm : C.X.mg x = none) (hv : bootBuiltins x = some (.builtin id)) (ha : DAP C (e :: es) wA) (hn : x ≠ "__name__" := by decide) (hdb : (x == ("__debug__" : Str)) = false := by decide)
    (he : starEach (e :: es) C.X.env = (false, eval e C.X.env) :: starEach es C.X.env := by rfl) (hpl : (backTo pos (starEach es C.X.env)).any (·.1) = false := by rfl) : DN C (.Call (.Name x p) (e :: es) [] pos) (wCN rn wA) := ⟨fun σ ρ W Q q S hQ hw => by
  obtain ⟨rr, h1, h2⟩ := hc.run
  exact tOf_of (pe_callB h1 hg hm hv pa_tOf hn hdb he hpl) (ha.run σ ρ W _ _ S (fun vs ds W1 g1 k1 r1 q1 => h2 W1 vs ds Q _ k1 r1 (fun p vs ds W2 g2 k2 eg a1 a2 a3 a4 r2 q2 => hQ p vs ds W2 (g1.trans g2) k2 a1 a2 a3 (nofresh g1 a4) r2 (eg ▸ q2)) q1) hw)⟩
theorem dn_callTy (hc : CallN C (.type T) rn) (hg : Gl C.X x) (hm : C.X.mg x = none) (hv : bootBuiltins x = some (.type T)) (ha : DAP C (e :: es) wA) (hn : x ≠ "__name__" := by decide) (hdb : (x == ("__debug__" : Str)) = false := by decide)
    (he : starEach (e :: es) C.X.env = (false, eval e C.X.env) :: starEach es C.X.env := by rfl) (hpl : (backTo pos (starEach es C.X.env)).any (·.1) = false := by rfl) : DN C (.Call (.Name x p) (e :: es) [] pos) (wCN rn wA) := ⟨fun σ ρ W Q q S hQ hw => by
  obtain ⟨rr, h1, h2⟩ := hc.run
  exact tOf_of (pe_callTy h1 hg hm hv pa_tOf hn hdb he hpl) (ha.run σ ρ W _ _ S (fun vs ds W1 g1 k1 r1 q1 => h2 W1 vs ds Q _ k1 r1 (fun p vs ds W2 g2 k2 eg a1 a2 a3 a4 r2 q2 => hQ p vs ds W2 (g1.trans g2) k2 a1 a2 a3 (nofresh g1 a4) r2 (eg ▸ q2)) q1) hw)⟩
def cLen : List D → (D → Prop) → Prop
  | [.str x], q => x.length ≤ sizeLine ∧ q (.int x.length)
  | [.lst ds], q => q (.int ds.length)
  | [.tup ds], q => q (.int ds.length)
  | _, _ => False
theorem pair1 {α β : Type} {P : α → β → Prop} {xs : List α} {y : β} (h : Paired P xs [y]) : ∃ x, xs = [x] ∧ P x y := by
  cases h with
  | cons a b => cases b; exact ⟨_, rfl, a⟩
theorem pair2 {α β : Type} {P : α → β → Prop} {xs : List α} {y z : β} (h : Paired P xs [y, z]) : ∃ x x', xs = [x, x'] ∧ P x y ∧ P x' z := by
  cases h with
  | cons a b => cases b with
    | cons c d => cases d; exact ⟨_, _, rfl, a, c⟩
theorem one_of {r : List D → (D → Prop) → Prop} {ds : List D} {q : D → Prop} (h : r ds q) (f : ∀ q, ¬ r [] q) (f2 : ∀ a b c q, ¬ r (a :: b :: c) q) : ∃ d, ds = [d] := by
  cases ds with
  | nil => exact absurd h (f q)
  | cons a t =>
    cases t with
    | nil => exact ⟨a, rfl⟩
    | cons b c => exact absurd h (f2 a b c q)
theorem calld_len : CallD C (.builtin "len") cLen := by
  refine ⟨_, call_len, fun W vs ds Q q k r hQ h => ?_⟩
  obtain ⟨d, rfl⟩ := one_of h (fun _ h => h) (fun a _ _ _ h => by cases a <;> exact h)
  obtain ⟨v, rfl, r0⟩ := pair1 r
  cases d with
  | str x =>
    obtain ⟨z, rfl, rfl⟩ := r0.str_inv
    refine ⟨_, z.length, rfl, ⟨by rw [str_len]; exact h.1, rfl⟩, hQ _ _ W (Go.refl W) k rfl (.int _) ?_⟩
    rw [str_len]
    exact h.2
  | lst ds =>
    obtain ⟨p, vs, rfl, hp, np, ra⟩ := r0.lst_inv k
    exact ⟨_, vs.length, rfl, .inl ⟨vs, .of hp, rfl⟩, hQ _ _ W (Go.refl W) k rfl (.int _) (by rw [ra.length]; exact h)⟩
  | tup ds =>
    obtain ⟨p, vs, rfl, hp, ra⟩ := r0.tup_inv
    exact ⟨_, vs.length, rfl, .inr ⟨vs, same_tup k.sub hp, rfl⟩, hQ _ _ W (Go.refl W) k rfl (.int _) (by rw [ra.length]; exact h)⟩
  | _ => exact h.elim
def cTuple : List D → (D → Prop) → Prop
  | [.lst ds], q => q (.tup ds)
  | [.tup ds], q => q (.tup ds)
  | _, _ => False
theorem calld_tuple : CallD C (.type "tuple") cTuple := by
  refine ⟨_, call_tuple_of, fun W vs ds Q q k r hQ h => ?_⟩
  obtain ⟨d, rfl⟩ := one_of h (fun _ h => h) (fun a _ _ _ h => by cases a <;> exact h)
  obtain ⟨v, rfl, r0⟩ := pair1 r
  cases d with
  | lst ds =>
    obtain ⟨p, vs, rfl, hp, np, ra⟩ := r0.lst_inv k
    exact ⟨p, vs, rfl, .inl ⟨.of hp, fun t ht => hQ _ _ (W.lay t (.tup vs)) (Go.lay k ht) (k.lay ht) rfl (.tup (.of upd_same) (ra.mono (same_new (k.noF ht)) fun _ _ z => z)) h⟩⟩
  | tup ds =>
    obtain ⟨p, vs, rfl, hp, ra⟩ := r0.tup_inv
    exact ⟨p, vs, rfl, .inr ⟨same_tup k.sub hp, hQ _ _ W (Go.refl W) k rfl (.tup hp ra) h⟩⟩
  | _ => exact h.elim
def cList : List D → (List D → Prop) → Prop
  | [.lst ds], q => q ds
  | [.tup ds], q => q ds
  | _, _ => False
def cMin2 : List D → (D → Prop) → Prop
  | [.int i, .int j], q => q (.int (if j < i then j else i))
  | _, _ => False
def cMax2 : List D → (D → Prop) → Prop
  | [.int i, .int j], q => q (.int (if j > i then j else i))
  | _, _ => False
theorem cMin2_inv {ds : List D} {q : D → Prop} (h : cMin2 ds q) : ∃ i j, ds = [.int i, .int j] ∧ q (.int (if j < i then j else i)) := by
  unfold cMin2 at h
  split at h
  · exact ⟨_, _, rfl, h⟩
  · exact h.elim
theorem calld_min2 (hc : C.X.calm = true) : CallD C (.builtin "min") cMin2 := by
  refine ⟨_, call_min2 hc, fun W vs ds Q q k r hQ h => ?_⟩
  obtain ⟨i, j, rfl, h⟩ := cMin2_inv h
  obtain ⟨v, v', rfl, r1, r2⟩ := pair2 r
  exact ⟨i, j, by rw [r1.int_inv, r2.int_inv], hQ _ _ W (Go.refl W) k rfl (.int _) h⟩
def jn (sep : List Nat) : List (List Nat) → List Nat := TL.joinL sep
def oJoin (sep : List Nat) (d : D) (q : D → Prop) : Prop := ∃ ds xs, (d = .lst ds ∨ d = .tup ds) ∧ ds = xs.map D.str ∧ (xs.map (·.length)).sum + xs.length * sep.length ≤ 16777216 ∧ q (.str (jn sep xs))
def asS (d : D) (q : List Nat → Prop) : Prop := match d with
  | .str i => q i
  | _ => False
@[simp] def wJoin (wo we : EW M) : EW M := fun ρ g q => wo ρ g fun s g1 => asS s fun sep => we ρ g1 fun d g2 => oJoin sep d fun r => q r g2
theorem join_list (a : Str) (zs : List Str) : (PySem.Txt.join a zs).cps.toList = jn a.cps.toList (zs.map (·.cps.toList)) := by
  rw [TL.join_eq]
  exact TL.tl_join a zs
theorem de_join {o : Expr} {wo : EW M} {apos : Pos} (ho : DE C o wo) (he : DP C e we) (hs : starEach [e] C.X.env = [(false, eval e C.X.env)] := by rfl) (hbase : attributeBase o "join" C.X.env (eval o C.X.env) = eval o C.X.env := by rfl) (hline : (apos.endLine == pos.line) = true := by rfl) :
    DE C (.Call (.Attribute o "join" apos) [e] [] pos) (wJoin wo we) := ⟨fun σ ρ W Q q S hQ hw =>
  tOf_of (pe_join pe_tOf pe_tOf hs hbase hline) (ho.run σ ρ W _ _ S (fun v d W1 g1 k1 r1 q1 => by
    cases d with
    | str sep =>
      cases r1 with
      | str z _ hz =>
        subst hz
        refine ⟨⟨z, rfl⟩, he.run σ ρ W1 _ _ (S.step g1 k1) (fun u d2 W2 g2 k2 r2 q2 => ?_) q1⟩
        obtain ⟨ds, xs, hd, e1, hl, q2⟩ := q2
        subst e1
        have fin : ∀ {vs : List V}, RpA C.X.K W2.F W2.R vs (xs.map D.str) → ∃ zs : List Str, vs = zs.map V.str ∧ (zs.map (·.length)).sum + zs.length * z.length ≤ 16777216 ∧ Q (.str (PySem.Txt.join z zs)) W2.H := fun {vs} r => by
          obtain ⟨zs, e1, e2⟩ := r.strs
          refine ⟨zs, e1, ?_, hQ _ _ W2 (g1.trans g2) k2 (rp_strS _ (by rw [join_list, e2])) q2⟩
          subst e2
          have e3 : (List.map (fun x : Str => x.cps.toList) zs).map (·.length) = zs.map (·.length) := by
            rw [List.map_map]
            exact List.map_congr_left fun x _ => (str_len x).symm
          rw [e3, List.length_map, ← str_len] at hl
          exact hl
        rcases hd with rfl | rfl
        · obtain ⟨p, vs, rfl, hp, np, ra⟩ := r2.lst_inv k2
          obtain ⟨zs, rfl, h1, h2⟩ := fin ra
          exact ⟨z, p, zs, rfl, rfl, .inl (.of hp), h1, h2⟩
        · obtain ⟨p, vs, rfl, hp, ra⟩ := r2.tup_inv
          obtain ⟨zs, rfl, h1, h2⟩ := fin ra
          exact ⟨z, p, zs, rfl, rfl, .inr (same_tup k2.sub hp), h1, h2⟩
    | _ => exact q1.elim) hw)⟩
end
end DL
set_option Elab.async false
set_option linter.all false
set_option maxRecDepth 100000
set_option maxHeartbeats 1000000
namespace DL
open PySem L2
/-- (text, number), in Python's order -/
def leTI (p q : List Nat × Int) : Prop := p.1 < q.1 ∨ (p.1 = q.1 ∧ p.2 ≤ q.2)
theorem perm_map_inv {α β : Type} {f : α → β} : ∀ {l l2 : List β}, l.Perm l2 → ∀ rs : List α, l2 = rs.map f → ∃ rs' : List α, rs'.Perm rs ∧ l = rs'.map f := by
  intro l l2 h
  induction h with
  | nil =>
    intro rs e
    cases rs with
    | nil => exact ⟨[], .refl _, rfl⟩
    | cons a r => cases e
  | cons x h ih =>
    intro rs e
    cases rs with
    | nil => cases e
    | cons a r =>
      injection e with e1 e2
      obtain ⟨rs', p, e3⟩ := ih r e2
      exact ⟨a :: rs', p.cons a, by rw [e1, e3]; rfl⟩
  | swap x y l =>
    intro rs e
    cases rs with
    | nil => cases e
    | cons a r =>
      cases r with
      | nil => cases e
      | cons b r =>
        injection e with e1 e2
        injection e2 with e2 e3
        exact ⟨b :: a :: r, List.Perm.swap a b r, by rw [e1, e2, e3]; rfl⟩
  | trans h1 h2 ih1 ih2 =>
    intro rs e
    obtain ⟨r1, p1, e1⟩ := ih2 rs e
    obtain ⟨r2, p2, e2⟩ := ih1 r1 e1
    exact ⟨r2, p2.trans p1, e2⟩
abbrev RTI := Addr × Str × Int
def keyTI (r : RTI) : List (Int ⊕ List Nat) := [.inr r.2.1.cps.toList, .inl r.2.2]
def rSortedTI (K : PySem.W.Frag) : List V → Hp → VK → Prop := fun vs H Q => ∃ (a : Addr) (rs : List (Addr × Str × Int)), vs = [.ref a] ∧ SqL K H a (rs.map fun r => V.ref r.1) ∧ (∀ r ∈ rs, SqT K H r.1 [.str r.2.1, .int r.2.2]) ∧
  ∀ (rs' : List (Addr × Str × Int)) (p : Addr), rs'.Perm rs → rs'.Pairwise (fun r q => leTI (r.2.1.cps.toList, r.2.2) (q.2.1.cps.toList, q.2.2)) → H p = none → Q (.ref p) (upd H p (.lst (rs'.map fun r => V.ref r.1)))
theorem vals_refs : ∀ {rs : List RTI} {us : List Value}, Vals (rs.map fun r => V.ref r.1) us → us = rs.map fun r => Value.ref r.1
  | [], _, .nil => rfl
  | r :: rs, _, .cons a t => by
    have e : _ = Value.ref r.1 := a
    rw [e, vals_refs t]
    rfl
theorem refs_vals : ∀ rs : List RTI, Vals (rs.map fun r => V.ref r.1) (rs.map fun r => Value.ref r.1)
  | [] => .nil
  | r :: rs => .cons rfl (refs_vals rs)
theorem zip_refs : ∀ rs : List RTI, (rs.map fun r => Value.ref r.1).zip (rs.map fun r => Value.ref r.1) = rs.map fun r => (Value.ref r.1, Value.ref r.1)
  | [] => rfl
  | r :: rs => by rw [List.map_cons, List.map_cons, List.zip_cons_cons, zip_refs rs]
theorem kle_TI {r q : RTI} (h : (PyProof.Rows.G.tupKindC hp sh).kle (keyTI r) (keyTI q)) : leTI (r.2.1.cps.toList, r.2.2) (q.2.1.cps.toList, q.2.2) := by
  have h' : (decide (q.2.1.cps.toList < r.2.1.cps.toList) || (!decide (r.2.1.cps.toList < q.2.1.cps.toList) && (decide (q.2.2 < r.2.2) || (!decide (r.2.2 < q.2.2) && false)))) = false := h
  simp only [Bool.or_eq_false_iff, Bool.and_eq_false_iff, decide_eq_false_iff_not, Bool.not_eq_false', decide_eq_true_eq, Bool.and_false, Bool.or_false] at h'
  obtain ⟨h1, h2⟩ := h'
  by_cases h3 : r.2.1.cps.toList < q.2.1.cps.toList
  · exact .inl h3
  · refine .inr ⟨List.le_antisymm (List.not_lt.mp h1) (List.not_lt.mp h3), ?_⟩
    rcases h2 with h2 | h2
    · exact absurd h2 h3
    · show r.2.2 ≤ q.2.2
      simp at h2
      omega
theorem cr_sortedTI {X : Cx} : CallR X (.builtin "sorted") (rSortedTI X.K) := by
  intro pins s σ H vs us Q I r h
  obtain ⟨a, rs, rfl, hs, ht, q⟩ := h
  obtain ⟨its, rv, hl, hz⟩ := I.list hs
  obtain ⟨u, rfl, ru⟩ := vals1 r
  obtain rfl : u = Value.ref a := ru
  have eits := vals_refs rv
  subst eits
  -- each item, in the heap
  have at_ : ∀ r ∈ rs, ∃ o t1 t2 n, s.heap.get? r.1 = some o ∧ o.cls = .type "tuple" ∧ o.data = .seq #[.str r.2.1 t1, .int r.2.2 t2] n := fun r hr => by
    obtain ⟨its2, r2, ⟨o, ho, hc, n, hd⟩, _⟩ := I.tuple (ht r hr)
    obtain ⟨u1, u2, rfl, ⟨t1, rfl⟩, ⟨t2, rfl⟩⟩ := vals2 r2
    exact ⟨o, t1, t2, n, ho, hc, hd⟩
  have key : ∀ r ∈ rs, PyProof.Rows.G.tupKeyC s.heap (fun i => i == 0) (.ref r.1) = some (keyTI r) := fun r hr => by
    obtain ⟨o, t1, t2, n, ho, hc, hd⟩ := at_ r hr
    simp [PyProof.Rows.G.tupKeyC, PyProof.Rows.G.isTupObj, PyProof.Rows.tupKey, ho, hc, hd, PyProof.Rows.tupItems, keyTI]
  have tups : ∀ l : List RTI, (∀ r ∈ l, r ∈ rs) → ∃ fs, PyProof.Rows.TupsOf s.heap (fun i => i == 0) (l.map fun r => Value.ref r.1) fs := fun l => by
    induction l with
    | nil => exact fun _ => ⟨[], .nil⟩
    | cons r l ih =>
      intro hm
      obtain ⟨fs, hf⟩ := ih fun x hx => hm x (List.mem_cons_of_mem _ hx)
      obtain ⟨o, t1, t2, n, ho, hc, hd⟩ := at_ r (hm r List.mem_cons_self)
      exact ⟨.str r.2.1 t1 :: fs, .cons ⟨r.1, o, _, n, rfl, ho, hc, hd, rfl, fun z => by simp at z, fun _ => ⟨_, _, rfl⟩⟩ hf⟩
  obtain ⟨fs, hf⟩ := tups rs fun _ h => h
  have hlen : (rs.map fun r => Value.ref r.1).length ≤ sizeLine := by
    rw [List.length_map] at hz ⊢
    exact hz
  refine PyProof.Rows.G.sorted_tups hl.isList hf (fun v hv => ?_) hlen fun st' hp hsd _ => ?_
  · obtain ⟨r, hr, rfl⟩ := List.mem_map.mp hv
    exact ⟨_, key r hr⟩
  · obtain ⟨ep, he'⟩ := PyProof.Rows.sortedAll_at s.heap (rs.map fun r => Value.ref r.1) ((PyProof.Rows.arrOf st').map (·.2))
    have hp' : (PyProof.Rows.arrOf st').toList.Perm (rs.map fun r => (Value.ref r.1, Value.ref r.1)) := by
      have e : (PyProof.Rows.pairsOf (rs.map fun r => Value.ref r.1)).toList = rs.map fun r => (Value.ref r.1, Value.ref r.1) := by
        rw [PyProof.Rows.pairsOf_toList]
        exact zip_refs rs
      rw [← e]
      exact Array.perm_iff_toList_perm.mp hp
    obtain ⟨rs', p2, e2⟩ := perm_map_inv (f := fun r : RTI => (Value.ref r.1, Value.ref r.1)) hp' rs rfl
    have eo : ((PyProof.Rows.arrOf st').map (·.2)).toList = rs'.map fun r => Value.ref r.1 := by
      rw [Array.toList_map, e2, List.map_map]
      rfl
    have hin : ∀ r ∈ rs', r ∈ rs := fun r hr => p2.mem_iff.mp hr
    have kk : ∀ (i : Nat) r, rs'[i]? = some r → PyProof.Rows.KK (PyProof.Rows.G.tupKindC s.heap (fun i => i == 0)) (PyProof.Rows.arrOf st') i = keyTI r := fun i r e => by
      have h1 : (PyProof.Rows.arrOf st')[i]? = some (Value.ref r.1, Value.ref r.1) := by
        rw [← Array.getElem?_toList, e2, List.getElem?_map, e]
        rfl
      unfold PyProof.Rows.KK
      rw [h1]
      show (PyProof.Rows.G.tupKeyC s.heap (fun i => i == 0) (.ref r.1)).getD _ = _
      rw [key r (hin r (List.mem_of_getElem? e))]
      rfl
    have srt : rs'.Pairwise (fun r q => leTI (r.2.1.cps.toList, r.2.2) (q.2.1.cps.toList, q.2.2)) := by
      rw [List.pairwise_iff_getElem]
      intro i j hi hj hij
      have hjs : j < (PyProof.Rows.pairsOf (rs.map fun r => Value.ref r.1)).size := by
        rw [PyProof.Rows.pairsOf_size, List.length_map, ← p2.length_eq]
        exact hj
      have := hsd i j (Nat.le_of_lt hij) hjs
      rw [kk i _ (List.getElem?_eq_getElem hi), kk j _ (List.getElem?_eq_getElem hj)] at this
      exact kle_TI this
    refine ⟨.ref (s.heap.objs.size + 1), upd H (s.heap.objs.size + 1) (.lst (rs'.map fun r => V.ref r.1)), I.laid (t' := s.toks) (fun _ _ => PyProof.Rows.sortedAll_old) (Nat.le_succ _) ⟨?_, rs'.map fun r => Value.ref r.1, ep, refs_vals rs', ?_⟩, rfl,
      q rs' _ p2 srt (I.hok.fresh (Nat.le_succ _))⟩
    · rw [List.length_map, p2.length_eq, ← List.length_map (f := fun r : RTI => V.ref r.1)]
      exact hz
    · rw [he', ← eo]
section
variable {M : Ghost} {C : Ct M} {W W1 W2 W' : Wd M} {σ : L2.St} {ρ : DEnv} {e : Expr} {es : List Expr} {we : EW M} {pos : Pos}
def pairTI (p : List Nat × Int) : D := .tup [.str p.1, .int p.2]
/-- sorted of pairs (text, number) -/
def cSortedTI (ds : List D) (q : List D → Prop) : Prop := ∃ xs : List (List Nat × Int), ds = [.lst (xs.map pairTI)] ∧ ∀ ys : List (List Nat × Int), ys.Perm xs → ys.Pairwise leTI → q (ys.map pairTI)
theorem rpa_TI {K : PySem.W.Frag} {F : Hp} {R : List Addr} : ∀ {vs : List V} {xs : List (List Nat × Int)}, RpA K F R vs (xs.map pairTI) → ∃ rs : List RTI, vs = rs.map (fun r => V.ref r.1) ∧ xs = rs.map (fun r => (r.2.1.cps.toList, r.2.2)) ∧ ∀ r ∈ rs, SqT K F r.1 [.str r.2.1, .int r.2.2]
  | _, [], .nil => ⟨[], rfl, rfl, fun _ h => by cases h⟩
  | _, (x, i) :: xs, h => by
    have h' : RpA K F R _ (D.tup [.str x, .int i] :: xs.map pairTI) := h
    cases h' with
    | cons a t =>
      cases a with
      | tup hs b =>
        cases b with
        | cons b1 b2 =>
          cases b1 with
          | str z _ hz =>
            cases b2 with
            | cons b3 b4 =>
              cases b3
              cases b4
              obtain ⟨rs, e1, e2, h2⟩ := rpa_TI t
              refine ⟨(_, z, i) :: rs, by rw [e1]; rfl, by rw [e2, List.map_cons, hz], fun r hr => ?_⟩
              rcases List.mem_cons.mp hr with rfl | hr
              · exact hs
              · exact h2 r hr
theorem TI_rpa {K : PySem.W.Frag} {F : Hp} {R : List Addr} : ∀ {rs : List RTI}, (∀ r ∈ rs, SqT K F r.1 [.str r.2.1, .int r.2.2]) → RpA K F R (rs.map fun r => V.ref r.1) ((rs.map (fun r => (r.2.1.cps.toList, r.2.2))).map pairTI)
  | [], _ => .nil
  | r :: rs, h => .cons (.tup (h r List.mem_cons_self) (.cons (rp_str _) (.cons (.int _) .nil))) (TI_rpa fun x hx => h x (List.mem_cons_of_mem _ hx))
theorem calln_sortedTI : CallN C (.builtin "sorted") cSortedTI := by
  refine ⟨_, cr_sortedTI, fun W vs ds Q q k r hQ h => ?_⟩
  obtain ⟨xs, rfl, h⟩ := h
  obtain ⟨v, rfl, r0⟩ := pair1 r
  obtain ⟨p, vs, rfl, hp, np, ra⟩ := r0.lst_inv k
  obtain ⟨rs, rfl, rfl, hs⟩ := rpa_TI ra
  refine ⟨p, rs, rfl, .of hp, fun r hr => same_tup k.sub (hs r hr), fun rs' t p2 srt ht => ?_⟩
  refine hQ t _ _ (W.new t (.lst _)) (Go.new k ht) (k.new ht) rfl upd_same (k.noF ht) (k.noR ht) ht (TI_rpa fun r hr => hs r (p2.mem_iff.mp hr)) (h (rs'.map fun r => (r.2.1.cps.toList, r.2.2)) (p2.map _) ?_)
  rw [List.pairwise_map]
  exact srt

def rep (d : D) : List Nat := (py d).shown.cps.toList
def repOk (d : D) : Prop := (py d).showable = true ∧ pln d = true ∧ (py d).depth ≤ 60 ∧ (py d).shown.length ≤ sizeLine
theorem Inv.notSm {X : Cx} {pins : List (Addr × Obj)} {H : Hp} {s : Shared} (I : Inv X pins σ H s) (sb : SmB X.base) {a : Addr} {o : HO} (e : H a = some o) : a ≠ sysModules := fun z => by
  obtain ⟨u, hu⟩ := sb
  rw [z, (I.bs _ _ hu).2] at e
  cases e
theorem not_in_cons {a b : Addr} {as : List Addr} (h : a ≠ b) (r : b ∉ as) : b ∉ a :: as := fun z => (List.mem_cons.mp z).elim (fun e => h e.symm) r
theorem not_in_app {b : Addr} {as bs : List Addr} (h : b ∉ as) (r : b ∉ bs) : b ∉ as ++ bs := fun z => (List.mem_append.mp z).elim h r
mutual
theorem rp_reads {X : Cx} {pins : List (Addr × Obj)} {H : Hp} {s : Shared} {F : Hp} {R : List Addr} (I : Inv X pins σ H s) (sb : SmB X.base) (sm : Same F H) : ∀ {v : V} {d : D}, Rp X.K F R v d → pln d = true → ∀ u, RelV v u → ∃ as, Reads s.heap u (py d) as ∧ sysModules ∉ as
  | _, _, .non, _, _, r => by cases r; exact ⟨_, Reads.none, by simp⟩
  | _, _, .bl b, _, _, r => by cases r; exact ⟨_, Reads.bool b, by simp⟩
  | _, _, .int i, _, _, r => by obtain ⟨t, rfl⟩ := r; exact ⟨_, Reads.int i t, by simp⟩
  | _, _, .str z x h, _, _, r => by
    subst h
    obtain ⟨t, rfl⟩ := r
    rw [show py (.str z.cps.toList) = .str (S z.cps.toList) from rfl, S_of]
    exact ⟨_, Reads.str z t, by simp⟩
  | _, .lst ds, .lst h q, hp, _, r => by
    cases r
    obtain ⟨its, rv, ⟨o, n, ho, hc, _, hdat⟩, _⟩ := I.list (.of (sm _ _ h))
    obtain ⟨as, hr, hn⟩ := rpA_reads I sb sm q (by simpa [pln] using hp) its rv
    exact ⟨_, Reads.list ho hc hdat hr, not_in_cons (Inv.notSm I sb (sm _ _ h)) hn⟩
  | _, .tup ds, .tup h q, hp, _, r => by
    cases r
    obtain ⟨its, rv, ⟨o, ho, hc, n, hdat⟩, _⟩ := I.tuple (same_tup sm h)
    obtain ⟨as, hr, hn⟩ := rpA_reads I sb sm q (by simpa [pln] using hp) its rv
    exact ⟨_, Reads.tuple ho hc hdat hr, hn⟩
  | _, .dic ds, .dic (a := a) (kvs := kvs) h q, hp, _, r => by
    cases r
    obtain ⟨_, hsm, vs, kv, o, es, ep, ho, ⟨hc, _⟩, hdat, _, pr, _⟩ := (show ObjOk X.prog X.w H s.heap a (.dK kvs) from I.hok a _ (sm _ _ h))
    obtain ⟨as, bs, h1, h2, h3, h4⟩ := rpK_reads I sb sm q (by simpa [pln] using hp) es.toList vs kv pr
    refine ⟨_, Reads.dict ho hc hdat h1 h2, ?_⟩
    exact not_in_cons (by simpa using hsm) (not_in_app h3 h4)
  | _, .ob k, .ob h, hp, _, _ => by simp [pln] at hp
  | _, .exn _ _ _, .exn0 _ _ _ _, hp, _, _ => by simp [pln] at hp
  | _, .exn _ _ _, .exn _ _ _ _ _ _ _, hp, _, _ => by simp [pln] at hp
  | _, .tx _, .tx _ _ _ _, hp, _, _ => by simp [pln] at hp
theorem rpA_reads {X : Cx} {pins : List (Addr × Obj)} {H : Hp} {s : Shared} {F : Hp} {R : List Addr} (I : Inv X pins σ H s) (sb : SmB X.base) (sm : Same F H) : ∀ {vs : List V} {ds : List D}, RpA X.K F R vs ds → plnA ds = true → ∀ us, Vals vs us → ∃ as, ReadsAll s.heap us (pyA ds) as ∧ sysModules ∉ as
  | _, _, .nil, _, _, r => by cases r; exact ⟨_, ReadsAll.nil, by simp⟩
  | _, d :: ds, .cons h t, hp, _, r => by
    have h2 : pln d = true ∧ plnA ds = true := by simpa [plnA] using hp
    cases r with
    | cons r1 r2 =>
      obtain ⟨as, q1, n1⟩ := rp_reads I sb sm h h2.1 _ r1
      obtain ⟨bs, q2, n2⟩ := rpA_reads I sb sm t h2.2 _ r2
      exact ⟨_, ReadsAll.cons q1 q2, not_in_app n1 n2⟩
theorem rpK_reads {X : Cx} {pins : List (Addr × Obj)} {H : Hp} {s : Shared} {F : Hp} {R : List Addr} (I : Inv X pins σ H s) (sb : SmB X.base) (sm : Same F H) : ∀ {kvs : List (Key × V)} {kds : List (Key × D)}, RpK X.K F R kvs kds → plnK kds = true → ∀ (es : List DictEntry) (vs : List (Key × Value)), KV kvs vs → Pairs (mixKind X.prog X.w) es vs →
    ∃ as bs, ReadsAll s.heap (es.map (·.key)) ((pyK kds).map (·.1)) as ∧ ReadsAll s.heap (es.map (·.val)) ((pyK kds).map (·.2)) bs ∧ sysModules ∉ as ∧ sysModules ∉ bs
  | _, _, .nil, _, _, _, kv, pr => by
    cases kv
    cases pr
    exact ⟨_, _, ReadsAll.nil, ReadsAll.nil, by simp, by simp⟩
  | _, (k, d) :: kds, .cons h t, hp, _, _, kv, pr => by
    have h2 : pln d = true ∧ plnK kds = true := by simpa [plnK] using hp
    cases kv with
    | cons kv1 kv2 =>
      cases pr with
      | cons p1 p2 p3 =>
        rename_i kw kws e es
        obtain ⟨k', u⟩ := kw
        obtain ⟨ek, rv⟩ := kv1
        have ek' : k = k' := ek
        subst ek'
        obtain ⟨as, q1, n1⟩ := rp_reads I sb sm h h2.1 _ rv
        obtain ⟨cs, bs, q2, q3, n2, n3⟩ := rpK_reads I sb sm t h2.2 _ _ kv2 p3
        have p2' : e.val = u := p2
        rcases keyIs_shape (show keyIs k e.key = true from p1) with ⟨i, tk, rfl, ke⟩ | ⟨x, tk, rfl, ke⟩
        · refine ⟨[] ++ cs, as ++ bs, ?_, ?_, not_in_app (by simp) n2, not_in_app n1 n3⟩
          · rw [List.map_cons, ke]; exact ReadsAll.cons (Reads.int i tk) q2
          · rw [List.map_cons, p2']; exact ReadsAll.cons q1 q3
        · refine ⟨[] ++ cs, as ++ bs, ?_, ?_, not_in_app (by simp) n2, not_in_app n1 n3⟩
          · rw [List.map_cons, ke]; exact ReadsAll.cons (Reads.str x tk) q2
          · rw [List.map_cons, p2']; exact ReadsAll.cons q1 q3
end
def rRepr (X : Cx) : List V → Hp → VK → Prop := fun vs H Q => ∃ (v : V) (d : D) (F : Hp) (R : List Addr), vs = [v] ∧ Same F H ∧ Rp X.K F R v d ∧ repOk d ∧ Q (.str (py d).shown) H
theorem cr_repr {X : Cx} (sb : SmB X.base) (hg : X.A.guards = some []) (hu : X.A.units + 64 < cLine) : CallR X (.builtin "repr") (rRepr X) := by
  intro pins s σ H vs us Q I r h
  obtain ⟨v, d, F, R, rfl, sm, rp, ⟨h1, h3, h4, h5⟩, q⟩ := h
  obtain ⟨u, rfl, ru⟩ := vals1 r
  obtain ⟨as, hr, hn⟩ := rp_reads I sb sm rp h3 u ru
  have go : ∀ a, u = .ref a → wpAny (model X.prog X.w) X.A (call (.builtin "repr") [u]) (EP X pins σ Q) X.xe s := fun a e => by
    subst e
    refine repr_of_reads' hr h1 (fun _ => hn) hg (by omega) (fun _ _ h => h) (fun h' u tk hk => ⟨.str _, H, I.kept hk, ⟨_, rfl⟩, q⟩) h5
  cases rp with
  | non => cases ru; exact PySem.P.repr_of_none ⟨.str _, H, I.tok _, ⟨_, rfl⟩, q⟩
  | bl b => cases ru; exact PySem.P.repr_of_bool ⟨.str _, H, I.tok _, ⟨_, rfl⟩, q⟩
  | int i =>
    obtain ⟨t, rfl⟩ := ru
    exact PySem.P.repr_of_int (of_decide_eq_true h1) ⟨.str _, H, I.tok _, ⟨_, rfl⟩, q⟩
  | str z x hz =>
    obtain ⟨t, rfl⟩ := ru
    subst hz
    have ez : (py (.str z.cps.toList)).shown = reprText z := by show reprText (S z.cps.toList) = _; rw [S_of]
    rw [ez] at q h5
    exact PySem.P.repr_of_str ⟨.str _, H, I.tok _, ⟨_, rfl⟩, q⟩ h5
  | lst h q => cases ru; exact go _ rfl
  | tup h q => cases ru; exact go _ rfl
  | dic h q => cases ru; exact go _ rfl
  | ob h => cases ru; exact go _ rfl
  | exn0 => cases ru; exact go _ rfl
  | exn => cases ru; exact go _ rfl
  | tx => cases ru; exact go _ rfl
  | cl => cases ru; exact go _ rfl
def cRepr (ds : List D) (q : D → Prop) : Prop := ∃ d, ds = [d] ∧ repOk d ∧ q (.str (rep d))
theorem calld_repr (sb : SmB C.X.base) (hg : C.X.A.guards = some []) (hu : C.X.A.units + 64 < cLine) : CallD C (.builtin "repr") cRepr := by
  refine ⟨_, cr_repr sb hg hu, fun W vs ds Q q k r hQ h => ?_⟩
  obtain ⟨d, rfl, ho, h⟩ := h
  obtain ⟨v, rfl, r0⟩ := pair1 r
  rcases r0 with r0 | ⟨p, vs, ds, rfl, rfl, hp, np, ra⟩
  · exact ⟨v, d, W.F, W.R, rfl, k.sub, r0, ho, hQ _ _ W (Go.refl W) k rfl (rp_strS _ rfl) h⟩
  · refine ⟨.ref p, .lst ds, upd W.F p (.lst vs), W.R, rfl, fun a o e => ?_, .lst upd_same (ra.mono ?_ fun _ _ z => z), ho, hQ _ _ W (Go.refl W) k rfl (rp_strS _ rfl) h⟩
    · by_cases z : a = p
      · subst z; rw [upd_same] at e; cases e; exact hp
      · rw [upd_ne z] at e; exact k.sub _ _ e
    · intro a o e
      by_cases z : a = p
      · subst z
        have := k.sub _ _ e
        rw [hp] at this
        cases this
        exact upd_same
      · rw [upd_ne z]; exact e
end
end DL
set_option Elab.async false
set_option linter.all false
set_option maxRecDepth 100000
set_option maxHeartbeats 1000000
namespace DL
open PySem L2
/-- the stream: its list at R[0], the large cells' list at R[1], all cells frozen; at most n numbers were mixed -/
def StrOk (K : PySem.W.Frag) (n : Nat) (R : List Addr) (F H : Hp) : Prop := ∃ (a b c : Addr) (L cs : List Int) (m : Int), R[0]? = some a ∧ R[1]? = some b ∧ a ≠ b ∧ H a = some (.lst [.ref b, .ref c, .int m]) ∧ H b = some (.lst (L.map V.int)) ∧
  F c = some (.lst (cs.map V.int)) ∧ 0 ≤ m ∧ m ≤ n ∧ cs ≠ []
@[reducible] def stg : Ghost where
  G := Nat
  ok := fun K n R F H => R.length = 2 ∧ (n ≤ 2 ^ 60 → StrOk K n R F H)
  keep := fun {K g R F H F' H'} h s k => ⟨h.1, fun hn => by
    obtain ⟨a, b, c, L, cs, m, h1, h2, h3, h4, h5, h6, h7⟩ := h.2 hn
    exact ⟨a, b, c, L, cs, m, h1, h2, h3, by rw [k a (List.mem_of_getElem? h1)]; exact h4, by rw [k b (List.mem_of_getElem? h2)]; exact h5, s _ _ h6, h7⟩⟩
/-- a thing of the region, written -/
abbrev Wd.reg {M : Ghost} (W : Wd M) (p : Addr) (o : HO) (g : M.G) : Wd M := { W with H := upd W.H p o, g := g }
section
variable {M : Ghost} {K : PySem.W.Frag} {W : Wd M} {p : Addr} {o : HO} {g : M.G}
theorem Go.reg' (h : p ∈ W.R) : Go W (W.reg p o g) := by
  refine ⟨Same.refl _, fun a x e n => ?_, fun a e => ?_, fun _ z => .inl z, [], by simp, by simp⟩
  · show upd W.H p o a = some x
    rw [upd_ne (show a ≠ p from fun z => n (z ▸ h))]
    exact e
  · show upd W.H p o a ≠ none
    by_cases z : a = p
    · subst z; rw [upd_same]; simp
    · rw [upd_ne z]; exact e
theorem Wok.reg (k : Wok K W) (h : p ∈ W.R) (gh : M.ok K g W.R W.F (upd W.H p o)) : Wok K (W.reg p o g) := by
  refine ⟨fun a x e => ?_, gh, k.rf, fun a ha => ?_⟩
  · show upd W.H p o a = some x
    rw [upd_ne (show a ≠ p from fun z => by subst z; rw [k.rf _ h] at e; cases e)]
    exact k.sub _ _ e
  · show upd W.H p o a ≠ none
    by_cases z : a = p
    · subst z; rw [upd_same]; simp
    · rw [upd_ne z]; exact k.rh a ha
end
/-- a draw below many -/
def dDraw : DSp stg := fun ds g q _ => ∃ many : Int, ds = [.ob 0, .int many] ∧ 0 < many ∧ many < 1152921504606846976 ∧ g + 1 ≤ 2 ^ 60 ∧ ∀ v : Int, 0 ≤ v → v < many → q (.int v) (g + 1)
theorem map_int_get {L : List Int} {i : Nat} {x : V} (h : (L.map V.int)[i]? = some x) : ∃ j, x = .int j ∧ L[i]? = some j := by
  rw [List.getElem?_map] at h
  cases q : L[i]? with
  | none => rw [q] at h; cases h
  | some j => rw [q] at h; cases h; exact ⟨j, rfl, rfl⟩
/-- the stream is made -/
def spStream (K : PySem.W.Frag) : Sp := fun vs H Q _ => ∃ (a : Addr) (ns : List Int), vs = [.ref a] ∧ SqL K H a (ns.map V.int) ∧ ns.length ≤ 63 ∧
  ∀ (H' : Hp) (p b c : Addr) (L cs : List Int), Same H H' → H p = none → H b = none → H c = none → p ≠ b → p ≠ c → b ≠ c → H' p = some (.lst [.ref b, .ref c, .int 0]) → H' b = some (.lst (L.map V.int)) → H' c = some (.lst (cs.map V.int)) → cs ≠ [] → Q (.ref p) H'
/-- what the rest of a draw needs of the state -/
structure DrawAt (K : PySem.W.Frag) (W W1 : Wd stg) (a b c : Addr) (L cs : List Int) (m : Int) : Prop where
  go : Go W W1
  ok : Wok K W1
  g : W1.g = W.g
  r0 : W1.R[0]? = some a
  r1 : W1.R[1]? = some b
  ne : a ≠ b
  ha : W1.H a = some (.lst [.ref b, .ref c, .int m])
  hb : W1.H b = some (.lst (L.map V.int))
  hc : W1.F c = some (.lst (cs.map V.int))
  m0 : 0 ≤ m
  mn : m ≤ W.g
  cs0 : cs ≠ []
section
variable {K : PySem.W.Frag} {W W1 W2 : Wd stg} {a b c : Addr} {L cs : List Int} {m : Int}
theorem DrawAt.new (d : DrawAt K W W1 a b c L cs m) {p : Addr} {o : HO} (h : W1.H p = none) : DrawAt K W (W1.new p o) a b c L cs m := by
  have na : a ≠ p := ne_of_none d.ha h
  have nb : b ≠ p := ne_of_none d.hb h
  exact ⟨d.go.trans (Go.new d.ok h), d.ok.new h, d.g, d.r0, d.r1, d.ne, (upd_ne na).trans d.ha, (upd_ne nb).trans d.hb, d.hc, d.m0, d.mn, d.cs0⟩
theorem DrawAt.setB (d : DrawAt K W W1 a b c L cs m) (L' : List Int) : DrawAt K W (W1.reg b (.lst (L'.map V.int)) W1.g) a b c L' cs m := by
  have hb := List.mem_of_getElem? d.r1
  have ok' : Wok K (W1.reg b (.lst (L'.map V.int)) W1.g) := d.ok.reg hb ⟨d.ok.gh.1, fun hn => ⟨a, b, c, L', cs, m, d.r0, d.r1, d.ne, (upd_ne d.ne).trans d.ha, upd_same, d.hc, d.m0, by rw [show ((W1.g : Nat) : Int) = ((W.g : Nat) : Int) from congrArg Int.ofNat d.g]; exact d.mn, d.cs0⟩⟩
  exact ⟨d.go.trans (Go.reg' hb), ok', d.g, d.r0, d.r1, d.ne, (upd_ne d.ne).trans d.ha, upd_same, d.hc, d.m0, d.mn, d.cs0⟩
end

theorem wok_more {K : PySem.W.Frag} {W : Wd stg} (k : Wok K W) {n : Nat} (h : W.g ≤ n) : Wok K ({ W with g := n } : Wd stg) := by
  refine ⟨k.sub, ⟨k.gh.1, fun hn => ?_⟩, k.rf, k.rh⟩
  obtain ⟨a, b, c, L, cs, m, h1, h2, h3, h4, h5, h6, h7, h8, h9⟩ := k.gh.2 (Nat.le_trans h hn)
  refine ⟨a, b, c, L, cs, m, h1, h2, h3, h4, h5, h6, h7, ?_, h9⟩
  exact Int.le_trans h8 (Int.ofNat_le.mpr h)
theorem go_more {W : Wd stg} {n : Nat} : Go W ({ W with g := n } : Wd stg) := ⟨Same.refl _, fun _ _ h _ => h, fun _ h => h, fun _ h => .inl h, [], by simp, by simp⟩

section
variable {M : Ghost} {C : Ct M} {W W1 W2 W' : Wd M} {σ : L2.St} {ρ : DEnv} {e e2 : Expr} {we wi : EW M} {pos apos cpos p1 : Pos}
@[simp] def wApp (i : Nat) (we : EW M) : SW M := fun k ρ g => ∃ ds, ρ[i]? = some (.own ds) ∧ we ρ g fun d g' => ds.length < sizeLine ∧ k.nx (ρ.set i (.own (ds ++ [d]))) g'
/-- x.append(e), x a list of one's own -/
theorem ds_append {i : Nat} {x : Str} (hv : PE C.X (.Name x p1) (tVar i)) (he : DE C e we) (hline : (apos.endLine == cpos.line) = true := by rfl)
    (hs : swapsWith (.Call (.Attribute (.Name x p1) "append" apos) [e] [] cpos) none pos.line C.X.env = pure false := by rfl)
    (hst : starEach [e] C.X.env = (false, eval e C.X.env) :: starEach [] C.X.env := by rfl) (hbase : attributeBase (.Name x p1) "append" C.X.env (eval (.Name x p1) C.X.env) = eval (.Name x p1) C.X.env := by rfl)
    (hpl : (backTo cpos (starEach [] C.X.env)).any (·.1) = false := by rfl)
    (hfew : ((backTo cpos (starEach [e] C.X.env)).all (fun x => !x.1) && (backToKw cpos (keywordEach [] C.X.env)).all (fun x => x.1.isSome) && decide ([e].length + ([] : List Keyword).length + (if ([] : List Keyword).isEmpty then 0 else 1) < 30)) = true := by rfl) :
    DS C (.Expr (.Call (.Attribute (.Name x p1) "append" apos) [e] [] cpos) pos) (wApp i we) := ⟨fun σ ρ W k E S l h => by
  obtain ⟨ds, e0, h⟩ := h
  obtain ⟨o, h1, p, vs, h2, h3, h4, h5, h6, r⟩ := S.sl i _ e0
  subst h2
  refine tsOf_of (ps_expr (pe_bm PySem.F.plainAttrs_list PySem.F.slot_list_append PySem.F.type_list_append mt_append hv (pa_cons pe_tOf pa_nil hst) hbase hfew hline hst hpl) hs) ⟨.ref p, h1, .inl ⟨rfl, vs, .of h3⟩, ?_⟩
  refine he.run σ ρ W _ _ S (fun v d W1 g1 k1 r1 q1 => ?_) h
  have S1 := S.step g1 k1
  obtain ⟨o2, a1, p2, vs2, a2, a3, a4, a5, a6, r2⟩ := S1.sl i _ e0
  subst a2
  rw [h1] at a1
  cases a1
  have ev : vs2 = vs := by
    have := g1.keep _ _ h3 h5
    rw [a3] at this
    cases this
    rfl
  subst ev
  obtain ⟨S2, g2⟩ := S1.write e0 h1 (r2.append (.cons r1 .nil))
  exact ⟨p, vs2, v, rfl, rfl, a3, by rw [r2.length]; exact q1.1, l.nx _ _ _ (g1.s.trans g2) S2 q1.2⟩⟩
@[simp] def wStore (i : Nat) (we wi : EW M) : SW M := fun k ρ g => ∃ ds, ρ[i]? = some (.own ds) ∧ we ρ g fun d g1 => wi ρ g1 fun x g2 => asI x fun j => ∃ m, ixN ds.length j = some m ∧ k.nx (ρ.set i (.own (ds.set m d))) g2
/-- x[e2] = e, x a list of one's own -/
theorem ds_store {i : Nat} {x : Str} {spos : Pos} (hv : PE C.X (.Name x p1) (tVar i)) (he : DE C e we) (hi : DE C e2 wi)
    (ha : ∀ v, assign (.Subscript (.Name x p1) e2 spos) C.X.env v = (do
      let ov ← holding [v] (eval (.Name x p1) C.X.env)
      let iv ← holding [v, ov] (eval e2 C.X.env)
      standAt spos
      holding [v, ov, iv] (setItem ov iv v)
      release [v, ov, iv] []) := by intro _; rfl)
    (hs : swapsWithSole [.Subscript (.Name x p1) e2 spos] e pos.line C.X.env = pure false := by rfl) (hw : swappedStores [.Subscript (.Name x p1) e2 spos] e C.X.env = pure none := by rfl)
    (h1 : (assignEach [.Subscript (.Name x p1) e2 spos] C.X.env).map (·.2) = [assign (.Subscript (.Name x p1) e2 spos) C.X.env] := by rfl) :
    DS C (.Assign [.Subscript (.Name x p1) e2 spos] e pos) (wStore i we wi) := ⟨fun σ ρ W k E S l h => by
  obtain ⟨ds, e0, h⟩ := h
  obtain ⟨o, h1', p, vs, h2, h3, h4, h5, h6, r⟩ := S.sl i _ e0
  subst h2
  refine tsOf_of (ps_asg pe_tOf (pg_sub hv pe_tOf set_list ha) hs hw h1) ?_
  refine he.run σ ρ W _ _ S (fun v d W1 g1 k1 r1 q1 => ⟨.ref p, h1', ?_⟩) h
  refine hi.run σ ρ W1 _ _ (S.step g1 k1) (fun u x W2 g2 k2 r2 q2 => ?_) q1
  cases x with
  | int j =>
    obtain ⟨m, hm, q2⟩ := q2
    have S2 := S.step (g1.trans g2) k2
    obtain ⟨o2, a1, p2, vs2, a2, a3, a4, a5, a6, r3⟩ := S2.sl i _ e0
    subst a2
    rw [h1'] at a1
    cases a1
    obtain ⟨S3, g3⟩ := S2.write e0 h1' (r3.set (r1.step g2) m)
    exact ⟨p, vs2, j, m, rfl, by cases r2; rfl, a3, by rw [r3.length]; exact hm, l.nx _ _ _ ((g1.trans g2).s.trans g3) S3 q2⟩
  | _ => exact q2.elim⟩
end
end DL
set_option Elab.async false
set_option linter.all false
set_option maxRecDepth 100000
set_option maxHeartbeats 1000000
namespace DL
open PySem PySem.Spec PyProof.Rows L2
/-- the tracked heap of a law's entry: the script alone, or nothing where the script is the module's own -/
def hp0 (K : PySem.W.Frag) (a : Addr) (ob : Obj) (ns : List Int) : Hp := fun b => if b = a ∧ K.lookup a = none then some (.frz ob (.lst (ns.map V.int))) else none
theorem hp0_some {K : PySem.W.Frag} {a b : Addr} {ob : Obj} {ns : List Int} {u : HO} (h : hp0 K a ob ns b = some u) : b = a ∧ K.lookup a = none ∧ u = .frz ob (.lst (ns.map V.int)) := by
  unfold hp0 at h
  split at h
  · rename_i q
    exact ⟨q.1, q.2, (Option.some.inj h).symm⟩
  · cases h
theorem law_callG {P : Program} {w : World} {K : PySem.W.Frag} {mg mb : Str → Option Value} {k : Nat} {fa a : Addr} {fd : FuncData} {x : Str} {sp : Sp} {s1 : Shared} {vs : List Value} {ns : List Int}
    (kin : K.In s1.heap) (nsG : s1.heap.Ns mainGlobals mg) (nsB : s1.heap.Ns builtinsNs mb) (boot : ∀ x : Str, x ≠ "__name__" → mb x = bootBuiltins x) (lim : s1.heap.NoLimit) (gens : s1.gens = #[])
    (ha : s1.heap.get? a = some { cls := .type "list", data := .seq vs.toArray }) (hi : IntsAre vs ns) (hl : ns.length ≤ sizeLine) (room : Room k callerA) (mods : ∃ mm, s1.heap.Ns sysModules mm)
    (F : ∀ base : Heap, K.In base → base.Ns mainGlobals mg → SmB base → FnG P w K mg base k fa fd [x] sp) (hbind : ∀ (s : Shared) (u : Value), BindsTo s fd ⟨[u], []⟩ [(x, u)])
    (want : ∀ H : Hp, SqL K H a (ns.map V.int) → sp [.ref a] H (fun v _ => v = .bl true) fun _ _ _ => False) :
    codeAny (model P w) callerA (.call (.ref fa) ⟨[.ref a], []⟩) (fun r s' => r = .ok (.ret (.bool true)) ∧ OldK s1.heap s'.heap ∧ s'.os = s1.os ∧ AllBare s'.gens) s1 := by
  have rel := vals_ints hi
  generalize hob : ({ cls := .type "list", data := .seq vs.toArray } : Obj) = ob at ha
  -- the script is read in it
  have seq : SqL K (hp0 K a ob ns) a (ns.map V.int) := by
    cases q : K.lookup a with
    | none => exact .inl (.inr ⟨ob, by unfold hp0; rw [if_pos ⟨rfl, q⟩]⟩)
    | some o =>
      have e := kin a o q
      rw [ha] at e
      cases e
      subst hob
      exact .inr ⟨_, vs.toArray, _, q, rfl, rfl, rfl, by rw [List.size_toArray, hi.length]; exact hl, by simpa using rel⟩
  have held : HOk P w (hp0 K a ob ns) s1.heap := fun b u e => by
    obtain ⟨rfl, _, rfl⟩ := hp0_some e
    subst hob
    exact ⟨ha, by rw [List.length_map]; exact hl, vs, _, rel, ha⟩
  -- what is not the script stands in the base
  have keep : ∀ {b : Addr} {o : Obj}, s1.heap.get? b = some o → hp0 K a ob ns b = none → (hidT s1.heap (hp0 K a ob ns)).get? b = some o := fun e n => hidT_get e n
  have dict : ∀ {b : Addr} {m : Str → Option Value}, s1.heap.Ns b m → (hidT s1.heap (hp0 K a ob ns)).Ns b m := fun {b m} ⟨o, es, ep, e, d, r⟩ => by
    refine ⟨o, es, ep, keep e ?_, d, r⟩
    cases q : hp0 K a ob ns b with
    | none => rfl
    | some u =>
      obtain ⟨rfl, _, _⟩ := hp0_some q
      rw [ha] at e
      cases e
      subst hob
      cases d
  have kin' : K.In (hidT s1.heap (hp0 K a ob ns)) := fun b o e => keep (kin b o e) (by
    cases q : hp0 K a ob ns b with
    | none => rfl
    | some u =>
      obtain ⟨rfl, z, _⟩ := hp0_some q
      rw [z] at e
      cases e)
  have modl : Mod K mg (hidT s1.heap (hp0 K a ob ns)) := ⟨kin', dict nsG, ⟨mb, dict nsB, boot⟩, let ⟨mc, q1, q2⟩ := lim; ⟨mc, dict q1, q2⟩⟩
  have entry : Env0 P w K mg (hidT s1.heap (hp0 K a ob ns)) callerA [] s1 (hp0 K a ob ns) :=
    ⟨rfl, modl, fun b o e => of_hidT e, Nat.le_of_eq (hidT_size _ _), trivial, (fun b hb => by cases hb), held, .of_eq gens⟩
  have smb : SmB (hidT s1.heap (hp0 K a ob ns)) := by
    obtain ⟨mm, hm⟩ := mods
    obtain ⟨o, es, ep, e, _⟩ := dict hm
    exact ⟨o, e⟩
  have run := (F _ kin' (dict nsG) smb).run callerA [] s1 (hp0 K a ob ns) ⟨[.ref a], []⟩ [.ref a] [.ref a] _ _ room rfl entry (hbind s1 (.ref a)) (.cons rfl .nil) (want _ seq)
  refine codeAny_mono run fun r s2 h => ?_
  match r, h with
  | .error e, h =>
    obtain ⟨_, _, _, _, _, _, _, _, _, _, _, _, z⟩ := h
    exact z.elim
  | .ok (.ret u), ⟨v, H2, os, bare, un, held2, ru, q⟩ =>
    have q' : v = .bl true := q
    subst q'
    obtain rfl : u = Value.bool true := ru
    refine ⟨rfl, OldK.of_keep fun b o e => ?_, os, bare⟩
    cases z : hp0 K a ob ns b with
    | none => exact un.keep b o e z (by intro y; cases y) (by simp)
    | some u =>
      obtain ⟨_, _, rfl⟩ := hp0_some z
      obtain ⟨e1, _⟩ := held b _ z
      obtain ⟨e2, _⟩ := held2 b _ (un.frzs b ob _ z)
      rw [e] at e1
      cases e1
      exact e2
/-- the goal that k_head leaves, from the law's promise -/
theorem walkG {l : PySem.W.OpenLaw} {n k : Nat} {q : Program} {loose : List Str} {XP : (Str → Option Value) → Heap → Prop} {YP : World → Heap → Prop} {d : DefRec} {K : Params → PySem.W.Frag} {sp : World → Sp} {x : Str}
    (hn : l.most = some n) (hi : importsNone q = true) (hn2 : n ≤ sizeLine) (hdf : d.params.defaults = []) (room : Room k callerA) (hY : ∀ (w : World) (h : Heap), YP w h → (K w.params).In h)
    (F : ∀ (w : World) (mg : Str → Option Value) (fa : Addr) (h : Heap), (K w.params).In h → h.Ns mainGlobals mg → mg d.name = some (.ref fa) →
      ∃ fd : FuncData, (∀ (s : Shared) (u : Value), BindsTo s fd ⟨[u], []⟩ [(x, u)]) ∧ ∀ base : Heap, (K w.params).In base → base.Ns mainGlobals mg → SmB base → FnG l.prog w (K w.params) mg base k fa fd [x] (sp w))
    (want : ∀ (w : World) (H : Hp) (a : Addr) (ns : List Int), ns.length ≤ n → SqL (K w.params) H a (ns.map V.int) → sp w [.ref a] H (fun v _ => v = .bl true) fun _ _ _ => False) :
    PySem.W.WalkO q loose XP YP l.row.toRowW d [] (fun f vs => PySem.call f vs) :=
  Att.attach_call hn hdf fun w s0 s1 mg mb fa o pm cd doc a vs ns G Y ho hd hcd hmg hobj hints hlen hg => by
    obtain ⟨fd, hb, hF⟩ := F w mg fa _ (hY w _ Y) G.T.g hmg
    exact law_callG (hY w _ Y) G.T.g G.T.b G.T.builtins G.T.nolimit hg hobj hints (Nat.le_trans hlen hn2) room (let ⟨mm, h, _⟩ := (G.T.seer hi).mods; ⟨mm, h⟩) hF hb fun H hS => want w H a ns hlen hS
/-- a law whose first statement makes the stream; the rest by data -/
def spLaw (K : PySem.W.Frag) : Sp := fun vs H Q _ => ∃ (a : Addr) (ns : List Int), vs = [.ref a] ∧ SqL K H a (ns.map V.int) ∧ ns.length ≤ 63 ∧ ∀ H', Q (.bl true) H'
/-- the slots at the law's first step: the script is not looked at any more -/
@[simp] def rhoLaw (n i : Nat) : DEnv := (List.replicate n Sl.no).set i (.im (.ob 0))
theorem takes_none {M : Ghost} {X : Cx} {W0 B : Wd M} : TakesD (M := M) ⟨X, W0, xno, B⟩ := fun u s' x => by
  obtain ⟨_, _, _, _, _, _, _, _, _, _, _, _, _, _, _, _, z⟩ := x
  obtain ⟨_, _, _, _, _, _, y⟩ := z
  exact y.elim
theorem passLN {X : Cx} : L2.Passes (L2N.CX X.prog X.w) X E0 := fun pins σ H s e s' I c => by
  obtain ⟨a, B, H', cls, d, _, _, _, _, _, _, _, z⟩ := c
  exact z.elim
end DL
set_option Elab.async false
set_option linter.all false
set_option maxRecDepth 100000
set_option maxHeartbeats 1000000
namespace DL
open PySem L2
/-- a def of the text that keeps a promise by data: called by its name -/
structure FnB (P : Program) (w : World) (K : PySem.W.Frag) (mg : Str → Option Value) (base : Heap) (k : Nat) (x : Str) (ps : List Str) (sp : Sp) : Prop where
  ex : ∃ (f : Addr) (fd : FuncData), FnG P w K mg base k f fd ps sp ∧ mg x = some (.ref f) ∧ PySem.W.keepIn K (.ref f) = true ∧ Binds K fd ps []
section
variable {M : Ghost} {C : Ct M} {W W1 W2 W' : Wd M} {σ : L2.St} {ρ : DEnv} {e : Expr} {es : List Expr} {we : EW M} {pos p : Pos} {wa : AW M}
@[simp] def wCallB (n : Nat) (sp : DSp M) (wa : AW M) (EX : Exn → DEnv → M.G → Prop) : EW M := fun ρ g q => wa ρ g fun ds g' => ds.length = n ∧ sp ds g' q fun x g2 => EX x ρ g2
theorem de_callF {k : Nat} {ps : List Str} {n : Nat} {sp : DSp M} {x : Str} (F : FnB C.X.prog C.X.w C.X.K C.X.mg C.X.base k x ps (liftSp C.X.K C.X.mg n sp)) (hgd : C.X.A.guards = some []) (hr : Room k C.X.A) (tk : TakesD C) (ha : DA C (e :: es) wa)
    (hg : Gl C.X x := by rfl) (hdb : (x == ("__debug__" : Str)) = false := by decide) (he : starEach (e :: es) C.X.env = (false, eval e C.X.env) :: starEach es C.X.env := by rfl) (hpl : (backTo pos (starEach es C.X.env)).any (·.1) = false := by rfl) :
    DE C (.Call (.Name x p) (e :: es) [] pos) (wCallB n sp wa C.EX) := ⟨fun σ ρ W Q q S hQ hw => by
  obtain ⟨f, fd, F, hm, hk, hb⟩ := F.ex
  exact tOf_of (pe_callG (E := fun σ => EXs C σ) F hgd hr hg hm hk hb (fun σ => L2N.passAt tk σ) pa_tOf hdb he hpl) (ha.run σ ρ W _ _ S (fun vs ds W1 g1 k1 r1 q1 =>
    ⟨W1, ds, q, fun x g => C.EX x ρ g, rfl, k1, r1, q1.1, q1.2, fun v d W2 g2 k2 r2 q2 => hQ v d W2 (g1.trans g2) k2 r2 q2, fun cls d H' h => exs_of (S.step g1 k1) (fun _ _ z => z) h⟩) hw)⟩
/-- .. that may be called where an exception is handled -/
structure FnQB (P : Program) (w : World) (K : PySem.W.Frag) (mg : Str → Option Value) (base : Heap) (k : Nat) (x : Str) (ps : List Str) (sp : Around → Sp) : Prop where
  ex : ∃ (f : Addr) (fd : FuncData), FnQ P w K mg base k f fd ps sp ∧ mg x = some (.ref f) ∧ PySem.W.keepIn K (.ref f) = true ∧ Binds K fd ps []
theorem lift_hot {M : Ghost} {K : PySem.W.Frag} {mg : Str → Option Value} {n : Nat} {sp : DSp M} {A : Around} {xs : List V} {H : Hp} {Q : VK} {E : XK} (hd : A.handled = none) (h : liftSp K mg n sp xs H Q E) : liftSpH K mg n sp A xs H Q E := by
  obtain ⟨W, ds, q, ex, h1, h2, h3, h4, h5, h6⟩ := h
  exact ⟨W, ds, q, ex, h1, h2, h3, h4, h5, h6, .inl hd⟩
theorem liftH_len {M : Ghost} {K : PySem.W.Frag} {mg : Str → Option Value} {n : Nat} {sp : DSp M} {A : Around} {xs : List V} {H : Hp} {Q : VK} {E : XK} (h : liftSpH K mg n sp A xs H Q E) : xs.length = n := by
  obtain ⟨W, ds, q, ex, h1, h2, h3, h4, _⟩ := h
  rw [h3.length, h4]
theorem lift_len {M : Ghost} {K : PySem.W.Frag} {mg : Str → Option Value} {n : Nat} {sp : DSp M} {xs : List V} {H : Hp} {Q : VK} {E : XK} (h : liftSp K mg n sp xs H Q E) : xs.length = n := by
  obtain ⟨W, ds, q, ex, h1, h2, h3, h4, _⟩ := h
  rw [h3.length, h4]
theorem FnQB.b {M : Ghost} {P : Program} {w : World} {K : PySem.W.Frag} {mg : Str → Option Value} {base : Heap} {k n : Nat} {x : Str} {ps : List Str} {sp : DSp M} (F : FnQB P w K mg base k x ps (liftSpH K mg n sp)) (hn : n = ps.length := by rfl) : FnB P w K mg base k x ps (liftSp K mg n sp) := by
  subst hn
  obtain ⟨f, fd, F, h⟩ := F.ex
  exact ⟨f, fd, F.g (fun _ _ _ _ => lift_len) (fun _ _ _ _ _ hd => lift_hot hd), h⟩
theorem de_callQ {k : Nat} {ps : List Str} {n : Nat} {sp : DSp M} {x : Str} (F : FnQB C.X.prog C.X.w C.X.K C.X.mg C.X.base k x ps (liftSpH C.X.K C.X.mg n sp)) (hgd : C.X.A.guards = some []) (hr : L2H.RoomH k C.X.A) (tk : TakesD C) (hot : HotF C.X.A C.B.F) (ha : DA C (e :: es) wa)
    (hg : Gl C.X x := by rfl) (hdb : (x == ("__debug__" : Str)) = false := by decide) (he : starEach (e :: es) C.X.env = (false, eval e C.X.env) :: starEach es C.X.env := by rfl) (hpl : (backTo pos (starEach es C.X.env)).any (·.1) = false := by rfl) :
    DE C (.Call (.Name x p) (e :: es) [] pos) (wCallB n sp wa C.EX) := ⟨fun σ ρ W Q q S hQ hw => by
  obtain ⟨f, fd, F, hm, hk, hb⟩ := F.ex
  exact tOf_of (pe_callQ (E := fun σ => EXs C σ) F hgd hr hg hm hk hb (fun σ => L2N.passAt tk σ) pa_tOf hdb he hpl) (ha.run σ ρ W _ _ S (fun vs ds W1 g1 k1 r1 q1 =>
    ⟨W1, ds, q, fun x g => C.EX x ρ g, rfl, k1, r1, q1.1, q1.2, ⟨fun v d W2 g2 k2 r2 q2 => hQ v d W2 (g1.trans g2) k2 r2 q2, fun cls d H' h => exs_of (S.step g1 k1) (fun _ _ z => z) h⟩, hot.mono (S.step g1 k1).gs.sub⟩) hw)⟩
theorem fnQB_of {P : Program} {w : World} {K : PySem.W.Frag} {mg : Str → Option Value} {base : Heap} {x qual : Str} {st : Stmt} {f : Addr} {fd : FuncData} {k : Nat} {ps : List Str} {sp : Around → Sp} (F : Fun K x qual st f fd) (g : mg x = some (.ref f)) (G : FnQ P w K mg base k f fd ps sp) (b : Binds K fd ps []) : FnQB P w K mg base k x ps sp :=
  ⟨f, fd, G, g, F.kp, b⟩
theorem fnB_of {P : Program} {w : World} {K : PySem.W.Frag} {mg : Str → Option Value} {base : Heap} {x qual : Str} {st : Stmt} {f : Addr} {fd : FuncData} {k : Nat} {ps : List Str} {sp : Sp} (F : Fun K x qual st f fd) (g : mg x = some (.ref f)) (G : FnG P w K mg base k f fd ps sp) (b : Binds K fd ps []) : FnB P w K mg base k x ps sp :=
  ⟨f, fd, G, g, F.kp, b⟩

/-- the end of a def over the stream: the bound may be given greater -/
@[simp] def kEndS (q : D → Nat → Prop) : K3 stg := { nx := fun _ (g : Nat) => ∃ n : Nat, g ≤ n ∧ q .non n, rt := fun d (g : Nat) => ∃ n : Nat, g ≤ n ∧ q d n, bk := fun _ _ => False, ct := fun _ _ => False }
theorem fnS_of {P : Program} {w : World} {K : PySem.W.Frag} {mg : Str → Option Value} {base : Heap} {x qual : Str} {st : Stmt} {f : Addr} {fd : FuncData} {N ps : List Str} {k : Nat} {sp : DSp stg} {wb : (Exn → stg.G → Prop) → SW stg} (F : Fun K x qual st f fd) (Sc : FnScope N ps (defScope st))
    (hbody : ∀ (cdv : Value) (A : Around) (outer : List Env) (s : Shared) (H : Hp) (E : XK) (W0 : Wd stg) (EX : Exn → stg.G → Prop), Room k (A.deeper (PyProof.Rows.envOfC qual (defScope st) s.heap.objs.size f cdv)) → A.guards = some [] →
      TakesD (M := stg) ⟨cxOf (L2N.CX P w) P w K mg base N qual (defScope st) f cdv A outer s H E, W0, xk EX, W0⟩ → DSs (M := stg) ⟨cxOf (L2N.CX P w) P w K mg base N qual (defScope st) f cdv A outer s H E, W0, xk EX, W0⟩ (defBody st) (wb EX))
    (hpure : ∀ (ds : List D) (g : Nat) (q : D → Nat → Prop) (ex : Exn → Nat → Prop), ds.length = ps.length → sp ds g q ex → wb ex (kEndS q) (startD N ds) g) :
    FnG P w K mg base (k + 1) f fd ps (liftSp K mg ps.length sp) := by
  refine fng_of F Sc (fun vs H Q E h => ?_) (fun cdv A outer s H vs Q E hr hgd h => ?_)
  · obtain ⟨W, ds, q, ex, _, _, r, hl, _⟩ := h
    rw [r.length, hl]
  · obtain ⟨W, ds, q, ex, rfl, ok, r, hl, hsp, hQ, hE⟩ := h
    have tk : TakesD (M := stg) ⟨cxOf (L2N.CX P w) P w K mg base N qual (defScope st) f cdv A outer s W.H E, W, xk ex, W⟩ := fun u s' x =>
      L2N.takes_of (X := cxOf (L2N.CX P w) P w K mg base N qual (defScope st) f cdv A outer s W.H E) rfl rfl rfl rfl u s' (by
        obtain ⟨a, B, sI, pins, σ, H, cls, d, e, I, nb, up, sky, na, os, ag, x, ρ, W', z1, z2, z3, z4⟩ := x
        exact ⟨a, B, sI, pins, σ, H, cls, d, e, I, nb, up, sky, na, os, ag, hE _ _ _ ⟨x, W', z1, z2.go, z2.ok, z3, z4⟩⟩)
    refine ⟨_, pss_tOf, ?_⟩
    refine (hbody cdv A outer s W.H E W ex hr hgd tk).run _ _ W (kEndS q) _ (sat_start ok rfl rfl r) ⟨fun σ' ρ' W' g S' h => ?_, fun v d W' g k r h => ?_, fun _ _ _ _ _ h => h.elim, fun _ _ _ _ _ h => h.elim⟩ (hpure ds W.g q ex hl hsp)
    · obtain ⟨n, hn, h⟩ := h
      exact hQ .non .non ({ W' with g := n } : Wd stg) (S'.go.trans (go_more (n := n))) (wok_more S'.ok hn) .non h
    · obtain ⟨n, hn, h⟩ := h
      exact hQ v d ({ W' with g := n } : Wd stg) (g.trans (go_more (n := n))) (wok_more k hn) r h
/-- .. called also where an exception is handled -/
theorem fnQS_of {P : Program} {w : World} {K : PySem.W.Frag} {mg : Str → Option Value} {base : Heap} {x qual : Str} {st : Stmt} {f : Addr} {fd : FuncData} {N ps : List Str} {k : Nat} {sp : DSp stg} {wb : (Exn → stg.G → Prop) → SW stg} (F : Fun K x qual st f fd) (Sc : FnScope N ps (defScope st))
    (hbody : ∀ (cdv : Value) (A : Around) (outer : List Env) (s : Shared) (H : Hp) (E : XK) (p : Addr × Obj) (W0 : Wd stg) (EX : Exn → stg.G → Prop), L2H.RoomH k (A.deeper (PyProof.Rows.envOfC qual (defScope st) s.heap.objs.size f cdv)) → A.guards = some [] → HotF A W0.F →
      TakesD (M := stg) ⟨L2H.cxH (L2N.CX P w) P w K mg base N qual (defScope st) f cdv A outer s H E p, W0, xk EX, W0⟩ → DSs (M := stg) ⟨L2H.cxH (L2N.CX P w) P w K mg base N qual (defScope st) f cdv A outer s H E p, W0, xk EX, W0⟩ (defBody st) (wb EX))
    (hpure : ∀ (ds : List D) (g : Nat) (q : D → Nat → Prop) (ex : Exn → Nat → Prop), ds.length = ps.length → sp ds g q ex → wb ex (kEndS q) (startD N ds) g) :
    FnQ P w K mg base (k + 1) f fd ps (liftSpH K mg ps.length sp) := by
  refine fnq_of F Sc (fun A vs H Q E h => liftH_len h) (fun cdv A outer s H vs Q E p hr hgd h => ?_)
  · obtain ⟨W, ds, q, ex, rfl, ok, r, hl, hsp, ⟨hQ, hE⟩, hot⟩ := h
    have tk : TakesD (M := stg) ⟨L2H.cxH (L2N.CX P w) P w K mg base N qual (defScope st) f cdv A outer s W.H E p, W, xk ex, W⟩ := fun u s' x =>
      L2N.takes_of (X := L2H.cxH (L2N.CX P w) P w K mg base N qual (defScope st) f cdv A outer s W.H E p) rfl rfl rfl rfl u s' (by
        obtain ⟨a, B, sI, pins, σ, H, cls, d, e, I, nb, up, sky, na, os, ag, x, ρ, W', z1, z2, z3, z4⟩ := x
        exact ⟨a, B, sI, pins, σ, H, cls, d, e, I, nb, up, sky, na, os, ag, hE _ _ _ ⟨x, W', z1, z2.go, z2.ok, z3, z4⟩⟩)
    refine ⟨_, pss_tOf, ?_⟩
    refine (hbody cdv A outer s W.H E p W ex hr hgd hot tk).run _ _ W (kEndS q) _ (sat_start ok rfl rfl r) ⟨fun σ' ρ' W' g S' h => ?_, fun v d W' g k r h => ?_, fun _ _ _ _ _ h => h.elim, fun _ _ _ _ _ h => h.elim⟩ (hpure ds W.g q ex hl hsp)
    · obtain ⟨n, hn, h⟩ := h
      exact hQ .non .non ({ W' with g := n } : Wd stg) (S'.go.trans (go_more (n := n))) (wok_more S'.ok hn) .non h
    · obtain ⟨n, hn, h⟩ := h
      exact hQ v d ({ W' with g := n } : Wd stg) (g.trans (go_more (n := n))) (wok_more k hn) r h

theorem wk_rng {K : PySem.W.Frag} (lo : Int) (n : Nat) : WK K W (Itr lo n) ((List.range n).map fun (i : Nat) => D.int (lo + i)) where
  go := fun i W1 d g k e => by
    rw [List.getElem?_map] at e
    by_cases hi : i < n
    · rw [List.getElem?_range hi] at e
      cases e
      refine ⟨hi, fun x H' y => ?_⟩
      obtain ⟨rfl, rfl⟩ := y
      exact ⟨W1, rfl, Go.refl _, k, rfl, .int _⟩
    · rw [List.getElem?_eq_none (by simpa using hi)] at e
      cases e
  stop := fun i W1 g k e => by
    have := List.getElem?_eq_none_iff.mp e
    rw [List.length_map, List.length_range] at this
    exact this
def rngL (lo hi : Int) : List D := (List.range (hi - lo).toNat).map fun (i : Nat) => D.int (lo + i)
@[simp] def wRng1 (wa : EW M) : IW M := fun ρ g q => wa ρ g fun d g' => asI d fun j => -(2 ^ 62) ≤ j ∧ j < 2 ^ 62 ∧ q (rngL 0 j) g'
theorem di_range1 {tg a : Expr} {wa : EW M} (hm : C.X.mg "range" = none) (ha : DE C a wa) (hg : Gl C.X "range" := by rfl) (hs : starEach [a] C.X.env = [(false, eval a C.X.env)] := by rfl) (hs2 : starEach [a] C.X.env = (false, eval a C.X.env) :: starEach [] C.X.env := by rfl) :
    DI C tg (.Call (.Name "range" p) [a] [] pos) (wRng1 wa) := ⟨fun σ ρ W R q S hR hw => iOf_of (pi_range1 hg hm (pa_cons pe_tOf pa_nil hs2) hs) (ha.run σ ρ W _ _ S (fun v d W1 g1 k1 r1 q1 => by
  cases d with
  | int j =>
    cases r1
    refine ⟨j, rfl, q1.1, q1.2.1, ?_⟩
    have e : rngL 0 j = (List.range j.toNat).map fun (i : Nat) => D.int (0 + i) := by unfold rngL; rw [Int.sub_zero]
    exact hR _ _ W1 g1 k1 (e ▸ wk_rng 0 j.toNat) q1.2.2
  | _ => exact q1.elim) hw)⟩
/-- a, b = x, y with two plain local names -/
@[simp] def wPar (i j : Nat) (wx wy : VW M) : SW M := fun k ρ g => wx ρ g fun s g1 => wy ρ g1 fun t g2 => k.nx ((ρ.set i s).set j t) g2
theorem ds_par {i j : Nat} {x y : Str} {a b : Expr} {wx wy : VW M} {px py pt : Pos} {kt k2 : Nat} {pt2 : Pos} (hc : C.X.calm = true) (hN : C.X.N.Nodup) (hi : C.X.N[i]? = some x) (hj : C.X.N[j]? = some y) (hij : i ≠ j)
    (hx : C.X.env.scope.names.lookup x = some .local) (hy : C.X.env.scope.names.lookup y = some .local) (ha : DV C a wx) (hb : DV C b wy)
    (hw : swappedStores [.Tuple [.Name x px, .Name y py] kt pt] (.Tuple [a, b] k2 pt2) C.X.env = pure (some [x, y]) := by rfl) (hs : swapsWithSole [.Tuple [.Name x px, .Name y py] kt pt] (.Tuple [a, b] k2 pt2) pos.line C.X.env = pure false := by rfl)
    (h1 : starEach [a, b] C.X.env = (false, eval a C.X.env) :: starEach [b] C.X.env := by rfl) (h2 : starEach [b] C.X.env = (false, eval b C.X.env) :: starEach [] C.X.env := by rfl) :
    DS C (.Assign [.Tuple [.Name x px, .Name y py] kt pt] (.Tuple [a, b] k2 pt2) pos) (wPar i j wx wy) := ⟨fun σ ρ W k E S l h => by
  refine tsOf_of (ps_par hc hN hi hj hij hx hy (pa_cons pe_tOf (pa_cons pe_tOf pa_nil h2) h1) hw hs) ?_
  refine ha.run σ ρ W _ _ S (fun v s W1 g1 k1 f1 q1 => ?_) h
  refine hb.run σ ρ W1 _ _ (S.step g1 k1) (fun u t W2 g2 k2 f2 q2 => ?_) q1
  refine ⟨v, u, rfl, ?_⟩
  have S2 := S.step (g1.trans g2) k2
  have o1 : SlOk C W2 s (some v) := (slOk_fresh S g1 f1).step g2
  have o2 : SlOk C W2 t (some u) := slOk_fresh (S.step g1 k1) g2 f2
  have T1 := S2.puts o1 i fun p w1 e1 m t' w2 _ a1 a2 => own_live S w2 a1 a2 (fresh_dead f1 w1 e1)
  have T2 := T1.puts o2 j fun p w1 e1 m t' w2 _ a1 a2 => by
    have dead := fresh_dead f2 w1 e1
    by_cases hm : i = m
    · subst hm
      have hlt : i < ρ.length := by
        have := (List.getElem?_eq_some_iff.mp a1).1
        rwa [List.length_set] at this
      rw [List.getElem?_set_self hlt] at a1
      rw [List.getElem?_set_self (by rw [S.len]; exact hlt)] at a2
      cases a1
      cases a2
      exact fresh_live f1 w2 rfl dead
    · rw [List.getElem?_set_ne hm] at a1 a2
      exact g1.live _ (own_live S w2 a1 a2) dead
  exact l.nx _ _ W2 (g1.trans g2).s T2 q2⟩
end
end DL
set_option Elab.async false
set_option linter.all false
set_option maxRecDepth 100000
set_option maxHeartbeats 1000000
namespace DL
open PySem
section
variable {prog : Program} {w : World} {A : Around} {E : Value → Shared → Prop} {s : Shared}
def Slot0 (v : Value) : Prop := v = .none ∨ ∃ T : Nat, v = rawInt T
abbrev enObj (s0 : Value) (f : Bool) (it : Addr) (i : Int) (old : Value) : Obj := { cls := .type "enumerate", dict := none, data := .fields #[s0, .bool f, .ref it, rawInt i, .none, old], slots := #[] }
abbrev ziObj (s0 : Value) (f : Bool) (TI TO : Addr) : Obj := { cls := .type "zip", dict := none, data := .fields #[s0, .bool f, .bool false, .ref TI, .ref TO], slots := #[] }
def EnA (h : Heap) (e it : Addr) (i : Int) : Prop := ∃ s0 f old, Slot0 s0 ∧ h.get? e = some (enObj s0 f it i old)
def ZiA (h : Heap) (z TI TO : Addr) : Prop := ∃ s0 f, Slot0 s0 ∧ h.get? z = some (ziObj s0 f TI TO)
theorem alive_any {a : Addr} {Q : Option Obj → Shared → Prop} (h : Q (s.heap.get? a) s) : wpAny (model prog w) A (loadIfAlive a) Q E s := fun _ _ _ => h
theorem free_en {e it : Addr} {s0 old : Value} {f : Bool} {i : Int} {Q : Bool → Shared → Prop} (he : s.heap.get? e = some (enObj s0 f it i old)) (hs : Slot0 s0) (h1 : Q true s)
    (h2 : ∀ h' f', h'.get? e = some (enObj s0 f' it i old) → Heap.SameBut e s.heap h' → Q false { s with heap := h' }) : wpAny (model prog w) A (Builtin.SmallTypes.ownedTupleIsFree (.ref e)) Q E s := by
  unfold Builtin.SmallTypes.ownedTupleIsFree
  refine wpAny_bind (wpAny_field he rfl (x := s0) rfl ?_)
  rcases hs with rfl | ⟨T, rfl⟩
  · exact wpAny_pure h1
  · show wpAny _ _ (loadIfAlive ((T : Int).toNat) >>= _) _ _ _
    rw [Int.toNat_natCast]
    refine wpAny_bind (alive_any ?_)
    cases s.heap.get? T with
    | none => exact wpAny_pure h1
    | some oT =>
      simp only [Option.isNone_some, Bool.false_eq_true, if_false]
      refine wpAny_bind (wpAny_field he rfl (x := .bool f) rfl ?_)
      cases f with
      | true =>
        rw [if_neg (show ¬ ((Value.bool true != Value.bool true) = true) from Bool.false_ne_true)]
        exact wpAny_pure (h2 s.heap true he (Heap.SameBut.refl _ _))
      | false =>
        rw [if_pos (show (Value.bool false != Value.bool true) = true from rfl)]
        exact wpAny_bind (wpAny_setField_rec he (by simp) fun h₁ hz₁ hs₁ => wpAny_pure (h2 h₁ true hz₁ hs₁))
theorem free_zi {z TI TO : Addr} {s0 : Value} {f : Bool} {Q : Bool → Shared → Prop} (he : s.heap.get? z = some (ziObj s0 f TI TO)) (hs : Slot0 s0) (h1 : Q true s)
    (h2 : ∀ h' f', h'.get? z = some (ziObj s0 f' TI TO) → Heap.SameBut z s.heap h' → Q false { s with heap := h' }) : wpAny (model prog w) A (Builtin.SmallTypes.ownedTupleIsFree (.ref z)) Q E s := by
  unfold Builtin.SmallTypes.ownedTupleIsFree
  refine wpAny_bind (wpAny_field he rfl (x := s0) rfl ?_)
  rcases hs with rfl | ⟨T, rfl⟩
  · exact wpAny_pure h1
  · show wpAny _ _ (loadIfAlive ((T : Int).toNat) >>= _) _ _ _
    rw [Int.toNat_natCast]
    refine wpAny_bind (alive_any ?_)
    cases s.heap.get? T with
    | none => exact wpAny_pure h1
    | some oT =>
      simp only [Option.isNone_some, Bool.false_eq_true, if_false]
      refine wpAny_bind (wpAny_field he rfl (x := .bool f) rfl ?_)
      cases f with
      | true =>
        rw [if_neg (show ¬ ((Value.bool true != Value.bool true) = true) from Bool.false_ne_true)]
        exact wpAny_pure (h2 s.heap true he (Heap.SameBut.refl _ _))
      | false =>
        rw [if_pos (show (Value.bool false != Value.bool true) = true from rfl)]
        exact wpAny_bind (wpAny_setField_rec he (by simp) fun h₁ hz₁ hs₁ => wpAny_pure (h2 h₁ true hz₁ hs₁))
/-- what the draws of an iterator are, which may lay new things -/
structure Dr (prog : Program) (w : World) (A : Around) (it : Addr) (fp wr : List Addr) (n : Nat) (P : Nat → Value → Nat → Nat → Heap → Prop) (St : Nat → Heap → Prop) : Prop where
  sub : ∀ b ∈ wr, b ∈ fp
  mem : it ∈ wr
  live : ∀ i h, St i h → ∀ b ∈ wr, ∃ o, h.get? b = some o
  frame : ∀ i h h', St i h → (∀ b ∈ fp, ∀ o, h.get? b = some o → h'.get? b = some o) → St i h'
  grow : ∀ i x N Z h h', P i x N Z h → (∀ b o, N ≤ b → h.get? b = some o → h'.get? b = some o) → P i x N Z h'
  item : ∀ i (s : Shared) (Q : Value → Shared → Prop) (E : Value → Shared → Prop), i < n → St i s.heap →
    (∀ x h' tk, P i x s.heap.objs.size h'.objs.size h' → St (i + 1) h' → s.heap.objs.size ≤ h'.objs.size → (∀ b o, b ∉ wr → s.heap.get? b = some o → h'.get? b = some o) → Q x { s with heap := h', toks := tk }) →
    wpAny (model prog w) A (Builtin.SmallTypes.nextOf (.ref it)) Q E s
  done : ∀ (s : Shared) (Q : Value → Shared → Prop) (E : Value → Shared → Prop), St n s.heap →
    (∀ h' tk e, (∀ b o, b ∉ wr → s.heap.get? b = some o → h'.get? b = some o) → (∃ o, h'.get? e = some o ∧ o.cls = .type "StopIteration") → E (.ref e) { s with heap := h', toks := tk }) →
    wpAny (model prog w) A (Builtin.SmallTypes.nextOf (.ref it)) Q E s
theorem Dr.of {it : Addr} {fp : List Addr} {n : Nat} {P : Nat → Value → Prop} {St : Nat → Heap → Prop} (D : Draws prog w A it fp n P St) (hm : it ∈ fp) : Dr prog w A it fp [it] n (fun i x _ _ _ => P i x) St where
  sub := fun b hb => by rw [List.mem_singleton.mp hb]; exact hm
  mem := List.mem_singleton_self _
  live := fun i h st b hb => by rw [List.mem_singleton.mp hb]; exact D.live i h st
  frame := D.frame
  grow := fun _ _ _ _ _ _ h _ => h
  item := fun i s Q E hi st hQ => D.item i s Q E hi st fun x h' tk p st' sb => hQ x h' tk p st' (by rw [sb.1]; exact Nat.le_refl _) fun b o hb e => sb.extBut b o (fun q => hb (by simp [q])) e
  done := fun s Q E st hE => D.done s Q E st fun h' e k he => hE h' s.toks e (fun b o hb x => k b o (fun q => hb (by simp [q])) x) he

theorem en_item {e it : Addr} {fp wr : List Addr} {n i : Nat} {P : Nat → Value → Nat → Nat → Heap → Prop} {St : Nat → Heap → Prop} {Q : Value → Shared → Prop}
    (D : Dr prog w A it fp wr n P St) (he : EnA s.heap e it (i : Nat)) (hst : St i s.heap) (hlt : i < n) (hef : e ∉ fp)
    (hQ : ∀ x h' tk T t Z, P i x s.heap.objs.size Z h' → s.heap.objs.size ≤ Z → Z ≤ T → T < h'.objs.size → EnA h' e it ((i + 1 : Nat) : Int) → St (i + 1) h' →
      h'.get? T = some { cls := .type "tuple", data := .seq #[.int (i : Nat) t, x] } →
      (∀ b o, b ≠ e → b ∉ wr → s.heap.get? b = some o → h'.get? b = some o) → Q (.ref T) { s with heap := h', toks := tk }) :
    wpAny (model prog w) A (Builtin.«enumerate.__next__» ⟨[.ref e], []⟩) (fun fin s' => ∃ v, fin = .done (.ret v) ∧ Q v s') E s := by
  have hew : e ∉ wr := fun q => hef (D.sub e q)
  obtain ⟨s0, f, old, hs0, he⟩ := he
  obtain ⟨hp, g, d, tk₀, os⟩ := s
  show wpAny _ _ (field (.ref e) 2 >>= _) _ _ _
  refine wpAny_bind (wpAny_field he rfl (x := .ref it) rfl ?_)
  refine wpAny_bind (D.item i _ _ _ hlt hst fun x h₁ tk hPx hit₁ hle₁ hk₁ => ?_)
  replace hk₁ : ∀ b o, b ∉ wr → hp.get? b = some o → h₁.get? b = some o := hk₁
  replace hle₁ : hp.objs.size ≤ h₁.objs.size := hle₁
  have he₁ : h₁.get? e = some (enObj s0 f it i old) := hk₁ e _ hew he
  show wpAny _ _ (field (.ref e) 3 >>= _) _ _ ⟨h₁, g, d, tk, os⟩
  refine wpAny_bind (wpAny_field he₁ rfl (x := rawInt i) rfl ?_)
  show wpAny _ _ (field (.ref e) 4 >>= _) _ _ ⟨h₁, g, d, tk, os⟩
  refine wpAny_bind (wpAny_field he₁ rfl (x := .none) rfl ?_)
  show wpAny _ _ (mkInt i >>= _) _ _ ⟨h₁, g, d, tk, os⟩
  refine wpAny_bind (wpAny_mkInt ?_)
  show wpAny _ _ (setField (.ref e) 3 (rawInt ((i : Int) + 1)) >>= _) _ _ ⟨h₁, g, d, tk + 1, os⟩
  refine wpAny_bind (wpAny_setField_rec he₁ (by simp) fun h₂ he₂ hs₂ => ?_)
  replace hs₂ : Heap.SameBut e h₁ h₂ := hs₂
  replace he₂ : h₂.get? e = some (enObj s0 f it ((i : Int) + 1) old) := he₂
  show wpAny _ _ (setField (.ref e) 4 .none >>= _) _ _ ⟨h₂, g, d, tk + 1, os⟩
  refine wpAny_bind (wpAny_setField_rec he₂ (by simp) fun h₃ he₃ hs₃ => ?_)
  replace hs₃ : Heap.SameBut e h₂ h₃ := hs₃
  replace he₃ : h₃.get? e = some (enObj s0 f it ((i : Int) + 1) old) := he₃
  show wpAny _ _ (newTuple [.int i tk, x] >>= _) _ _ ⟨h₃, g, d, tk + 1, os⟩
  refine wpAny_bind (wpAny_newTuple ?_)
  have he₄ : (h₃.push { cls := .type "tuple", data := .seq #[.int i tk, x] }).get? e = some (enObj s0 f it ((i : Int) + 1) old) := Heap.get?_push_of_some _ he₃
  have hsz : h₃.objs.size = h₁.objs.size := by rw [hs₃.1, hs₂.1]
  have hel : e < h₁.objs.size := Heap.lt_size he₁
  have help : e < hp.objs.size := Heap.lt_size he
  have e1 : ((i + 1 : Nat) : Int) = (i : Int) + 1 := by omega
  generalize hh₄ : h₃.push { cls := .type "tuple", data := .seq #[.int i tk, x] } = h₄ at he₄
  have ht₄ : h₄.get? h₁.objs.size = some { cls := .type "tuple", data := .seq #[.int i tk, x] } := by rw [← hh₄, ← hsz]; exact Heap.get?_push_size _ rfl
  have hz₄ : h₄.objs.size = h₁.objs.size + 1 := by rw [← hh₄, Heap.size_push, hsz]
  have hk₄ : ∀ b o, b ≠ e → h₁.get? b = some o → h₄.get? b = some o := fun b o hbe hb => by
    rw [← hh₄]; exact Heap.get?_push_of_some _ (hs₃.extBut b o hbe (hs₂.extBut b o hbe hb))
  have fin : ∀ h₅ (tk5 : Nat), EnA h₅ e it ((i : Int) + 1) → h₅.objs.size = h₄.objs.size → (∀ b o, b ≠ e → h₄.get? b = some o → h₅.get? b = some o) → Q (.ref h₁.objs.size) ⟨h₅, g, d, tk5, os⟩ := fun h₅ tk5 en z5 k5 => by
    refine hQ x h₅ tk5 h₁.objs.size tk h₁.objs.size ?_ hle₁ (Nat.le_refl _) (by rw [z5, hz₄]; exact Nat.lt_succ_self _) (by rw [e1]; exact en) ?_ (k5 _ _ (Nat.ne_of_gt hel) ht₄) ?_
    · exact D.grow _ _ _ _ _ _ hPx fun b o hb q => k5 b o (fun z => absurd (z ▸ hb) (Nat.not_le_of_lt help)) (hk₄ b o (fun z => absurd (z ▸ hb) (Nat.not_le_of_lt help)) q)
    · exact D.frame _ _ _ hit₁ fun b hb o y => k5 b o (fun q => hef (q ▸ hb)) (hk₄ b o (fun q => hef (q ▸ hb)) y)
    · exact fun b o hbe hbw y => k5 b o hbe (hk₄ b o hbe (hk₁ b o hbw y))
  show wpAny _ _ (Builtin.SmallTypes.ownedTupleIsFree (.ref e) >>= _) _ _ ⟨h₄, g, d, tk + 1, os⟩
  rw [hsz]
  refine wpAny_bind (free_en (s := ⟨h₄, g, d, tk + 1, os⟩) he₄ hs0 ?_ fun h₅ f' he₅ hs₅ => ?_)
  · simp only [if_true]
    refine wpAny_bind (wpAny_rule ?_)
    refine wpAny_bind (wpAny_field he₄ rfl (x := old) rfl ?_)
    refine wpAny_bind (wpAny_setField_rec he₄ (by simp) fun h₅ he₅ hs₅ => ?_)
    replace hs₅ : Heap.SameBut e h₄ h₅ := hs₅
    replace he₅ : h₅.get? e = some (enObj s0 f it ((i : Int) + 1) x) := he₅
    show wpAny _ _ (Builtin.SmallTypes.ownedTupleHandOut (.ref e) (.ref h₁.objs.size) >>= _) _ _ ⟨h₅, g, d, tk + 1, os⟩
    refine wpAny_bind ?_
    unfold Builtin.SmallTypes.ownedTupleHandOut
    refine wpAny_bind (wpAny_setField_rec he₅ (by simp) fun h₆ he₆ hs₆ => ?_)
    replace hs₆ : Heap.SameBut e h₅ h₆ := hs₆
    replace he₆ : h₆.get? e = some (enObj (rawInt h₁.objs.size) f it ((i : Int) + 1) x) := he₆
    refine wpAny_setField_rec he₆ (by simp) fun h₇ he₇ hs₇ => ?_
    replace hs₇ : Heap.SameBut e h₆ h₇ := hs₇
    replace he₇ : h₇.get? e = some (enObj (rawInt h₁.objs.size) false it ((i : Int) + 1) x) := he₇
    refine wpAny_bind (wpAny_letGo (wpAny_pure ⟨_, rfl, fin h₇ (tk + 1) ⟨_, _, _, .inr ⟨_, rfl⟩, he₇⟩ (by rw [hs₇.1, hs₆.1, hs₅.1]) fun b o hbe hb => hs₇.extBut b o hbe (hs₆.extBut b o hbe (hs₅.extBut b o hbe hb))⟩))
  · simp only [Bool.false_eq_true, if_false]
    exact wpAny_pure ⟨_, rfl, fin h₅ (tk + 1) ⟨_, _, _, hs0, he₅⟩ hs₅.1 fun b o hbe hb => hs₅.extBut b o hbe hb⟩
theorem en_pyNext_item {e it : Addr} {fp wr : List Addr} {n i : Nat} {P : Nat → Value → Nat → Nat → Heap → Prop} {St : Nat → Heap → Prop} {Q : Option Value → Shared → Prop}
    (D : Dr prog w A.in1 it fp wr n P St) (he : EnA s.heap e it (i : Nat)) (hst : St i s.heap) (hlt : i < n) (hef : e ∉ fp)
    (hQ : ∀ x h' tk T t Z, P i x s.heap.objs.size Z h' → s.heap.objs.size ≤ Z → Z ≤ T → T < h'.objs.size → EnA h' e it ((i + 1 : Nat) : Int) → St (i + 1) h' →
      h'.get? T = some { cls := .type "tuple", data := .seq #[.int (i : Nat) t, x] } →
      (∀ b o, b ≠ e → b ∉ wr → s.heap.get? b = some o → h'.get? b = some o) → Q (some (.ref T)) { s with heap := h', toks := tk }) :
    wpAny (model prog w) A (pyNext (.ref e)) Q E s := by
  have hT : s.TypeIs (.ref e) "enumerate" := by obtain ⟨_, _, _, _, q⟩ := he; exact ⟨_, q, rfl⟩
  unfold pyNext
  exact wpAny_bind (wpAny_attempt (wpAny_callSpecial?_slot (name := Str.ofString "__next__") hT F.slot_enumerate_next
    (wpAny_call_entry F.slot_enumerate_next hT F.entry_enumerate_next
      (en_item D he hst hlt hef fun x h' tk T t Z a1 a2 a3 a4 a5 a6 a7 a8 => wpAny_pure (hQ x h' tk T t Z a1 a2 a3 a4 a5 a6 a7 a8)) (F.args_enumerate_next_1 _))))
theorem en_pyNext_end {e it : Addr} {fp wr : List Addr} {n : Nat} {P : Nat → Value → Nat → Nat → Heap → Prop} {St : Nat → Heap → Prop} {i : Int} {Q : Option Value → Shared → Prop}
    (D : Dr prog w A.in1 it fp wr n P St) (he : EnA s.heap e it i) (hst : St n s.heap)
    (hQ : ∀ h' tk, (∀ b o, b ∉ wr → s.heap.get? b = some o → h'.get? b = some o) → Q none { s with heap := h', toks := tk }) : wpAny (model prog w) A (pyNext (.ref e)) Q E s := by
  obtain ⟨s0, f, old, hs0, he⟩ := he
  have hT : s.TypeIs (.ref e) "enumerate" := ⟨_, he, rfl⟩
  unfold pyNext
  refine wpAny_bind (wpAny_attempt (wpAny_callSpecial?_slot (name := Str.ofString "__next__") hT F.slot_enumerate_next
    (wpAny_call_entry F.slot_enumerate_next hT F.entry_enumerate_next ?_ (F.args_enumerate_next_1 _))))
  show wpAny _ _ (field (.ref e) 2 >>= _) _ _ _
  refine wpAny_bind (wpAny_field he rfl (x := .ref it) rfl ?_)
  refine wpAny_bind (D.done _ _ _ hst fun h' tk x he' hx' => ?_)
  obtain ⟨o, ho, hc⟩ := hx'
  refine wpAny_bind (wpAny_isInstance (T := "StopIteration") (b := true) ⟨o, ho, hc⟩ isSubtype_stop ?_)
  exact wpAny_pure (hQ _ _ he')
theorem en_go {tg : Expr} {e it : Addr} {u : Value} {i : Int} {Q : Unit → Shared → Prop} (he : EnA s.heap e it i)
    (hQ : ∀ h', EnA h' e it i → Heap.SameBut e s.heap h' → Q () { s with heap := h' }) : wpAny (model prog w) A (letOwnedTupleGo tg (.ref e) u) Q E s := by
  have hk : Q () s := hQ s.heap he (Heap.SameBut.refl _ _)
  obtain ⟨s0, f, old, hs0, he⟩ := he
  have go : ∀ a : Addr, wpAny (model prog w) A (do
      let o ← load e
      match o.cls, o.data with
      | .type n, .fields vs =>
        if ["enumerate", "zip", "dict_itemiterator", "dict_reverseitemiterator", "odict_iterator", "itertools.zip_longest", "itertools.pairwise"].contains n && vs[0]? == some (rawInt a) then
          rule "for.unpacks-the-owned-tuple"
          updateField e 0 .none
      | _, _ => pure ()) Q E s := by
    intro a
    refine wpAny_bind (wpAny_load he ?_)
    show wpAny _ A (if (_ && (some s0 == some (rawInt a))) = true then _ else _) Q E s
    split
    · refine wpAny_bind (wpAny_rule ?_)
      show wpAny _ A (setField (.ref e) 0 .none) Q E s
      exact wpAny_setField_rec he (by simp) fun h' he' hs' => hQ h' ⟨_, _, _, .inl rfl, he'⟩ hs'
    · exact wpAny_pure hk
  unfold letOwnedTupleGo
  cases tg <;> first | exact wpAny_pure hk | (cases u <;> first | exact wpAny_pure hk | exact go _)
end
section
variable {prog : Program} {w : World} {A : Around} {E : Value → Shared → Prop} {s : Shared} {z TI TO i1 i2 : Addr} {fp1 fp2 : List Addr} {n1 n2 i : Nat} {P1 P2 : Nat → Value → Prop} {St1 St2 : Nat → Heap → Prop} {a1 a2 : Value}
def OutZ (h : Heap) (TO : Addr) : Prop := ∃ a1 a2, IsTupOf2 h TO a1 a2
theorem zi_item {Q : Value → Shared → Prop} (S : ZipSep2 z TI TO i1 i2 fp1 fp2) (D1 : Draws prog w A i1 fp1 n1 P1 St1) (D2 : Draws prog w A i2 fp2 n2 P2 St2)
    (hz : ZiA s.heap z TI TO) (hTI : IsTupOf2 s.heap TI (.ref i1) (.ref i2)) (hTO : OutZ s.heap TO) (st1 : St1 i s.heap) (st2 : St2 i s.heap) (hlt1 : i < n1) (hlt2 : i < n2)
    (hQ : ∀ x1 x2 h' tk, P1 i x1 → P2 i x2 → ZiA h' z TI TO → OutZ h' TO → St1 (i + 1) h' → St2 (i + 1) h' → IsTupOf2 h' s.heap.objs.size x1 x2 → h'.objs.size = s.heap.objs.size + 1 →
      (∀ c o, c ≠ z → c ≠ TO → c ≠ i1 → c ≠ i2 → s.heap.get? c = some o → h'.get? c = some o) → Q (.ref s.heap.objs.size) { s with heap := h', toks := tk }) :
    wpAny (model prog w) A (Builtin.«zip.__next__» ⟨[.ref z], []⟩) (fun fin s' => ∃ v, fin = .done (.ret v) ∧ Q v s') E s := by
  obtain ⟨s0, f, hs0, hz⟩ := hz
  obtain ⟨a1, a2, hTO⟩ := hTO
  obtain ⟨hp, g, d, tk0, os⟩ := s
  show wpAny _ _ (field (.ref z) 2 >>= _) _ _ _
  refine wpAny_bind (wpAny_field hz rfl (x := .bool false) rfl ?_)
  show wpAny _ _ (field (.ref z) 3 >>= _) _ _ _
  refine wpAny_bind (wpAny_field hz rfl (x := .ref TI) rfl ?_)
  refine wpAny_bind (wpAny_seqItems hTI rfl ?_)
  show wpAny _ _ (Builtin.SmallTypes.ownedTupleIsFree (.ref z) >>= _) _ _ _
  refine wpAny_bind (free_zi (s := ⟨hp, g, d, tk0, os⟩) hz hs0 ?_ fun g0 f' hz0 hs0' => ?_)
  · simp only [if_true]
    refine wpAny_bind (wpAny_rule ?_)
    refine wpAny_bind (wpAny_field hz rfl (x := .ref TO) rfl ?_)
    refine wpAny_bind (wpAny_setField_rec hz (by simp) fun g0 hz0 hs0 => ?_)
    replace hz0 : g0.get? z = some (ziObj .ellipsis f TI TO) := hz0
    replace hs0 : Heap.SameBut z hp g0 := hs0
    refine wpAny_bind ?_
    simp only [List.zipIdx_cons, List.zipIdx_nil, List.forIn_cons, List.forIn_nil]
    refine wpAny_bind (wpAny_bind (wpAny_onRaise ?_))
    show wpAny _ _ (Builtin.SmallTypes.nextOf (.ref i1) >>= _) _ _ ⟨g0, g, d, tk0, os⟩
    refine wpAny_bind (D1.item i _ _ _ hlt1 (D1.over st1 hs0 S.zf1) fun x1 p1 tk1 hx1 sn1 hp1 => wpAny_pure ?_)
    replace hp1 : Heap.SameBut i1 g0 p1 := hp1
    have hU1 : IsTupOf2 p1 TO a1 a2 := hp1.extBut _ _ S.Ti1 (hs0.extBut _ _ S.TOz hTO)
    refine wpAny_bind (wpAny_seqItems (s := ⟨p1, g, d, tk1, os⟩) hU1 rfl ?_)
    refine wpAny_bind (updateSeq_IsTupOf2 (s := ⟨p1, g, d, tk1, os⟩) hU1 fun g1 hT1 hs1 => ?_)
    replace hT1 : IsTupOf2 g1 TO x1 a2 := hT1
    replace hs1 : Heap.SameBut TO p1 g1 := hs1
    refine wpAny_bind (wpAny_letGo (wpAny_pure ?_))
    refine wpAny_bind (wpAny_bind (wpAny_onRaise ?_))
    show wpAny _ _ (Builtin.SmallTypes.nextOf (.ref i2) >>= _) _ _ ⟨g1, g, d, tk1, os⟩
    refine wpAny_bind (D2.item i _ _ _ hlt2 (D2.over (D2.over (D2.over st2 hs0 S.zf2) hp1 S.sep1_2) hs1 S.Tf2) fun x2 p2 tk2 hx2 sn2 hp2 => wpAny_pure ?_)
    replace hp2 : Heap.SameBut i2 g1 p2 := hp2
    have hU2 : IsTupOf2 p2 TO x1 a2 := hp2.extBut _ _ S.Ti2 hT1
    refine wpAny_bind (wpAny_seqItems (s := ⟨p2, g, d, tk2, os⟩) hU2 rfl ?_)
    refine wpAny_bind (updateSeq_IsTupOf2 (s := ⟨p2, g, d, tk2, os⟩) hU2 fun g2 hT2 hs2 => ?_)
    replace hT2 : IsTupOf2 g2 TO x1 x2 := hT2
    replace hs2 : Heap.SameBut TO p2 g2 := hs2
    refine wpAny_bind (wpAny_letGo (wpAny_pure (wpAny_pure ?_)))
    refine wpAny_bind (wpAny_seqItems (s := ⟨g2, g, d, tk2, os⟩) hT2 rfl ?_)
    refine wpAny_bind (wpAny_newTuple ?_)
    have hsz : g2.objs.size = hp.objs.size := by rw [hs2.1, hp2.1, hs1.1, hp1.1, hs0.1]
    have hzz : g2.get? z = some (ziObj .ellipsis f TI TO) := (hs2.extBut _ _ S.TOz.symm (hp2.extBut _ _ S.zi2 (hs1.extBut _ _ S.TOz.symm (hp1.extBut _ _ S.zi1 hz0))))
    have hkk : ∀ c o, c ≠ z → c ≠ TO → c ≠ i1 → c ≠ i2 → hp.get? c = some o → g2.get? c = some o := fun c o cz cT c1 c2 e =>
      (hs2.extBut _ _ cT (hp2.extBut _ _ c2 (hs1.extBut _ _ cT (hp1.extBut _ _ c1 (hs0.extBut _ _ cz e)))))
    have hj1 : St1 (i + 1) g2 := (D1.over (D1.over (D1.over sn1 hs1 S.Tf1) hp2 S.sep2_1) hs2 S.Tf1)
    have hj2 : St2 (i + 1) g2 := (D2.over sn2 hs2 S.Tf2)
    have hzlt : z < g2.objs.size := Heap.lt_size hzz
    show wpAny _ _ (Builtin.SmallTypes.ownedTupleHandOut (.ref z) (.ref g2.objs.size) >>= _) _ _ ⟨g2.push { cls := .type "tuple", data := .seq #[x1, x2] }, g, d, tk2, os⟩
    refine wpAny_bind ?_
    unfold Builtin.SmallTypes.ownedTupleHandOut
    have hz₆ : (g2.push { cls := .type "tuple", data := .seq #[x1, x2] }).get? z = some (ziObj .ellipsis f TI TO) := Heap.get?_push_of_some _ hzz
    refine wpAny_bind (wpAny_setField_rec hz₆ (by simp) fun h₇ hz₇ hs₇ => ?_)
    replace hz₇ : h₇.get? z = some (ziObj (rawInt g2.objs.size) f TI TO) := hz₇
    refine wpAny_setField_rec hz₇ (by simp) fun h₈ hz₈ hs₈ => ?_
    replace hz₈ : h₈.get? z = some (ziObj (rawInt g2.objs.size) false TI TO) := hz₈
    replace hs₇ : Heap.SameBut z (g2.push { cls := .type "tuple", data := .seq #[x1, x2] }) h₇ := hs₇
    replace hs₈ : Heap.SameBut z h₇ h₈ := hs₈
    have up : ∀ c o, c ≠ z → g2.get? c = some o → h₈.get? c = some o := fun c o c1 e => hs₈.extBut _ _ c1 (hs₇.extBut _ _ c1 (Heap.get?_push_of_some _ e))
    have hT₈ : IsTupOf2 h₈ g2.objs.size x1 x2 := hs₈.extBut _ _ (Nat.ne_of_gt hzlt) (hs₇.extBut _ _ (Nat.ne_of_gt hzlt) (Heap.get?_push_size _ rfl))
    have hz8 : h₈.objs.size = g2.objs.size + 1 := by rw [hs₈.1, hs₇.1, Heap.size_push]
    rw [hsz] at hz₈ hT₈ hz8
    refine wpAny_pure ⟨_, rfl, ?_⟩
    show Q (.ref g2.objs.size) ⟨h₈, g, d, tk2, os⟩
    rw [hsz]
    exact hQ x1 x2 h₈ tk2 hx1 hx2 ⟨_, _, .inr ⟨_, rfl⟩, hz₈⟩ ⟨_, _, up _ _ S.TOz hT2⟩ (D1.frame _ _ _ hj1 fun b hb o e => up b o (fun q => S.zf1 (q ▸ hb)) e) (D2.frame _ _ _ hj2 fun b hb o e => up b o (fun q => S.zf2 (q ▸ hb)) e) hT₈ hz8 fun c o cz cT c1 c2 e => up c o cz (hkk c o cz cT c1 c2 e)
  · replace hs0' : Heap.SameBut z hp g0 := hs0'
    simp only [Bool.false_eq_true, if_false]
    refine wpAny_bind ?_
    rw [← Array.forIn_toList]
    simp only [List.forIn_cons, List.forIn_nil]
    refine wpAny_bind (wpAny_bind (wpAny_holding ?_))
    show wpAny _ _ (Builtin.SmallTypes.nextOf (.ref i1) >>= _) _ _ ⟨g0, g, d, tk0, os⟩
    refine wpAny_bind (D1.item i _ _ _ hlt1 (D1.over st1 hs0' S.zf1) fun x1 p1 tk1 hx1 sn1 hp1 => wpAny_pure ?_)
    replace hp1 : Heap.SameBut i1 g0 p1 := hp1
    refine wpAny_pure ?_
    refine wpAny_bind (wpAny_bind (wpAny_holding ?_))
    show wpAny _ _ (Builtin.SmallTypes.nextOf (.ref i2) >>= _) _ _ ⟨p1, g, d, tk1, os⟩
    refine wpAny_bind (D2.item i _ _ _ hlt2 (D2.over (D2.over st2 hs0' S.zf2) hp1 S.sep1_2) fun x2 p2 tk2 hx2 sn2 hp2 => wpAny_pure ?_)
    replace hp2 : Heap.SameBut i2 p1 p2 := hp2
    refine wpAny_pure (wpAny_pure ?_)
    show wpAny _ _ (newTuple [x1, x2] >>= _) _ _ ⟨p2, g, d, tk2, os⟩
    refine wpAny_bind (wpAny_newTuple ?_)
    have hsz : p2.objs.size = hp.objs.size := by rw [hp2.1, hp1.1, hs0'.1]
    have hz₃ : p2.get? z = some (ziObj s0 f' TI TO) := hp2.extBut _ _ S.zi2 (hp1.extBut _ _ S.zi1 hz0)
    have hk : ∀ c o, c ≠ z → c ≠ i1 → c ≠ i2 → hp.get? c = some o → p2.get? c = some o := fun c o c1 c2 c3 e => hp2.extBut _ _ c3 (hp1.extBut _ _ c2 (hs0'.extBut _ _ c1 e))
    have hj1 : St1 (i + 1) p2 := D1.over sn1 hp2 S.sep2_1
    refine wpAny_pure ⟨_, rfl, ?_⟩
    show Q (.ref p2.objs.size) ⟨p2.push { cls := .type "tuple", data := .seq #[x1, x2] }, g, d, tk2, os⟩
    have hpr : IsTupOf2 (p2.push { cls := .type "tuple", data := .seq #[x1, x2] }) p2.objs.size x1 x2 := Heap.get?_push_size _ rfl
    have hz4 : (p2.push { cls := .type "tuple", data := .seq #[x1, x2] }).objs.size = p2.objs.size + 1 := Heap.size_push ..
    rw [hsz] at hpr hz4 ⊢
    exact hQ x1 x2 _ tk2 hx1 hx2 ⟨_, _, hs0, Heap.get?_push_of_some _ hz₃⟩ ⟨_, _, Heap.get?_push_of_some _ (hk _ _ S.TOz S.Ti1 S.Ti2 hTO)⟩ (D1.frame _ _ _ hj1 fun b hb o e => Heap.get?_push_of_some _ e) (D2.frame _ _ _ sn2 fun b hb o e => Heap.get?_push_of_some _ e) hpr hz4
      fun c o c1 _ c2 c3 e => Heap.get?_push_of_some _ (hk c o c1 c2 c3 e)
theorem zi_end {Q : Fin → Shared → Prop} (S : ZipSep2 z TI TO i1 i2 fp1 fp2) (D1 : Draws prog w A i1 fp1 n1 P1 St1) (D2 : Draws prog w A i2 fp2 n2 P2 St2)
    (hz : ZiA s.heap z TI TO) (hTI : IsTupOf2 s.heap TI (.ref i1) (.ref i2)) (hTO : OutZ s.heap TO) (st1 : St1 i s.heap) (st2 : St2 i s.heap) (hle1 : i ≤ n1) (hle2 : i ≤ n2) (hend : i = n1 ∨ i = n2)
    (hE : ∀ h' tk e, (∀ c o, c ≠ z → c ≠ TO → c ≠ i1 → c ≠ i2 → s.heap.get? c = some o → h'.get? c = some o) → (∃ o, h'.get? e = some o ∧ o.cls = .type "StopIteration") → E (.ref e) { s with heap := h', toks := tk }) :
    wpAny (model prog w) A (Builtin.«zip.__next__» ⟨[.ref z], []⟩) Q E s := by
  obtain ⟨s0, f, hs0, hz⟩ := hz
  obtain ⟨a1, a2, hTO⟩ := hTO
  obtain ⟨hp, g, d, tk0, os⟩ := s
  show wpAny _ _ (field (.ref z) 2 >>= _) _ _ _
  refine wpAny_bind (wpAny_field hz rfl (x := .bool false) rfl ?_)
  show wpAny _ _ (field (.ref z) 3 >>= _) _ _ _
  refine wpAny_bind (wpAny_field hz rfl (x := .ref TI) rfl ?_)
  refine wpAny_bind (wpAny_seqItems hTI rfl ?_)
  show wpAny _ _ (Builtin.SmallTypes.ownedTupleIsFree (.ref z) >>= _) _ _ _
  refine wpAny_bind (free_zi (s := ⟨hp, g, d, tk0, os⟩) hz hs0 ?_ fun g0 f' hz0 hs0' => ?_)
  · simp only [if_true]
    refine wpAny_bind (wpAny_rule ?_)
    refine wpAny_bind (wpAny_field hz rfl (x := .ref TO) rfl ?_)
    refine wpAny_bind (wpAny_setField_rec hz (by simp) fun g0 hz0 hs0 => ?_)
    replace hz0 : g0.get? z = some (ziObj .ellipsis f TI TO) := hz0
    replace hs0 : Heap.SameBut z hp g0 := hs0
    refine wpAny_bind ?_
    simp only [List.zipIdx_cons, List.zipIdx_nil, List.forIn_cons, List.forIn_nil]
    refine wpAny_bind (wpAny_bind (wpAny_onRaise ?_))
    show wpAny _ _ (Builtin.SmallTypes.nextOf (.ref i1) >>= _) _ _ ⟨g0, g, d, tk0, os⟩
    by_cases hlt1 : i < n1
    · refine wpAny_bind (D1.item i _ _ _ hlt1 (D1.over st1 hs0 S.zf1) fun x1 p1 tk1 hx1 sn1 hp1 => wpAny_pure ?_)
      replace hp1 : Heap.SameBut i1 g0 p1 := hp1
      have hU1 : IsTupOf2 p1 TO a1 a2 := hp1.extBut _ _ S.Ti1 (hs0.extBut _ _ S.TOz hTO)
      refine wpAny_bind (wpAny_seqItems (s := ⟨p1, g, d, tk1, os⟩) hU1 rfl ?_)
      refine wpAny_bind (updateSeq_IsTupOf2 (s := ⟨p1, g, d, tk1, os⟩) hU1 fun g1 hT1 hs1 => ?_)
      replace hT1 : IsTupOf2 g1 TO x1 a2 := hT1
      replace hs1 : Heap.SameBut TO p1 g1 := hs1
      refine wpAny_bind (wpAny_letGo (wpAny_pure ?_))
      have hi2 : i = n2 := by omega
      refine wpAny_bind (wpAny_bind (wpAny_onRaise ?_))
      show wpAny _ _ (Builtin.SmallTypes.nextOf (.ref i2) >>= _) _ _ ⟨g1, g, d, tk1, os⟩
      refine wpAny_bind (D2.done ⟨g1, g, d, tk1, os⟩ _ _ (by rw [← hi2]; exact (D2.over (D2.over (D2.over st2 hs0 S.zf2) hp1 S.sep1_2) hs1 S.Tf2)) fun q e hq he => ?_)
      replace hq : Heap.ExtBut i2 g1 q := hq
      obtain ⟨oe, hoe, hce⟩ := he
      replace hoe : q.get? e = some oe := hoe
      have hzq : q.get? z = some (ziObj .ellipsis f TI TO) := hq _ _ S.zi2 (hs1.extBut _ _ S.TOz.symm (hp1.extBut _ _ S.zi1 hz0))
      have hez : e ≠ z := fun x => by subst x; rw [hzq] at hoe; cases hoe; simp at hce
      refine wpAny_setField_rec (s := ⟨q, g, d, tk1, os⟩) hzq (by simp) fun q' _ hq' => ?_
      replace hq' : Heap.SameBut z q q' := hq'
      exact hE q' tk1 e (fun c o cz cT c1 c2 x => hq'.extBut _ _ cz (hq _ _ c2 (hs1.extBut _ _ cT (hp1.extBut _ _ c1 (hs0.extBut _ _ cz x))))) ⟨oe, hq'.extBut _ _ hez hoe, hce⟩
    · have hi1 : i = n1 := by omega
      refine wpAny_bind (D1.done ⟨g0, g, d, tk0, os⟩ _ _ (by rw [← hi1]; exact (D1.over st1 hs0 S.zf1)) fun q e hq he => ?_)
      replace hq : Heap.ExtBut i1 g0 q := hq
      obtain ⟨oe, hoe, hce⟩ := he
      replace hoe : q.get? e = some oe := hoe
      have hzq : q.get? z = some (ziObj .ellipsis f TI TO) := hq _ _ S.zi1 hz0
      have hez : e ≠ z := fun x => by subst x; rw [hzq] at hoe; cases hoe; simp at hce
      refine wpAny_setField_rec (s := ⟨q, g, d, tk0, os⟩) hzq (by simp) fun q' _ hq' => ?_
      replace hq' : Heap.SameBut z q q' := hq'
      exact hE q' tk0 e (fun c o cz cT c1 c2 x => hq'.extBut _ _ cz (hq _ _ c1 (hs0.extBut _ _ cz x))) ⟨oe, hq'.extBut _ _ hez hoe, hce⟩
  · replace hs0' : Heap.SameBut z hp g0 := hs0'
    simp only [Bool.false_eq_true, if_false]
    refine wpAny_bind ?_
    rw [← Array.forIn_toList]
    simp only [List.forIn_cons, List.forIn_nil]
    refine wpAny_bind (wpAny_bind (wpAny_holding ?_))
    show wpAny _ _ (Builtin.SmallTypes.nextOf (.ref i1) >>= _) _ _ ⟨g0, g, d, tk0, os⟩
    by_cases hlt1 : i < n1
    · refine wpAny_bind (D1.item i _ _ _ hlt1 (D1.over st1 hs0' S.zf1) fun x1 p1 tk1 hx1 sn1 hp1 => wpAny_pure ?_)
      replace hp1 : Heap.SameBut i1 g0 p1 := hp1
      refine wpAny_pure ?_
      have hi2 : i = n2 := by omega
      refine wpAny_bind (wpAny_bind (wpAny_holding ?_))
      show wpAny _ _ (Builtin.SmallTypes.nextOf (.ref i2) >>= _) _ _ ⟨p1, g, d, tk1, os⟩
      refine wpAny_bind (D2.done ⟨p1, g, d, tk1, os⟩ _ _ (by rw [← hi2]; exact D2.over (D2.over st2 hs0' S.zf2) hp1 S.sep1_2) fun q e hq he => ?_)
      replace hq : Heap.ExtBut i2 p1 q := hq
      exact hE q tk1 e (fun c o c1 _ c2 c3 x => hq _ _ c3 (hp1.extBut _ _ c2 (hs0'.extBut _ _ c1 x))) he
    · have hi1 : i = n1 := by omega
      refine wpAny_bind (D1.done ⟨g0, g, d, tk0, os⟩ _ _ (by rw [← hi1]; exact D1.over st1 hs0' S.zf1) fun q e hq he => ?_)
      replace hq : Heap.ExtBut i1 g0 q := hq
      exact hE q tk0 e (fun c o c1 _ c2 _ x => hq _ _ c2 (hs0'.extBut _ _ c1 x)) he
theorem zi_pyNext_item {Q : Option Value → Shared → Prop} (S : ZipSep2 z TI TO i1 i2 fp1 fp2) (D1 : Draws prog w A.in1 i1 fp1 n1 P1 St1) (D2 : Draws prog w A.in1 i2 fp2 n2 P2 St2)
    (hz : ZiA s.heap z TI TO) (hTI : IsTupOf2 s.heap TI (.ref i1) (.ref i2)) (hTO : OutZ s.heap TO) (st1 : St1 i s.heap) (st2 : St2 i s.heap) (hlt1 : i < n1) (hlt2 : i < n2)
    (hQ : ∀ x1 x2 h' tk, P1 i x1 → P2 i x2 → ZiA h' z TI TO → OutZ h' TO → St1 (i + 1) h' → St2 (i + 1) h' → IsTupOf2 h' s.heap.objs.size x1 x2 → h'.objs.size = s.heap.objs.size + 1 →
      (∀ c o, c ≠ z → c ≠ TO → c ≠ i1 → c ≠ i2 → s.heap.get? c = some o → h'.get? c = some o) → Q (some (.ref s.heap.objs.size)) { s with heap := h', toks := tk }) :
    wpAny (model prog w) A (pyNext (.ref z)) Q E s := by
  have hT : s.TypeIs (.ref z) "zip" := by obtain ⟨_, _, _, q⟩ := hz; exact ⟨_, q, rfl⟩
  unfold pyNext
  exact wpAny_bind (wpAny_attempt (wpAny_callSpecial?_slot (name := Str.ofString "__next__") hT F.slot_zip_next
    (wpAny_call_entry F.slot_zip_next hT F.entry_zip_next
      (zi_item S D1 D2 hz hTI hTO st1 st2 hlt1 hlt2 fun x1 x2 h' tk y1 y2 b1 b2 d1 d2 b5 b6 b7 => wpAny_pure (hQ x1 x2 h' tk y1 y2 b1 b2 d1 d2 b5 b6 b7)) (F.args_zip_next_1 _))))
theorem zi_pyNext_end {Q : Option Value → Shared → Prop} (S : ZipSep2 z TI TO i1 i2 fp1 fp2) (D1 : Draws prog w A.in1 i1 fp1 n1 P1 St1) (D2 : Draws prog w A.in1 i2 fp2 n2 P2 St2)
    (hz : ZiA s.heap z TI TO) (hTI : IsTupOf2 s.heap TI (.ref i1) (.ref i2)) (hTO : OutZ s.heap TO) (st1 : St1 i s.heap) (st2 : St2 i s.heap) (hle1 : i ≤ n1) (hle2 : i ≤ n2) (hend : i = n1 ∨ i = n2)
    (hQ : ∀ h' tk, (∀ c o, c ≠ z → c ≠ TO → c ≠ i1 → c ≠ i2 → s.heap.get? c = some o → h'.get? c = some o) → Q none { s with heap := h', toks := tk }) : wpAny (model prog w) A (pyNext (.ref z)) Q E s := by
  have hT : s.TypeIs (.ref z) "zip" := by obtain ⟨_, _, _, q⟩ := hz; exact ⟨_, q, rfl⟩
  unfold pyNext
  refine wpAny_bind (wpAny_attempt (wpAny_callSpecial?_slot (name := Str.ofString "__next__") hT F.slot_zip_next
    (wpAny_call_entry F.slot_zip_next hT F.entry_zip_next (zi_end S D1 D2 hz hTI hTO st1 st2 hle1 hle2 hend fun h' tk e hk he => ?_) (F.args_zip_next_1 _))))
  obtain ⟨o, ho, hc⟩ := he
  refine wpAny_bind (wpAny_isInstance (T := "StopIteration") (b := true) ⟨o, ho, hc⟩ isSubtype_stop ?_)
  exact wpAny_pure (hQ _ _ hk)
theorem zi_go {tg : Expr} {u : Value} {Q : Unit → Shared → Prop} (he : ZiA s.heap z TI TO)
    (hQ : ∀ h', ZiA h' z TI TO → Heap.SameBut z s.heap h' → Q () { s with heap := h' }) : wpAny (model prog w) A (letOwnedTupleGo tg (.ref z) u) Q E s := by
  have hk : Q () s := hQ s.heap he (Heap.SameBut.refl _ _)
  obtain ⟨s0, f, hs0, he⟩ := he
  have go : ∀ a : Addr, wpAny (model prog w) A (do
      let o ← load z
      match o.cls, o.data with
      | .type n, .fields vs =>
        if ["enumerate", "zip", "dict_itemiterator", "dict_reverseitemiterator", "odict_iterator", "itertools.zip_longest", "itertools.pairwise"].contains n && vs[0]? == some (rawInt a) then
          rule "for.unpacks-the-owned-tuple"
          updateField z 0 .none
      | _, _ => pure ()) Q E s := by
    intro a
    refine wpAny_bind (wpAny_load he ?_)
    show wpAny _ A (if (_ && (some s0 == some (rawInt a))) = true then _ else _) Q E s
    split
    · refine wpAny_bind (wpAny_rule ?_)
      show wpAny _ A (setField (.ref z) 0 .none) Q E s
      exact wpAny_setField_rec he (by simp) fun h' he' hs' => hQ h' ⟨_, _, .inl rfl, he'⟩ hs'
    · exact wpAny_pure hk
  unfold letOwnedTupleGo
  cases tg <;> first | exact wpAny_pure hk | (cases u <;> first | exact wpAny_pure hk | exact go _)
/-- the zip as an iterator that another one draws from -/
theorem Dr.zi (S : ZipSep2 z TI TO i1 i2 fp1 fp2) (hTI1 : TI ∉ fp1) (hTI2 : TI ∉ fp2) (D1 : Draws prog w A.in1 i1 fp1 n1 P1 St1) (D2 : Draws prog w A.in1 i2 fp2 n2 P2 St2) :
    Dr prog w A z (z :: TI :: TO :: (fp1 ++ fp2)) [z, TO, i1, i2] (min n1 n2) (fun i x N Z h => ∃ T x1 x2, x = .ref T ∧ N ≤ T ∧ T < Z ∧ P1 i x1 ∧ P2 i x2 ∧ IsTupOf2 h T x1 x2)
      (fun i h => i ≤ min n1 n2 ∧ ZiA h z TI TO ∧ IsTupOf2 h TI (.ref i1) (.ref i2) ∧ OutZ h TO ∧ St1 i h ∧ St2 i h) where
  sub := fun c hc => by
    have hc' : c = z ∨ c = TO ∨ c = i1 ∨ c = i2 := by simpa using hc
    rcases hc' with rfl | rfl | rfl | rfl
    · simp
    · simp
    · have := S.mem1; simp [this]
    · have := S.mem2; simp [this]
  mem := by simp
  live := fun i h st c hc => by
    obtain ⟨_, ⟨_, _, _, hz⟩, hTI, ⟨_, _, hTO⟩, s1, s2⟩ := st
    have hc' : c = z ∨ c = TO ∨ c = i1 ∨ c = i2 := by simpa using hc
    rcases hc' with rfl | rfl | rfl | rfl
    · exact ⟨_, hz⟩
    · exact ⟨_, hTO⟩
    · exact D1.live _ _ s1
    · exact D2.live _ _ s2
  frame := fun i h h' st k => by
    obtain ⟨hi, ⟨_, _, h0, hz⟩, hTI, ⟨_, _, hTO⟩, s1, s2⟩ := st
    exact ⟨hi, ⟨_, _, h0, k z (by simp) _ hz⟩, k TI (by simp) _ hTI, ⟨_, _, k TO (by simp) _ hTO⟩, D1.frame _ _ _ s1 fun b hb o e => k b (by simp [hb]) o e, D2.frame _ _ _ s2 fun b hb o e => k b (by simp [hb]) o e⟩
  grow := fun i x N Z h h' p k => by
    obtain ⟨T, x1, x2, rfl, hN, hZ, p1, p2, hT⟩ := p
    exact ⟨T, x1, x2, rfl, hN, hZ, p1, p2, k T _ hN hT⟩
  item := fun i s Q E hi st hQ => by
    obtain ⟨hle, hz, hTI, hTO, s1, s2⟩ := st
    have hT : s.TypeIs (.ref z) "zip" := by obtain ⟨_, _, _, q⟩ := hz; exact ⟨_, q, rfl⟩
    unfold Builtin.SmallTypes.nextOf
    refine wpAny_bind (wpAny_callSpecial?_slot (name := Str.ofString "__next__") hT F.slot_zip_next (wpAny_call_entry F.slot_zip_next hT F.entry_zip_next
      (zi_item S D1 D2 hz hTI hTO s1 s2 (by omega) (by omega) fun x1 x2 h' tk y1 y2 b1 b2 d1 d2 b5 b6 b7 => ?_) (F.args_zip_next_1 _)))
    refine wpAny_pure (hQ _ h' tk ⟨s.heap.objs.size, x1, x2, rfl, Nat.le_refl _, by rw [b6]; exact Nat.lt_succ_self _, y1, y2, b5⟩ ⟨by omega, b1, b7 _ _ S.TIz S.TITO S.TIi1 S.TIi2 hTI, b2, d1, d2⟩ (by rw [b6]; exact Nat.le_succ _) fun b o hb q => ?_)
    exact b7 b o (fun e => hb (by simp [e])) (fun e => hb (by simp [e])) (fun e => hb (by simp [e])) (fun e => hb (by simp [e])) q
  done := fun s Q E st hE => by
    obtain ⟨hle, hz, hTI, hTO, s1, s2⟩ := st
    have hT : s.TypeIs (.ref z) "zip" := by obtain ⟨_, _, _, q⟩ := hz; exact ⟨_, q, rfl⟩
    unfold Builtin.SmallTypes.nextOf
    refine wpAny_bind (wpAny_callSpecial?_slot (name := Str.ofString "__next__") hT F.slot_zip_next (wpAny_call_entry F.slot_zip_next hT F.entry_zip_next
      (zi_end S D1 D2 hz hTI hTO s1 s2 (by omega) (by omega) (by omega) fun h' tk e hk he => ?_) (F.args_zip_next_1 _)))
    exact hE h' tk e (fun b o hb q => hk b o (fun e => hb (by simp [e])) (fun e => hb (by simp [e])) (fun e => hb (by simp [e])) (fun e => hb (by simp [e])) q) he
end
end DL
set_option Elab.async false
set_option linter.all false
set_option maxRecDepth 100000
set_option maxHeartbeats 1000000
namespace DL
open PySem PySem.Spec PyProof.Rows L2
theorem turnedMany {X : Cx} {pins : List (Addr × Obj)} {σ : L2.St} {H H' : Hp} {s : Shared} {h' : Heap} {t' : Nat} {ch : List Addr} (I : Inv X pins σ H s) (k : ∀ b o, b ∉ ch → s.heap.get? b = some o → h'.get? b = some o) (hf : ∀ b ∈ ch, FpOk X pins H b)
    (old : ∀ b, b < s.heap.objs.size → H' b = H b) (sub : ∀ b u, H b = some u → H' b = some u) (new : ∀ b u, H' b = some u → H b = some u ∨ ObjOk X.prog X.w H' h' b u) : Inv X pins σ H' { s with heap := h', toks := t' } := by
  have nit : ∀ b u, H b = some u → b ∉ ch := fun b u e z => by
    have q := (hf b z).1
    rw [q] at e; cases e
  refine I.step (g' := s.gens) (d' := s.drawn) (ch := ch) (fun b hb => ⟨(hf b hb).2.2.2.1, (hf b hb).2.1, (hf b hb).2.2.2.2.1, (hf b hb).2.2.2.2.2⟩) (fun b o _ _ hc e _ => k b o hc e) (fun b o _ _ hc e _ => ⟨o.slots, k b o hc e⟩)
    (fun b o _ e n => ?_) (fun b o hc e => ⟨o, k b o hc e⟩) (fun b xs e => sub _ _ e) (fun b o u e => sub _ _ e) (fun b ps e => ⟨#[], ?_⟩) (fun m hm => ?_) (fun b u e => ?_) I.bare
  · rw [old b (Heap.lt_size e)]; exact n
  · rw [sub _ _ e]; simp
  · obtain ⟨o, es, ep, ho, r⟩ := hm
    exact ⟨o, es, ep, k _ o (fun z => (hf _ z).2.1 rfl) ho, r⟩
  · rcases new b u e with e' | n
    · refine (I.hok b u e').stay (fun c v hc q => k c v ?_ q) (fun c q => sub _ _ q) fun c xs q => sub _ _ q
      rcases hc with z | z
      · rw [z]; exact nit b u e'
      · exact nit c _ z
    · exact n
theorem vals_rev : ∀ {xs : List V} {us : List Value} {i : Nat} {u : Value}, Vals xs us → us[i]? = some u → ∃ x, xs[i]? = some x ∧ RelV x u
  | _, _, _, _, .nil, e => by simp at e
  | _, _, 0, _, .cons r _, e => by simp at e; subst e; exact ⟨_, rfl, r⟩
  | _, _, i + 1, u, .cons _ t, e => by
    obtain ⟨x, h1, h2⟩ := vals_rev (i := i) (u := u) t (by simpa using e)
    exact ⟨x, by simpa using h1, h2⟩
theorem iter_en {prog : Program} {w : World} {A : Around} {E : Value → Shared → Prop} {s : Shared} {e it : Addr} {i : Int} {Q : Value → Shared → Prop} (he : EnA s.heap e it i) (h : Q (.ref e) s) : wpAny (model prog w) A (pyIter (.ref e)) Q E s := by
  obtain ⟨_, _, _, _, q⟩ := he
  have hT : s.TypeIs (.ref e) "enumerate" := ⟨_, q, rfl⟩
  refine wpAny_pyIter_slot hT F.slot_enumerate_iter (wpAny_call_entry F.slot_enumerate_iter hT F.entry_enumerate_iter ?_ (F.args_enumerate_iter_1 _))
  show wpAny _ _ (ret (.ref e)) _ _ s
  exact wpAny_pure ⟨_, rfl, "enumerate", _, hT, F.slot_enumerate_next.lookup, h⟩
theorem iter_zi {prog : Program} {w : World} {A : Around} {E : Value → Shared → Prop} {s : Shared} {z TI TO : Addr} {Q : Value → Shared → Prop} (hz : ZiA s.heap z TI TO) (h : Q (.ref z) s) : wpAny (model prog w) A (pyIter (.ref z)) Q E s := by
  obtain ⟨_, _, _, q⟩ := hz
  have hT : s.TypeIs (.ref z) "zip" := ⟨_, q, rfl⟩
  refine wpAny_pyIter_slot hT F.slot_zip_iter (wpAny_call_entry F.slot_zip_iter hT F.entry_zip_iter ?_ (F.args_zip_iter_1 _))
  show wpAny _ _ (ret (.ref z)) _ _ s
  exact wpAny_pure ⟨_, rfl, "zip", _, hT, F.slot_zip_next.lookup, h⟩
/-- what each draw does, with the store known -/
structure Pull (P : Program) (w : World) (K : PySem.W.Frag) (J : It) (fp : List Addr) (it : Addr) (tn : Nat → Heap → Prop) : Prop where
  mem : it ∈ fp
  obj : ∀ i h, tn i h → ∀ b ∈ fp, ∃ o, h.get? b = some o ∧ ∀ v, o.data ≠ .cell v
  keep : ∀ i h h', tn i h → (∀ b ∈ fp, ∀ o, h.get? b = some o → h'.get? b = some o) → tn i h'
  item : ∀ (X : Cx), X.prog = P → X.w = w → X.K = K → ∀ (A : Around), A.handled = none → ∀ (i : Nat) (pins : List (Addr × Obj)) (s : Shared) (σ : L2.St) (H : Hp) (E : Value → Shared → Prop), Inv X pins σ H s → (∀ b ∈ fp, FpOk X pins H b) → tn i s.heap → J.go i H →
    wpAny (model P w) A (pyNext (.ref it)) (fun r s1 => ∃ u, r = some u ∧ ∃ x H', Inv X pins σ H' s1 ∧ RelV x u ∧ J.yld i H x H' ∧ tn (i + 1) s1.heap ∧ ∀ b ∈ fp, H' b = none) E s
  done : ∀ (X : Cx), X.prog = P → X.w = w → X.K = K → ∀ (A : Around), A.handled = none → ∀ (i : Nat) (pins : List (Addr × Obj)) (s : Shared) (σ : L2.St) (H : Hp) (E : Value → Shared → Prop), Inv X pins σ H s → (∀ b ∈ fp, FpOk X pins H b) → tn i s.heap → J.stop i H →
    wpAny (model P w) A (pyNext (.ref it)) (fun r s1 => r = none ∧ Inv X pins σ H s1) E s
theorem turn_of {P : Program} {w : World} {K : PySem.W.Frag} {tg : Expr} {J : It} {fp : List Addr} {it : Addr} {tn : Nat → Heap → Prop} (p : Pull P w K J fp it tn)
    (go : ∀ (A : Around) (i : Nat) (s : Shared) (u : Value) (Q : Unit → Shared → Prop) (E : Value → Shared → Prop), tn i s.heap → (∀ h', tn i h' → Heap.SameBut it s.heap h' → Q () { s with heap := h' }) → wpAny (model P w) A (letOwnedTupleGo tg (.ref it) u) Q E s)
    (self : ∀ (A : Around) (i : Nat) (s : Shared) (Q : Value → Shared → Prop) (E : Value → Shared → Prop), tn i s.heap → Q (.ref it) s → wpAny (model P w) A (pyIter (.ref it)) Q E s) : Turn P w K tg J fp it tn where
  mem := p.mem
  obj := p.obj
  keep := p.keep
  item := by
    intro X hP hw hK hc i pins s σ H E I hf st hg
    refine thn (p.item X hP hw hK X.A (I.ok.hd hc) i pins s σ H E I hf st hg) fun r s1 ⟨u, hr, x, H', I', rel, y, st', fn⟩ => ⟨u, hr, go _ _ _ _ _ _ st' fun h' st2 sb => ⟨x, H', ?_, rel, y, st2, fn⟩⟩
    exact I'.turnedL (t' := s1.toks) (ch := [it]) (fun b o hb q => (sb.2 b (fun z => hb (by simp [z]))).trans q) fun b hb => by rw [List.mem_singleton.mp hb]; exact ⟨fn it p.mem, (hf it p.mem).2⟩
  done := fun X hP hw hK hc i pins s σ H E I hf st hg => p.done X hP hw hK X.A (I.ok.hd hc) i pins s σ H E I hf st hg
  self := self
inductive Sq | lst (a : Addr) | tup (a : Addr) | str (z : Str)
namespace Sq
def v : Sq → V
  | lst a => .ref a
  | tup a => .ref a
  | str z => .str z
def val (t : Tok) : Sq → Value
  | lst a => .ref a
  | tup a => .ref a
  | str z => .str z t
def its (K : PySem.W.Frag) (H : Hp) (xs : List V) : Sq → Prop
  | lst a => SqL K H a xs
  | tup a => SqT K H a xs
  | str z => xs = z.cps.toList.map fun c => V.str ⟨#[c]⟩
def st (t : Tok) (it : Addr) (i : Nat) (h : Heap) : Sq → Prop
  | lst a => h.IsListIter it a i
  | tup a => h.IsTupleIter it a i
  | str z => h.IsStrIter it (strIterType z) z t i
def addr : Sq → List Addr
  | lst a => [a]
  | tup a => [a]
  | str z => []
theorem rel {S : Sq} {u : Value} (r : RelV S.v u) : ∃ t, u = S.val t := by
  cases S with
  | lst a => exact ⟨0, r⟩
  | tup a => exact ⟨0, r⟩
  | str z => exact r
theorem inj {X : Cx} {pins : List (Addr × Obj)} {σ : L2.St} {H : Hp} {s : Shared} (I : Inv X pins σ H s) {S : Sq} {xs ys : List V} (h : S.its X.K H xs) (h' : S.its X.K H ys) : xs = ys := by
  cases S with
  | lst a => exact I.list_inj h h'
  | tup a => exact I.tuple_inj h h'
  | str z => exact (show xs = _ from h).trans (show ys = _ from h').symm
theorem stLive {S : Sq} {t : Tok} {it : Addr} {i : Nat} {h : Heap} (q : S.st t it i h) : ∃ o, h.get? it = some o ∧ ∃ vs, o.data = .fields vs := by
  cases S with
  | lst a => obtain ⟨o, e, _, d⟩ := q; exact ⟨o, e, _, d⟩
  | tup a => obtain ⟨o, e, _, d⟩ := q; exact ⟨o, e, _, d⟩
  | str z => obtain ⟨o, e, _, d⟩ := q; exact ⟨o, e, _, d⟩
theorem stAt {S : Sq} {t : Tok} {it : Addr} {i : Nat} {h h' : Heap} (q : S.st t it i h) (k : ∀ o, h.get? it = some o → h'.get? it = some o) : S.st t it i h' := by
  cases S with
  | lst a => obtain ⟨o, e, r⟩ := q; exact ⟨o, k o e, r⟩
  | tup a => obtain ⟨o, e, r⟩ := q; exact ⟨o, k o e, r⟩
  | str z => obtain ⟨o, e, r⟩ := q; exact ⟨o, k o e, r⟩
/-- the draws of its iterator, as things stand -/
theorem draws {X : Cx} {pins : List (Addr × Obj)} {σ : L2.St} {H : Hp} {s : Shared} (I : Inv X pins σ H s) {S : Sq} {xs : List V} (h : S.its X.K H xs) {t : Tok} {it : Addr} (hn : it ∉ S.addr) (A : Around) (hh : A.handled = none) :
    ∃ (fp : List Addr) (P : Nat → Value → Prop) (St : Nat → Heap → Prop), Draws X.prog X.w A it (it :: fp) xs.length P St ∧ (∀ b ∈ fp, b ∈ S.addr) ∧ (∀ i, S.st t it i s.heap → St i s.heap) ∧ (∀ i h, St i h → S.st t it i h) ∧ ∀ i u, P i u → ∃ x, xs[i]? = some x ∧ RelV x u := by
  cases S with
  | lst a =>
    obtain ⟨its, rv, p, hz⟩ := I.list h
    have e : its.toArray.size = xs.length := by rw [List.size_toArray, rv.length]
    refine ⟨[a], _, _, e ▸ Draws.list hh it a (fun q => hn (by rw [q]; exact List.mem_singleton_self _)) its.toArray, fun b hb => hb, fun i q => ⟨q, p.isList⟩, fun i h q => q.1, fun i u q => ?_⟩
    exact vals_rev rv (by simpa using q)
  | tup a =>
    obtain ⟨its, rv, p, hz⟩ := I.tuple h
    have e : its.toArray.size = xs.length := by rw [List.size_toArray, rv.length]
    refine ⟨[a], _, _, e ▸ Draws.tuple hh it a (fun q => hn (by rw [q]; exact List.mem_singleton_self _)) its.toArray, fun b hb => hb, fun i q => ⟨q, p⟩, fun i h q => q.1, fun i u q => ?_⟩
    exact vals_rev rv (by simpa using q)
  | str z =>
    have h' : xs = z.cps.toList.map fun c => V.str ⟨#[c]⟩ := h
    subst h'
    have e : z.cps.size = (z.cps.toList.map fun c => V.str ⟨#[c]⟩).length := by simp
    refine ⟨[], _, _, e ▸ Draws.text hh it z t, fun b hb => hb, fun i q => q, fun i h q => q, fun i u q => ?_⟩
    obtain ⟨c, u, hc, rfl⟩ := q
    exact ⟨.str ⟨#[c]⟩, by simp [hc], u, rfl⟩
def obj (t : Tok) : Sq → Obj
  | lst a => { cls := .type "list_iterator", data := .fields #[.ref a, .int 0 0] }
  | tup a => { cls := .type "tuple_iterator", data := .fields #[.ref a, .int 0 0] }
  | str z => { cls := .type (strIterType z), data := .fields #[.str z t, .int 0 0] }
theorem begins {X : Cx} {pins : List (Addr × Obj)} {σ : L2.St} {H : Hp} {s : Shared} (I : Inv X pins σ H s) {S : Sq} {xs : List V} (h : S.its X.K H xs) (t : Tok) : ∃ Hp, Begins (S.val t) (S.obj t) Hp ∧ Hp s.heap := by
  cases S with
  | lst a =>
    obtain ⟨its, rv, p, hz⟩ := I.list h
    exact ⟨_, begins_list a its.toArray, p.isList⟩
  | tup a =>
    obtain ⟨its, rv, p, hz⟩ := I.tuple h
    exact ⟨_, begins_tuple a its.toArray, p⟩
  | str z => exact ⟨_, begins_text z t, trivial⟩
theorem st0 {S : Sq} {t : Tok} {it : Addr} {h : Heap} (e : h.get? it = some (S.obj t)) : S.st t it 0 h := by
  cases S with
  | lst a => exact ⟨_, e, rfl, rfl⟩
  | tup a => exact ⟨_, e, rfl, rfl⟩
  | str z => exact ⟨_, e, rfl, rfl⟩
theorem addr_lt {X : Cx} {pins : List (Addr × Obj)} {σ : L2.St} {H : Hp} {s : Shared} (I : Inv X pins σ H s) {S : Sq} {xs : List V} (h : S.its X.K H xs) : ∀ b ∈ S.addr, b < s.heap.objs.size := by
  cases S with
  | lst a =>
    obtain ⟨its, rv, ⟨o, n, e, _⟩, hz⟩ := I.list h
    intro b hb
    rw [List.mem_singleton.mp hb]
    exact Heap.lt_size e
  | tup a =>
    obtain ⟨its, rv, ⟨o, e, _⟩, hz⟩ := I.tuple h
    intro b hb
    rw [List.mem_singleton.mp hb]
    exact Heap.lt_size e
  | str z => intro b hb; cases hb
end Sq
theorem tup_ok {P : Program} {w : World} {H : Hp} {h : Heap} {T : Addr} {xs : List V} {us : List Value} (hl : xs.length ≤ sizeLine) (r : Vals xs us) (hT : h.get? T = some { cls := .type "tuple", data := .seq us.toArray }) : ObjOk P w H h T (.tup xs) :=
  ⟨hl, us, r, ⟨_, hT, rfl, _, rfl⟩⟩

def Jen (K : PySem.W.Frag) (S : Sq) (n : Nat) : It :=
  ⟨fun i H => i < n ∧ ∃ xs, S.its K H xs ∧ xs.length = n, fun i H v H' => ∃ T x, v = .ref T ∧ H T = none ∧ H' = upd H T (.tup [.int (i : Nat), x]) ∧ ∀ xs, S.its K H xs → xs[i]? = some x, fun i H => n ≤ i ∧ ∃ xs, S.its K H xs ∧ xs.length = n⟩
theorem pull_en {P : Program} {w : World} {K : PySem.W.Frag} (S : Sq) (t : Tok) (e it : Addr) (n : Nat) (hne : e ≠ it) (h1 : e ∉ S.addr) (h2 : it ∉ S.addr) :
    Pull P w K (Jen K S n) [e, it] e (fun i h => i ≤ n ∧ EnA h e it (i : Nat) ∧ S.st t it i h) where
  mem := by simp
  obj := fun i h st b hb => by
    obtain ⟨_, ⟨_, _, _, _, he⟩, hs⟩ := st
    have e' : b = e ∨ b = it := by simpa using hb
    rcases e' with z | z
    · rw [z]; exact ⟨_, he, fun v q => nomatch q⟩
    · rw [z]
      obtain ⟨o, ho, vs, hd⟩ := Sq.stLive hs
      exact ⟨o, ho, fun v q => by rw [hd] at q; cases q⟩
  keep := fun i h h' st k => by
    obtain ⟨hi, ⟨s0, f, old, h0, he⟩, hs⟩ := st
    exact ⟨hi, ⟨s0, f, old, h0, k e (by simp) _ he⟩, Sq.stAt hs fun o q => k it (by simp) o q⟩
  item := by
    intro X hP hw hK A hh i pins s σ H E I hf st hg
    subst hP hw hK
    obtain ⟨hle, hen, hs⟩ := st
    obtain ⟨hi, xs, hq, hl⟩ := hg
    obtain ⟨fp, Pv, St, D, hfp, up, down, val⟩ := Sq.draws I hq (t := t) h2 A.in1 hh
    refine en_pyNext_item (Dr.of D (by simp)) hen (up i hs) (by omega) (fun q => ?_) fun x h' tk T t' Z p hN hZ hT hen' hs' hTup hk => ?_
    · rcases List.mem_cons.mp q with q | q
      · exact hne q
      · exact h1 (hfp _ q)
    · obtain ⟨xv, hx, rx⟩ := val i x p
      have hTl : s.heap.objs.size ≤ T := Nat.le_trans hN hZ
      have hel : e < s.heap.objs.size := by obtain ⟨_, _, _, _, q⟩ := hen; exact Heap.lt_size q
      have hil : it < s.heap.objs.size := by obtain ⟨o, q, _⟩ := Sq.stLive hs; exact Heap.lt_size q
      have I1 : Inv X pins σ (upd H T (.tup [.int (i : Nat), xv])) { s with heap := h', toks := tk } :=
        I.turnedNew (ch := [e, it]) (fun b ob hb q => hk b ob (fun z => hb (by simp [z])) (fun z => hb (by simp at z; simp [z])) q) hf hTl (tup_ok (by show 2 ≤ sizeLine; decide) (.cons ⟨_, rfl⟩ (.cons rx .nil)) hTup)
      refine ⟨_, rfl, .ref T, _, I1, rfl, ⟨T, xv, rfl, I.hok.fresh hTl, rfl, fun ys hy => by rw [Sq.inj I hy hq]; exact hx⟩, ⟨by omega, hen', down _ _ hs'⟩, fun b hb => ?_⟩
      have hb' : b < s.heap.objs.size := by
        have e' : b = e ∨ b = it := by simpa using hb
        rcases e' with z | z
        · rw [z]; exact hel
        · rw [z]; exact hil
      rw [upd_ne (Nat.ne_of_lt (Nat.lt_of_lt_of_le hb' hTl))]
      exact (hf b hb).1
  done := by
    intro X hP hw hK A hh i pins s σ H E I hf st hg
    subst hP hw hK
    obtain ⟨hle, hen, hs⟩ := st
    obtain ⟨hi, xs, hq, hl⟩ := hg
    obtain ⟨fp, Pv, St, D, hfp, up, down, val⟩ := Sq.draws I hq (t := t) h2 A.in1 hh
    have e1 : i = xs.length := by omega
    exact en_pyNext_end (Dr.of D (by simp)) hen (by rw [← e1]; exact up i hs) fun h' tk k => ⟨rfl, I.turnedL (ch := [e, it]) (fun b o hb q => k b o (fun z => hb (by simp at z; simp [z])) q) hf⟩
theorem turn_en {P : Program} {w : World} {K : PySem.W.Frag} {tg : Expr} (S : Sq) (t : Tok) (e it : Addr) (n : Nat) (hne : e ≠ it) (h1 : e ∉ S.addr) (h2 : it ∉ S.addr) :
    Turn P w K tg (Jen K S n) [e, it] e (fun i h => i ≤ n ∧ EnA h e it (i : Nat) ∧ S.st t it i h) :=
  turn_of (pull_en S t e it n hne h1 h2) (fun A i s u Q E st hQ => en_go st.2.1 fun h' q sb => hQ h' ⟨st.1, q, Sq.stAt st.2.2 fun o q => (sb.2 it (Ne.symm hne)).trans q⟩ sb) fun A i s Q E st h => iter_en st.2.1 h

def Jzi (K : PySem.W.Frag) (S1 S2 : Sq) (n1 n2 : Nat) : It :=
  ⟨fun i H => i < min n1 n2 ∧ ∃ xs ys, S1.its K H xs ∧ xs.length = n1 ∧ S2.its K H ys ∧ ys.length = n2, fun i H v H' => ∃ T x y, v = .ref T ∧ H T = none ∧ H' = upd H T (.tup [x, y]) ∧ (∀ xs, S1.its K H xs → xs[i]? = some x) ∧ ∀ ys, S2.its K H ys → ys[i]? = some y,
    fun i H => min n1 n2 ≤ i ∧ ∃ xs ys, S1.its K H xs ∧ xs.length = n1 ∧ S2.its K H ys ∧ ys.length = n2⟩
/-- the cells of a zip: apart, and apart from what it goes over -/
structure ZiAp (S1 S2 : Sq) (z TI TO i1 i2 : Addr) : Prop where
  TIz : TI ≠ z
  TOz : TO ≠ z
  TITO : TI ≠ TO
  TIi1 : TI ≠ i1
  TIi2 : TI ≠ i2
  zi1 : z ≠ i1
  zi2 : z ≠ i2
  TOi1 : TO ≠ i1
  TOi2 : TO ≠ i2
  i12 : i1 ≠ i2
  out : ∀ b, b ∈ S1.addr ∨ b ∈ S2.addr → b ≠ z ∧ b ≠ TI ∧ b ≠ TO ∧ b ≠ i1 ∧ b ≠ i2
section
variable {S1 S2 : Sq} {z TI TO i1 i2 : Addr}
theorem ZiAp.sep (D : ZiAp S1 S2 z TI TO i1 i2) {fp1 fp2 : List Addr} (h1 : ∀ b ∈ fp1, b ∈ S1.addr) (h2 : ∀ b ∈ fp2, b ∈ S2.addr) : ZipSep2 z TI TO i1 i2 (i1 :: fp1) (i2 :: fp2) := by
  have o1 : ∀ b ∈ fp1, b ≠ z ∧ b ≠ TI ∧ b ≠ TO ∧ b ≠ i1 ∧ b ≠ i2 := fun b hb => D.out b (.inl (h1 b hb))
  have o2 : ∀ b ∈ fp2, b ≠ z ∧ b ≠ TI ∧ b ≠ TO ∧ b ≠ i1 ∧ b ≠ i2 := fun b hb => D.out b (.inr (h2 b hb))
  refine ⟨D.TIz, D.TOz, D.TITO, D.TIi1, List.mem_cons_self, ?_, ?_, D.TIi2, List.mem_cons_self, ?_, ?_, ?_, ?_⟩
  · intro q; rcases List.mem_cons.mp q with q | q
    · exact D.zi1 q
    · exact (o1 _ q).1 rfl
  · intro q; rcases List.mem_cons.mp q with q | q
    · exact D.TOi1 q
    · exact (o1 _ q).2.2.1 rfl
  · intro q; rcases List.mem_cons.mp q with q | q
    · exact D.zi2 q
    · exact (o2 _ q).1 rfl
  · intro q; rcases List.mem_cons.mp q with q | q
    · exact D.TOi2 q
    · exact (o2 _ q).2.2.1 rfl
  · intro q; rcases List.mem_cons.mp q with q | q
    · exact D.i12 q
    · exact (o2 _ q).2.2.2.1 rfl
  · intro q; rcases List.mem_cons.mp q with q | q
    · exact D.i12 q.symm
    · exact (o1 _ q).2.2.2.2 rfl
def ZiSt (S1 S2 : Sq) (t1 t2 : Tok) (z TI TO i1 i2 : Addr) (i : Nat) (h : Heap) : Prop := ZiA h z TI TO ∧ IsTupOf2 h TI (.ref i1) (.ref i2) ∧ OutZ h TO ∧ S1.st t1 i1 i h ∧ S2.st t2 i2 i h
theorem ZiSt.keep {t1 t2 : Tok} {i : Nat} {h h' : Heap} (st : ZiSt S1 S2 t1 t2 z TI TO i1 i2 i h) (k : ∀ b ∈ [z, TI, TO, i1, i2], ∀ o, h.get? b = some o → h'.get? b = some o) : ZiSt S1 S2 t1 t2 z TI TO i1 i2 i h' := by
  obtain ⟨⟨_, _, h0, hz⟩, hTI, ⟨_, _, hTO⟩, s1, s2⟩ := st
  exact ⟨⟨_, _, h0, k z (by simp) _ hz⟩, k TI (by simp) _ hTI, ⟨_, _, k TO (by simp) _ hTO⟩, Sq.stAt s1 fun o q => k i1 (by simp) o q, Sq.stAt s2 fun o q => k i2 (by simp) o q⟩
theorem ZiSt.obj {t1 t2 : Tok} {i : Nat} {h : Heap} (st : ZiSt S1 S2 t1 t2 z TI TO i1 i2 i h) : ∀ b ∈ [z, TI, TO, i1, i2], ∃ o, h.get? b = some o ∧ ∀ v, o.data ≠ .cell v := by
  obtain ⟨⟨_, _, h0, hz⟩, hTI, ⟨_, _, hTO⟩, s1, s2⟩ := st
  intro b hb
  have e' : b = z ∨ b = TI ∨ b = TO ∨ b = i1 ∨ b = i2 := by simpa using hb
  rcases e' with q | q | q | q | q
  · rw [q]; exact ⟨_, hz, fun v q => nomatch q⟩
  · rw [q]; exact ⟨_, hTI, fun v q => nomatch q⟩
  · rw [q]; exact ⟨_, hTO, fun v q => nomatch q⟩
  · rw [q]; obtain ⟨o, ho, vs, hd⟩ := Sq.stLive s1; exact ⟨o, ho, fun v q => by rw [hd] at q; cases q⟩
  · rw [q]; obtain ⟨o, ho, vs, hd⟩ := Sq.stLive s2; exact ⟨o, ho, fun v q => by rw [hd] at q; cases q⟩
theorem pull_zi {P : Program} {w : World} {K : PySem.W.Frag} (t1 t2 : Tok) (n1 n2 : Nat) (D : ZiAp S1 S2 z TI TO i1 i2) :
    Pull P w K (Jzi K S1 S2 n1 n2) [z, TI, TO, i1, i2] z (fun i h => i ≤ min n1 n2 ∧ ZiSt S1 S2 t1 t2 z TI TO i1 i2 i h) where
  mem := by simp
  obj := fun i h st => st.2.obj
  keep := fun i h h' st k => ⟨st.1, st.2.keep k⟩
  item := by
    intro X hP hw hK A hh i pins s σ H E I hf st hg
    subst hP hw hK
    have lts : ∀ b ∈ [z, TI, TO, i1, i2], b < s.heap.objs.size := fun b hb => let ⟨o, e, _⟩ := st.2.obj b hb; Heap.lt_size e
    obtain ⟨hle, hz, hTI, hTO, s1, s2⟩ := st
    obtain ⟨hi, xs, ys, hqx, hlx, hqy, hly⟩ := hg
    have nz : i1 ∉ S1.addr := fun q => (D.out _ (.inl q)).2.2.2.1 rfl
    have nz2 : i2 ∉ S2.addr := fun q => (D.out _ (.inr q)).2.2.2.2 rfl
    obtain ⟨fp, Pv, St, D1, hfp, up, down, val⟩ := Sq.draws I hqx (t := t1) nz A.in1 hh
    obtain ⟨fp2, Pv2, St2, D2, hfp2, up2, down2, val2⟩ := Sq.draws I hqy (t := t2) nz2 A.in1 hh
    have Sp := D.sep hfp hfp2
    refine zi_pyNext_item Sp D1 D2 hz hTI hTO (up i s1) (up2 i s2) (by omega) (by omega) fun x1 x2 h' tk p1 p2 hz' hTO' s1' s2' hT hsz hk => ?_
    obtain ⟨xv, hx, rx⟩ := val i x1 p1
    obtain ⟨yv, hy, ry⟩ := val2 i x2 p2
    have zl := lts z (by simp)
    have I1 : Inv X pins σ (upd H s.heap.objs.size (.tup [xv, yv])) { s with heap := h', toks := tk } :=
      I.turnedNew (ch := [z, TI, TO, i1, i2]) (fun c o hb q => hk c o (fun q' => hb (by simp [q'])) (fun q' => hb (by simp [q'])) (fun q' => hb (by simp [q'])) (fun q' => hb (by simp [q'])) q) hf (Nat.le_refl _)
        (tup_ok (by show 2 ≤ sizeLine; decide) (.cons rx (.cons ry .nil)) hT)
    refine ⟨_, rfl, .ref s.heap.objs.size, _, I1, rfl, ⟨_, xv, yv, rfl, I.hok.fresh (Nat.le_refl _), rfl, fun l hl => by rw [Sq.inj I hl hqx]; exact hx, fun l hl => by rw [Sq.inj I hl hqy]; exact hy⟩,
      ⟨by omega, hz', hk _ _ D.TIz D.TITO D.TIi1 D.TIi2 hTI, hTO', down _ _ s1', down2 _ _ s2'⟩, fun c hcm => ?_⟩
    rw [upd_ne (Nat.ne_of_lt (lts c hcm))]
    exact (hf c hcm).1
  done := by
    intro X hP hw hK A hh i pins s σ H E I hf st hg
    subst hP hw hK
    obtain ⟨hle, hz, hTI, hTO, s1, s2⟩ := st
    obtain ⟨hi, xs, ys, hqx, hlx, hqy, hly⟩ := hg
    have nz : i1 ∉ S1.addr := fun q => (D.out _ (.inl q)).2.2.2.1 rfl
    have nz2 : i2 ∉ S2.addr := fun q => (D.out _ (.inr q)).2.2.2.2 rfl
    obtain ⟨fp, Pv, St, D1, hfp, up, down, val⟩ := Sq.draws I hqx (t := t1) nz A.in1 hh
    obtain ⟨fp2, Pv2, St2, D2, hfp2, up2, down2, val2⟩ := Sq.draws I hqy (t := t2) nz2 A.in1 hh
    exact zi_pyNext_end (D.sep hfp hfp2) D1 D2 hz hTI hTO (up i s1) (up2 i s2) (by omega) (by omega) (by omega) fun h' tk hk => ⟨rfl, I.turnedL (ch := [z, TI, TO, i1, i2]) (fun c o hb q =>
      hk c o (fun q' => hb (by simp [q'])) (fun q' => hb (by simp [q'])) (fun q' => hb (by simp [q'])) (fun q' => hb (by simp [q'])) q) hf⟩
theorem turn_zi {P : Program} {w : World} {K : PySem.W.Frag} {tg : Expr} (t1 t2 : Tok) (n1 n2 : Nat) (D : ZiAp S1 S2 z TI TO i1 i2) :
    Turn P w K tg (Jzi K S1 S2 n1 n2) [z, TI, TO, i1, i2] z (fun i h => i ≤ min n1 n2 ∧ ZiSt S1 S2 t1 t2 z TI TO i1 i2 i h) :=
  turn_of (pull_zi t1 t2 n1 n2 D) (fun A i s u Q E st hQ => zi_go st.2.1 fun h' q sb => hQ h' ⟨st.1, q, (sb.2 _ D.TIz).trans st.2.2.1, (by obtain ⟨_, _, q⟩ := st.2.2.2.1; exact ⟨_, _, (sb.2 _ D.TOz).trans q⟩), Sq.stAt st.2.2.2.2.1 fun o q => (sb.2 _ (Ne.symm D.zi1)).trans q, Sq.stAt st.2.2.2.2.2 fun o q => (sb.2 _ (Ne.symm D.zi2)).trans q⟩ sb) fun A i s Q E st h => iter_zi st.2.1 h

def Jez (K : PySem.W.Frag) (S1 S2 : Sq) (n1 n2 : Nat) : It :=
  ⟨fun i H => i < min n1 n2 ∧ ∃ xs ys, S1.its K H xs ∧ xs.length = n1 ∧ S2.its K H ys ∧ ys.length = n2, fun i H v H' => ∃ T U x y, v = .ref U ∧ H T = none ∧ H U = none ∧ T ≠ U ∧ H' = upd (upd H T (.tup [x, y])) U (.tup [.int (i : Nat), .ref T]) ∧ (∀ xs, S1.its K H xs → xs[i]? = some x) ∧ ∀ ys, S2.its K H ys → ys[i]? = some y,
    fun i H => min n1 n2 ≤ i ∧ ∃ xs ys, S1.its K H xs ∧ xs.length = n1 ∧ S2.its K H ys ∧ ys.length = n2⟩
theorem pull_ez {P : Program} {w : World} {K : PySem.W.Frag} (t1 t2 : Tok) (n1 n2 : Nat) (e : Addr) (D : ZiAp S1 S2 z TI TO i1 i2) (he : e ≠ z ∧ e ≠ TI ∧ e ≠ TO ∧ e ≠ i1 ∧ e ≠ i2) (heo : ∀ b, b ∈ S1.addr ∨ b ∈ S2.addr → b ≠ e) :
    Pull P w K (Jez K S1 S2 n1 n2) [e, z, TI, TO, i1, i2] e (fun i h => i ≤ min n1 n2 ∧ EnA h e z (i : Nat) ∧ ZiSt S1 S2 t1 t2 z TI TO i1 i2 i h) where
  mem := by simp
  obj := fun i h st b hb => by
    rcases List.mem_cons.mp hb with q | q
    · obtain ⟨_, ⟨_, _, _, _, he⟩, _⟩ := st
      rw [q]; exact ⟨_, he, fun v q => nomatch q⟩
    · exact st.2.2.obj b q
  keep := fun i h h' st k => by
    obtain ⟨hi, ⟨s0, f, old, h0, he⟩, hs⟩ := st
    exact ⟨hi, ⟨s0, f, old, h0, k e (by simp) _ he⟩, hs.keep fun b hb o q => k b (List.mem_cons_of_mem _ hb) o q⟩
  item := by
    intro X hP hw hK A hh i pins s σ H E I hf st hg
    subst hP hw hK
    have lts : ∀ b ∈ [z, TI, TO, i1, i2], b < s.heap.objs.size := fun b hb => let ⟨o, e, _⟩ := st.2.2.obj b hb; Heap.lt_size e
    obtain ⟨hle, hen, hz, hTI, hTO, s1, s2⟩ := st
    obtain ⟨hi, xs, ys, hqx, hlx, hqy, hly⟩ := hg
    have hel : e < s.heap.objs.size := by obtain ⟨_, _, _, _, q⟩ := hen; exact Heap.lt_size q
    have nz : i1 ∉ S1.addr := fun q => (D.out _ (.inl q)).2.2.2.1 rfl
    have nz2 : i2 ∉ S2.addr := fun q => (D.out _ (.inr q)).2.2.2.2 rfl
    obtain ⟨fp, Pv, St, D1, hfp, up, down, val⟩ := Sq.draws I hqx (t := t1) nz A.in1.in1 hh
    obtain ⟨fp2, Pv2, St2, D2, hfp2, up2, down2, val2⟩ := Sq.draws I hqy (t := t2) nz2 A.in1.in1 hh
    have Sp := D.sep hfp hfp2
    have TI1 : TI ∉ i1 :: fp := fun q => by
      rcases List.mem_cons.mp q with q | q
      · exact D.TIi1 q
      · exact (D.out _ (.inl (hfp _ q))).2.1 rfl
    have TI2 : TI ∉ i2 :: fp2 := fun q => by
      rcases List.mem_cons.mp q with q | q
      · exact D.TIi2 q
      · exact (D.out _ (.inr (hfp2 _ q))).2.1 rfl
    have Dz := Dr.zi (A := A.in1) Sp TI1 TI2 D1 D2
    have hef : e ∉ z :: TI :: TO :: (i1 :: fp ++ i2 :: fp2) := fun q => by
      simp only [List.mem_cons, List.mem_append, List.cons_append] at q
      rcases q with q | q | q | q | q | q | q
      · exact he.1 q
      · exact he.2.1 q
      · exact he.2.2.1 q
      · exact he.2.2.2.1 q
      · exact heo _ (.inl (hfp _ q)) rfl
      · exact he.2.2.2.2 q
      · exact heo _ (.inr (hfp2 _ q)) rfl
    refine en_pyNext_item Dz hen ⟨by omega, hz, hTI, hTO, up i s1, up2 i s2⟩ (by omega) hef fun x h' tk U t' Z p hN hZ hU hen' hs' hTup hk => ?_
    obtain ⟨T, u1, u2, rfl, hNT, hTZ, p1, p2, hT⟩ := p
    obtain ⟨_, hz', hTI', hTO', s1', s2'⟩ := hs'
    obtain ⟨xv, hx, rx⟩ := val i u1 p1
    obtain ⟨yv, hy, ry⟩ := val2 i u2 p2
    have hUl : s.heap.objs.size ≤ U := Nat.le_trans hN hZ
    have hTU : T ≠ U := Nat.ne_of_lt (Nat.lt_of_lt_of_le hTZ hZ)
    have eT : T ≠ e := Nat.ne_of_gt (Nat.lt_of_lt_of_le hel hNT)
    have eU : U ≠ e := Nat.ne_of_gt (Nat.lt_of_lt_of_le hel hUl)
    have fT := I.hok.fresh hNT
    have fU := I.hok.fresh hUl
    have kk : ∀ c o, c ∉ [e, z, TI, TO, i1, i2] → s.heap.get? c = some o → h'.get? c = some o := fun c o hb q => by
      refine hk c o (fun q' => hb (by simp [q'])) (fun q' => hb ?_) q
      have : c = z ∨ c = TO ∨ c = i1 ∨ c = i2 := by simpa using q'
      rcases this with r | r | r | r <;> simp [r]
    have I1 : Inv X pins σ (upd (upd H T (.tup [xv, yv])) U (.tup [.int (i : Nat), .ref T])) { s with heap := h', toks := tk } := by
      refine turnedMany I (ch := [e, z, TI, TO, i1, i2]) kk hf (fun b hb => ?_) (fun b u q => ?_) fun b u q => ?_
      · rw [upd_ne (Nat.ne_of_lt (Nat.lt_of_lt_of_le hb hUl)), upd_ne (Nat.ne_of_lt (Nat.lt_of_lt_of_le hb hNT))]
      · rw [upd_ne (ne_of_none q fU), upd_ne (ne_of_none q fT)]; exact q
      · by_cases hb : b = U
        · subst hb
          rw [upd_same] at q
          cases q
          exact .inr (tup_ok (by show 2 ≤ sizeLine; decide) (.cons ⟨_, rfl⟩ (.cons rfl .nil)) hTup)
        · rw [upd_ne hb] at q
          by_cases hb2 : b = T
          · subst hb2
            rw [upd_same] at q
            cases q
            exact .inr (tup_ok (by show 2 ≤ sizeLine; decide) (.cons rx (.cons ry .nil)) hT)
          · rw [upd_ne hb2] at q
            exact .inl q
    refine ⟨_, rfl, .ref U, _, I1, rfl, ⟨T, U, xv, yv, rfl, fT, fU, hTU, rfl, fun l hl => by rw [Sq.inj I hl hqx]; exact hx, fun l hl => by rw [Sq.inj I hl hqy]; exact hy⟩, ⟨by omega, hen', hz', hTI', hTO', down _ _ s1', down2 _ _ s2'⟩, fun c hcm => ?_⟩
    · have hcl : c < s.heap.objs.size := by
        rcases List.mem_cons.mp hcm with q | q
        · rw [q]; exact hel
        · exact lts c q
      rw [upd_ne (Nat.ne_of_lt (Nat.lt_of_lt_of_le hcl hUl)), upd_ne (Nat.ne_of_lt (Nat.lt_of_lt_of_le hcl hNT))]
      exact (hf c hcm).1
  done := by
    intro X hP hw hK A hh i pins s σ H E I hf st hg
    subst hP hw hK
    obtain ⟨hle, hen, hz, hTI, hTO, s1, s2⟩ := st
    obtain ⟨hi, xs, ys, hqx, hlx, hqy, hly⟩ := hg
    have nz : i1 ∉ S1.addr := fun q => (D.out _ (.inl q)).2.2.2.1 rfl
    have nz2 : i2 ∉ S2.addr := fun q => (D.out _ (.inr q)).2.2.2.2 rfl
    obtain ⟨fp, Pv, St, D1, hfp, up, down, val⟩ := Sq.draws I hqx (t := t1) nz A.in1.in1 hh
    obtain ⟨fp2, Pv2, St2, D2, hfp2, up2, down2, val2⟩ := Sq.draws I hqy (t := t2) nz2 A.in1.in1 hh
    have Sp := D.sep hfp hfp2
    have TI1 : TI ∉ i1 :: fp := fun q => by
      rcases List.mem_cons.mp q with q | q
      · exact D.TIi1 q
      · exact (D.out _ (.inl (hfp _ q))).2.1 rfl
    have TI2 : TI ∉ i2 :: fp2 := fun q => by
      rcases List.mem_cons.mp q with q | q
      · exact D.TIi2 q
      · exact (D.out _ (.inr (hfp2 _ q))).2.1 rfl
    have Dz := Dr.zi (A := A.in1) Sp TI1 TI2 D1 D2
    have e1 : i = min xs.length ys.length := by omega
    refine en_pyNext_end Dz hen ⟨Nat.le_refl _, hz, hTI, hTO, by rw [← e1]; exact up i s1, by rw [← e1]; exact up2 i s2⟩ fun h' tk k => ⟨rfl, I.turnedL (ch := [e, z, TI, TO, i1, i2]) (fun c o hb q => k c o (fun q' => hb ?_) q) hf⟩
    have : c = z ∨ c = TO ∨ c = i1 ∨ c = i2 := by simpa using q'
    rcases this with r | r | r | r <;> simp [r]
end
end DL
set_option Elab.async false
set_option linter.all false
set_option maxRecDepth 100000
set_option maxHeartbeats 1000000
namespace DL
open PySem
open Sem (wp)
set_option maxHeartbeats 2000000 in
theorem meets_en1 {v : Value} {H : Heap → Prop} {itA : Heap → Addr} {grow : Heap → Heap} (B : ∀ (prog : Program) (w : World) (A : Around) (E : Value → Shared → Prop) (s : Shared) (Q : Value → Shared → Prop), H s.heap → Q (.ref (itA s.heap)) { s with heap := grow s.heap } → wpAny (model prog w) A (pyIter v) Q E s) :
    Meets (Builtin.«enumerate.__new__» ⟨[.type "enumerate", v], []⟩) (fun _ R s => H s.heap ∧
      R (.ok (.ret (.ref (grow s.heap).objs.size))) { s with heap := (grow s.heap).push { cls := .type "enumerate", data := .fields #[.none, .bool false, .ref (itA s.heap), rawInt 0, .none, .none] } }) :=
  .of_wp fun prog w A R s h => by
    obtain ⟨hp, g, d, tk, os⟩ := s; obtain ⟨h1, h⟩ := h
    have hsub := sub_enumerate
    have q1 : ∀ {A' : Around} {E : Value → Shared → Prop} {Q : Value → Shared → Prop}, Q (.ref (itA hp)) ⟨grow hp, g, d, tk, os⟩ → wpAny (model prog w) A' (pyIter v) Q E ⟨hp, g, d, tk, os⟩ :=
      fun q => B prog w _ _ ⟨hp, g, d, tk, os⟩ _ h1 q
    wp_walk using q1
    refine wpAny_stack_any fun st => wpAny_pure ?_
    split
    · rename_i c _ _ _ _ _
      cases (c == Value.type "enumerate")
      · wp_walk using q1
        exact ⟨_, rfl, h⟩
      · wp_walk using q1
        exact ⟨_, rfl, h⟩
    · wp_walk using q1
      exact ⟨_, rfl, h⟩
section
variable {prog : Program} {w : World} {A : Around} {E : Value → Shared → Prop} {s : Shared}
theorem en_begins {v : Value} {H : Heap → Prop} {itA : Heap → Addr} {grow : Heap → Heap} {Q : Value → Shared → Prop} (B : ∀ (prog : Program) (w : World) (A : Around) (E : Value → Shared → Prop) (s : Shared) (Q : Value → Shared → Prop), H s.heap → Q (.ref (itA s.heap)) { s with heap := grow s.heap } → wpAny (model prog w) A (pyIter v) Q E s) (h1 : H s.heap)
    (h : ∀ h', EnA h' (grow s.heap).objs.size (itA s.heap) ((0 : Nat) : Int) → h'.objs.size = (grow s.heap).objs.size + 1 →
      (∀ b o, (grow s.heap).get? b = some o → h'.get? b = some o) → Q (.ref (grow s.heap).objs.size) { s with heap := h' }) :
    wpAny (model prog w) A (call (.type "enumerate") [v]) Q E s := by
  refine callType_new F.called_enumerate (by decide) (F.typeCall_enumerate_1 _) (F.newCall_enumerate_1 _) (fun obj => F.args_object_init_2 obj _) F.entry_enumerate_new (meets_en1 B) ⟨h1, ?_⟩
  have he : ((grow s.heap).push { cls := .type "enumerate", data := .fields #[.none, .bool false, .ref (itA s.heap), rawInt 0, .none, .none] }).get? (grow s.heap).objs.size = some (enObj .none false (itA s.heap) 0 .none) := Heap.get?_push_size _ rfl
  show _ ∧ _
  exact ⟨⟨_, he, rfl⟩, h _ ⟨_, _, _, .inl rfl, he⟩ (by rw [Heap.size_push]) fun b o x => Heap.get?_push_of_some _ x⟩
end
open PySem.Spec PyProof.Rows L2
def iEn (K : PySem.W.Frag) (ta : TA) : TI := fun σ H R => ta σ H fun vs H1 => ∃ (S : Sq) (xs : List V), vs = [S.v] ∧ S.its K H1 xs ∧ R (Jen K S xs.length) H1
theorem pi_en {X : Cx} {tg e : Expr} {ta : TA} {p pos : Pos} (hg : Gl X "enumerate") (hm : X.mg "enumerate" = none) (ha : PA X [e] ta) (hs : starEach [e] X.env = [(false, eval e X.env)] := by rfl) :
    PI X tg (.Call (.Name "enumerate" p) [e] [] pos) (iEn X.K ta) := by
  refine ⟨fun pins s σ H R I h => ?_⟩
  refine Call_ (ld_blt I hg hm boot_enumerate (PyProof.Rows.callWith_type1 (thn (ha.run pos pins s σ H _ I h) fun us s1 ⟨vs, H1, I1, r1, q1⟩ => ?_) hs rfl))
  obtain ⟨S, xs, rfl, hq, q⟩ := q1
  obtain ⟨u, rfl, ru⟩ := vals1 r1
  obtain ⟨t, rfl⟩ := Sq.rel ru
  obtain ⟨Hp, B, hHp⟩ := Sq.begins I1 hq t
  have lt := Sq.addr_lt I1 hq
  refine en_begins (itA := fun h => h.objs.size) (grow := fun h => h.push (S.obj t)) (fun prog w A E s Q h q => B.iter prog w A E s Q h q) hHp fun h' he hsz hk => ?_
  have hz : (s1.heap.push (S.obj t)).objs.size = s1.heap.objs.size + 1 := Heap.size_push ..
  simp only [hz] at he hsz hk ⊢
  refine iter_en he ?_
  have I2 : Inv X pins σ H1 { s1 with heap := h' } := I1.kept (t' := s1.toks) fun b o e => hk b o (Heap.get?_push_of_some _ e)
  refine ⟨s1.heap.objs.size + 1, [s1.heap.objs.size + 1, s1.heap.objs.size], _, _, H1, rfl, I2, turn_en S t (s1.heap.objs.size + 1) s1.heap.objs.size xs.length (Nat.succ_ne_self _) (fun z => ?_) (fun z => ?_), ⟨Nat.zero_le _, he, Sq.st0 (hk _ _ (Heap.get?_push_size _ B.free))⟩, fun b hb => ?_, q⟩
  · have := lt _ z
    exact absurd this (Nat.not_lt_of_le (Nat.le_succ _))
  · exact absurd (lt _ z) (Nat.lt_irrefl _)
  · have e' : b = s1.heap.objs.size + 1 ∨ b = s1.heap.objs.size := by simpa using hb
    have hle : s1.heap.objs.size ≤ b := by
      rcases e' with z | z
      · rw [z]; exact Nat.le_add_right _ _
      · rw [z]; exact Nat.le_refl _
    exact I1.fpOk hle (I1.hok.fresh hle)
def iZi (K : PySem.W.Frag) (ta : TA) : TI := fun σ H R => ta σ H fun vs H1 => ∃ (S1 S2 : Sq) (xs ys : List V), vs = [S1.v, S2.v] ∧ S1.its K H1 xs ∧ S2.its K H1 ys ∧ R (Jzi K S1 S2 xs.length ys.length) H1
/-- a zip is begun -/
theorem zi_begun {X : Cx} {pins : List (Addr × Obj)} {σ : L2.St} {H : Hp} {s : Shared} (I : Inv X pins σ H s) {S1 S2 : Sq} {xs ys : List V} (h1 : S1.its X.K H xs) (h2 : S2.its X.K H ys) (t1 t2 : Tok) {A : Around} {E : Value → Shared → Prop} {Q : Value → Shared → Prop}
    (hQ : ∀ h', ZiAp S1 S2 (s.heap.objs.size + 4) (s.heap.objs.size + 2) (s.heap.objs.size + 3) s.heap.objs.size (s.heap.objs.size + 1) → ZiSt S1 S2 t1 t2 (s.heap.objs.size + 4) (s.heap.objs.size + 2) (s.heap.objs.size + 3) s.heap.objs.size (s.heap.objs.size + 1) 0 h' → h'.objs.size = s.heap.objs.size + 5 →
      (∀ c o, s.heap.get? c = some o → h'.get? c = some o) → Q (.ref (s.heap.objs.size + 4)) { s with heap := h' }) : wpAny (model X.prog X.w) A (call (.type "zip") [S1.val t1, S2.val t2]) Q E s := by
  obtain ⟨Hp1, B1, hHp1⟩ := Sq.begins I h1 t1
  obtain ⟨Hp2, B2, hHp2⟩ := Sq.begins I h2 t2
  have l1 := Sq.addr_lt I h1
  have l2 := Sq.addr_lt I h2
  refine zip_begins2 B1 B2 hHp1 hHp2 fun h' hz hTI hTO g1 g2 hsz hk => hQ h' ?_ ⟨⟨_, _, .inl rfl, hz⟩, hTI, ⟨_, _, hTO⟩, Sq.st0 g1, Sq.st0 g2⟩ hsz hk
  generalize s.heap.objs.size = N at *
  have l3 : ∀ b, b ∈ S1.addr ∨ b ∈ S2.addr → b < N := fun b hb => hb.elim (l1 b) (l2 b)
  have ne : ∀ (i j : Nat), i ≠ j → ((N : Nat) + i : Nat) ≠ N + j := fun i j h => by omega
  refine ⟨ne 2 4 (by decide), ne 3 4 (by decide), ne 2 3 (by decide), ne 2 0 (by decide), ne 2 1 (by decide), ne 4 0 (by decide), ne 4 1 (by decide), ne 3 0 (by decide), ne 3 1 (by decide), ne 0 1 (by decide), fun b hb => ?_⟩
  have := l3 b hb
  have lt : ∀ i : Nat, b ≠ N + i := fun i => Nat.ne_of_lt (Nat.lt_of_lt_of_le this (Nat.le_add_right _ _))
  exact ⟨lt 4, lt 2, lt 3, lt 0, lt 1⟩
theorem pi_zi {X : Cx} {tg e e2 : Expr} {ta : TA} {p pos : Pos} (hg : Gl X "zip") (hm : X.mg "zip" = none) (ha : PA X [e, e2] ta)
    (hs : starEach [e, e2] X.env = (false, eval e X.env) :: starEach [e2] X.env := by rfl) (hpl : (backTo pos (starEach [e2] X.env)).any (·.1) = false := by rfl) :
    PI X tg (.Call (.Name "zip" p) [e, e2] [] pos) (iZi X.K ta) := by
  refine ⟨fun pins s σ H R I h => ?_⟩
  refine Call_ (ld_blt I hg hm PyProof.Rows.boot_zip (PyProof.Rows.callWith_type1 (thn (ha.run pos pins s σ H _ I h) fun us s1 ⟨vs, H1, I1, r1, q1⟩ => ?_) hs hpl))
  obtain ⟨S1, S2, xs, ys, rfl, h1, h2, q⟩ := q1
  obtain ⟨u1, u2, rfl, ru1, ru2⟩ := vals2 r1
  obtain ⟨t1, rfl⟩ := Sq.rel ru1
  obtain ⟨t2, rfl⟩ := Sq.rel ru2
  refine zi_begun I1 h1 h2 t1 t2 fun h' D st hsz hk => iter_zi st.1 ?_
  have I2 : Inv X pins σ H1 { s1 with heap := h' } := I1.kept (t' := s1.toks) hk
  refine ⟨s1.heap.objs.size + 4, _, _, _, H1, rfl, I2, turn_zi t1 t2 xs.length ys.length D, ⟨Nat.zero_le _, st⟩, fun c hcm => ?_, q⟩
  have e' : c = s1.heap.objs.size + 4 ∨ c = s1.heap.objs.size + 2 ∨ c = s1.heap.objs.size + 3 ∨ c = s1.heap.objs.size ∨ c = s1.heap.objs.size + 1 := by simpa using hcm
  have hle : s1.heap.objs.size ≤ c := by
    rcases e' with z | z | z | z | z
    · rw [z]; exact Nat.le_add_right _ _
    · rw [z]; exact Nat.le_add_right _ _
    · rw [z]; exact Nat.le_add_right _ _
    · rw [z]; exact Nat.le_refl _
    · rw [z]; exact Nat.le_add_right _ _
  exact I1.fpOk hle (I1.hok.fresh hle)
def iEz (K : PySem.W.Frag) (ta : TA) : TI := fun σ H R => ta σ H fun vs H1 => ∃ (S1 S2 : Sq) (xs ys : List V), vs = [S1.v, S2.v] ∧ S1.its K H1 xs ∧ S2.its K H1 ys ∧ R (Jez K S1 S2 xs.length ys.length) H1
section
variable {M : Ghost} {C : Ct M} {W W1 W2 W' : Wd M} {σ : L2.St} {ρ : DEnv} {e : Expr} {we : EW M} {pos p : Pos}
/-- a sequence as a source, for good -/
structure SqD (K : PySem.W.Frag) (W : Wd M) (S : Sq) (vs : List V) (ds : List D) : Prop where
  its : ∀ W', Gs W W' → Wok K W' → S.its K W'.H vs
  rd : RpA K W.F W.R vs ds
theorem sqd_of {K : PySem.W.Frag} {v : V} {d : D} {ds : List D} (k : Wok K W) (r : Rp K W.F W.R v d) (h : itemsOf d = some ds) : ∃ S vs, v = Sq.v S ∧ SqD K W S vs ds := by
  cases d with
  | lst ds' =>
    cases h
    cases r with
    | lst h r2 => exact ⟨.lst _, _, rfl, fun W' g k' => .of (k'.sub _ _ (g.sub _ _ h)), r2⟩
  | tup ds' =>
    cases h
    cases r with
    | tup h r2 => exact ⟨.tup _, _, rfl, fun W' g k' => same_tup k'.sub (same_tup g.sub h), r2⟩
  | str x =>
    cases h
    cases r with
    | str z _ h =>
      subst h
      refine ⟨.str z, z.cps.toList.map fun c => V.str ⟨#[c]⟩, rfl, fun W' g k' => rfl, ?_⟩
      have : ∀ l : List Nat, RpA K W.F W.R (l.map fun c => V.str ⟨#[c]⟩) (l.map fun c => D.str [c]) := fun l => by
        induction l with
        | nil => exact .nil
        | cons c l ih => exact .cons (.str _ _ rfl) ih
      exact this _
  | _ => cases h
theorem SqD.step {K : PySem.W.Frag} {S : Sq} {vs : List V} {ds : List D} (h : SqD K W S vs ds) (g : Go W W1) : SqD K W1 S vs ds := ⟨fun W' g' k' => h.its W' (g.s.trans g') k', h.rd.step g⟩
theorem idx_inj {K : PySem.W.Frag} {S : Sq} {vs : List V} {ds : List D} (h : SqD K W S vs ds) (g : Gs W W1) (k : Wok K W1) {i : Nat} {x : V} {d : D} (hd : ds[i]? = some d) (hx : ∀ xs, S.its K W1.H xs → xs[i]? = some x) : Rp K W1.F W1.R x d := by
  obtain ⟨v, h1, h2⟩ := (h.rd.gs g).get' hd
  have := hx _ (h.its W1 g k)
  rw [h1] at this
  cases this
  exact h2
def enL : Nat → List D → List D
  | _, [] => []
  | n, d :: ds => .tup [.int (n : Nat), d] :: enL (n + 1) ds
theorem enL_get : ∀ (ds : List D) (n i : Nat), (enL n ds)[i]? = (ds[i]?).map fun d => .tup [.int ((n + i : Nat) : Int), d]
  | [], _, _ => by simp [enL]
  | d :: ds, n, 0 => by simp [enL]
  | d :: ds, n, i + 1 => by
    show (enL (n + 1) ds)[i]? = _
    rw [enL_get ds (n + 1) i, show n + 1 + i = n + (i + 1) by omega]
    simp
def zipL (ds es : List D) : List D := (ds.zip es).map fun p => .tup [p.1, p.2]
theorem wk_en {K : PySem.W.Frag} {S : Sq} {vs : List V} {ds : List D} (k0 : Wok K W) (h : SqD K W S vs ds) : WK K W (Jen K S vs.length) (enL 0 ds) where
  go := fun i W1 d g k e => by
    rw [enL_get, Nat.zero_add] at e
    cases hd : ds[i]? with
    | none => rw [hd] at e; cases e
    | some d0 =>
      rw [hd] at e
      cases e
      have hl : i < vs.length := by rw [h.rd.length]; exact (List.getElem?_eq_some_iff.mp hd).1
      refine ⟨⟨hl, vs, h.its W1 g k, rfl⟩, fun x H' y => ?_⟩
      obtain ⟨T, x, rfl, hT, rfl, hx⟩ := y
      have r := idx_inj h g k hd hx
      exact ⟨W1.lay T (.tup [.int (i : Nat), x]), rfl, Go.lay k hT, k.lay hT, rfl, .tup (.of upd_same) (.cons (.int _) (.cons (r.mono (same_new (k.noF hT)) fun _ _ z => z) .nil))⟩
  stop := fun i W1 g k e => by
    rw [enL_get, Nat.zero_add] at e
    refine ⟨?_, vs, h.its W1 g k, rfl⟩
    rw [h.rd.length]
    cases hd : ds[i]? with
    | none => exact List.getElem?_eq_none_iff.mp hd
    | some d0 => rw [hd] at e; cases e
theorem zip_get {ds es : List D} {i : Nat} {d : D} (h : (zipL ds es)[i]? = some d) : ∃ x y, ds[i]? = some x ∧ es[i]? = some y ∧ d = .tup [x, y] := by
  unfold zipL at h
  rw [List.getElem?_map] at h
  cases hz : (ds.zip es)[i]? with
  | none => rw [hz] at h; cases h
  | some p =>
    rw [hz] at h
    cases h
    have := List.getElem?_zip_eq_some.mp hz
    exact ⟨_, _, this.1, this.2, rfl⟩
theorem zip_none {ds es : List D} {i : Nat} (h : (zipL ds es)[i]? = none) : min ds.length es.length ≤ i := by
  have := List.getElem?_eq_none_iff.mp h
  unfold zipL at this
  rw [List.length_map, List.length_zip] at this
  exact this
theorem wk_zi {K : PySem.W.Frag} {S1 S2 : Sq} {vs us : List V} {ds es : List D} (h1 : SqD K W S1 vs ds) (h2 : SqD K W S2 us es) : WK K W (Jzi K S1 S2 vs.length us.length) (zipL ds es) where
  go := fun i W1 d g k e => by
    obtain ⟨x, y, hx, hy, rfl⟩ := zip_get e
    have l1 : i < vs.length := by rw [h1.rd.length]; exact (List.getElem?_eq_some_iff.mp hx).1
    have l2 : i < us.length := by rw [h2.rd.length]; exact (List.getElem?_eq_some_iff.mp hy).1
    refine ⟨⟨by omega, vs, us, h1.its W1 g k, rfl, h2.its W1 g k, rfl⟩, fun v H' yy => ?_⟩
    obtain ⟨T, xv, yv, rfl, hT, rfl, gx, gy⟩ := yy
    have r1 := idx_inj h1 g k hx gx
    have r2 := idx_inj h2 g k hy gy
    exact ⟨W1.lay T (.tup [xv, yv]), rfl, Go.lay k hT, k.lay hT, rfl, .tup (.of upd_same) (.cons (r1.mono (same_new (k.noF hT)) fun _ _ z => z) (.cons (r2.mono (same_new (k.noF hT)) fun _ _ z => z) .nil))⟩
  stop := fun i W1 g k e => ⟨by rw [h1.rd.length, h2.rd.length]; exact zip_none e, vs, us, h1.its W1 g k, rfl, h2.its W1 g k, rfl⟩
theorem wk_ez {K : PySem.W.Frag} {S1 S2 : Sq} {vs us : List V} {ds es : List D} (h1 : SqD K W S1 vs ds) (h2 : SqD K W S2 us es) : WK K W (Jez K S1 S2 vs.length us.length) (enL 0 (zipL ds es)) where
  go := fun i W1 d g k e => by
    rw [enL_get, Nat.zero_add] at e
    cases hd : (zipL ds es)[i]? with
    | none => rw [hd] at e; cases e
    | some d0 =>
      rw [hd] at e
      cases e
      obtain ⟨x, y, hx, hy, rfl⟩ := zip_get hd
      have l1 : i < vs.length := by rw [h1.rd.length]; exact (List.getElem?_eq_some_iff.mp hx).1
      have l2 : i < us.length := by rw [h2.rd.length]; exact (List.getElem?_eq_some_iff.mp hy).1
      refine ⟨⟨by omega, vs, us, h1.its W1 g k, rfl, h2.its W1 g k, rfl⟩, fun v H' yy => ?_⟩
      obtain ⟨T, U, xv, yv, rfl, hT, hU, hTU, rfl, gx, gy⟩ := yy
      have r1 := idx_inj h1 g k hx gx
      have r2 := idx_inj h2 g k hy gy
      have k1 := k.lay (o := .tup [xv, yv]) hT
      have hU1 : (W1.lay T (.tup [xv, yv])).H U = none := (upd_ne (Ne.symm hTU)).trans hU
      have m1 := same_new (o := .tup [xv, yv]) (k.noF hT)
      have m2 := same_new (o := .tup [.int (i : Nat), .ref T]) (k1.noF hU1)
      refine ⟨(W1.lay T (.tup [xv, yv])).lay U (.tup [.int (i : Nat), .ref T]), rfl, (Go.lay k hT).trans (Go.lay k1 hU1), k1.lay hU1, rfl, .tup (.of upd_same) (.cons (.int _) (.cons (.tup (.of (m2 _ _ upd_same)) ?_) .nil))⟩
      exact (RpA.cons (r1.mono m1 fun _ _ z => z) (.cons (r2.mono m1 fun _ _ z => z) .nil)).mono m2 fun _ _ z => z
  stop := fun i W1 g k e => by
    rw [enL_get, Nat.zero_add] at e
    refine ⟨?_, vs, us, h1.its W1 g k, rfl, h2.its W1 g k, rfl⟩
    rw [h1.rd.length, h2.rd.length]
    cases hd : (zipL ds es)[i]? with
    | none => exact zip_none hd
    | some d0 => rw [hd] at e; cases e
@[simp] def wEnum (w : EW M) : IW M := fun ρ g q => w ρ g fun d g' => ∃ ds, itemsOf d = some ds ∧ q (enL 0 ds) g'
@[simp] def wZip (wa wb : EW M) : IW M := fun ρ g q => wa ρ g fun d g1 => wb ρ g1 fun e g2 => ∃ ds es, itemsOf d = some ds ∧ itemsOf e = some es ∧ q (zipL ds es) g2
@[simp] def wEnZip (wa wb : EW M) : IW M := fun ρ g q => wa ρ g fun d g1 => wb ρ g1 fun e g2 => ∃ ds es, itemsOf d = some ds ∧ itemsOf e = some es ∧ q (enL 0 (zipL ds es)) g2
theorem di_enum {tg : Expr} (hm : C.X.mg "enumerate" = none) (he : DE C e we) (hg : Gl C.X "enumerate" := by rfl) (hs : starEach [e] C.X.env = [(false, eval e C.X.env)] := by rfl) (hs2 : starEach [e] C.X.env = (false, eval e C.X.env) :: starEach [] C.X.env := by rfl) :
    DI C tg (.Call (.Name "enumerate" p) [e] [] pos) (wEnum we) := ⟨fun σ ρ W R q S hR hw => iOf_of (pi_en hg hm (pa_cons pe_tOf pa_nil hs2) hs) (he.run σ ρ W _ _ S (fun v d W1 g1 k1 r1 q1 => by
  obtain ⟨ds, hd, q1⟩ := q1
  obtain ⟨S', vs, rfl, sq⟩ := sqd_of k1 r1 hd
  exact ⟨S', vs, rfl, sq.its W1 (Gs.refl _) k1, hR _ _ W1 g1 k1 (wk_en k1 sq) q1⟩) hw)⟩
variable {a b : Expr} {wa wb : EW M} {p2 pos2 : Pos}
theorem di_zip {tg : Expr} (hm : C.X.mg "zip" = none) (ha : DE C a wa) (hb : DE C b wb) (hg : Gl C.X "zip" := by rfl) (hs : starEach [a, b] C.X.env = (false, eval a C.X.env) :: starEach [b] C.X.env := by rfl) (hs2 : starEach [b] C.X.env = (false, eval b C.X.env) :: starEach [] C.X.env := by rfl)
    (hpl : (backTo pos (starEach [b] C.X.env)).any (·.1) = false := by rfl) : DI C tg (.Call (.Name "zip" p) [a, b] [] pos) (wZip wa wb) := ⟨fun σ ρ W R q S hR hw => iOf_of (pi_zi hg hm (pa_cons pe_tOf (pa_cons pe_tOf pa_nil hs2) hs) hs hpl)
  (ha.run σ ρ W _ _ S (fun v d W1 g1 k1 r1 q1 => hb.run σ ρ W1 _ _ (S.step g1 k1) (fun u e W2 g2 k2 r2 q2 => by
  obtain ⟨ds, es, hd, he, q2⟩ := q2
  obtain ⟨S1, vs, rfl, s1⟩ := sqd_of k2 (r1.step g2) hd
  obtain ⟨S2, us, rfl, s2⟩ := sqd_of k2 r2 he
  exact ⟨S1, S2, vs, us, rfl, s1.its W2 (Gs.refl _) k2, s2.its W2 (Gs.refl _) k2, hR _ _ W2 (g1.trans g2) k2 (wk_zi s1 s2) q2⟩) q1) hw)⟩
end
end DL
set_option Elab.async false
set_option linter.all false
set_option maxRecDepth 100000
set_option maxHeartbeats 1000000
namespace DL
open PySem PySem.Spec PyProof.Rows L2
theorem en_no_len : typeLookup (.type "enumerate") "__len__" = pure none := by rw [typeLookup_type, builtinLookup_eq_fast]; kernel_rfl
theorem en_no_hint : typeLookup (.type "enumerate") "__length_hint__" = pure none := by rw [typeLookup_type, builtinLookup_eq_fast]; kernel_rfl
section
variable {X : Cx} {pins : List (Addr × Obj)} {σ : L2.St}
/-- an untracked list S is tracked at last -/
theorem track {H : Hp} {s : Shared} {S : Addr} {vs : List V} {us : List Value} {c : Nat} (I : Inv X pins σ H s) (hf : FpOk X pins H S) (hz : vs.length ≤ sizeLine) (r : Vals vs us) (hS : s.heap.get? S = some { cls := .type "list", dict := none, data := .seq us.toArray c, slots := #[] }) :
    Inv X pins σ (upd H S (.lst vs)) s := by
  have hn := hf.1
  refine I.step (g' := s.gens) (d' := s.drawn) (t' := s.toks) (h' := s.heap) (ch := [S]) (fun b hb => by rw [List.mem_singleton.mp hb]; exact ⟨hf.2.2.2.1, hf.2.1, hf.2.2.2.2.1, hf.2.2.2.2.2⟩) (fun b o _ _ _ e _ => e) (fun b o _ _ _ e _ => ⟨o.slots, e⟩)
    (fun b o hb e n => ?_) (fun b o _ e => ⟨o, e⟩) (fun b xs e => ?_) (fun b o u e => ?_) (fun b ps e => ⟨#[], ?_⟩) (fun m hm => hm) (fun b u e => ?_) I.bare
  · rw [upd_ne (fun z => hb (by simp [z]))]; exact n
  · rw [upd_ne (ne_of_none e hn)]; exact e
  · rw [upd_ne (ne_of_none e hn)]; exact e
  · rw [upd_ne (ne_of_none e hn), e]; simp
  · by_cases hb : b = S
    · subst hb
      rw [upd_same] at e
      cases e
      exact ⟨hz, us, c, r, hS⟩
    · rw [upd_ne hb] at e
      exact (I.hok b u e).stay (fun c v hc q => q) (fun c q => by rw [upd_ne (ne_of_none q hn)]; exact q) fun c xs q => by rw [upd_ne (ne_of_none q hn)]; exact q
theorem fpAt {H H' : Hp} {b : Addr} (h : FpOk X pins H b) (n : H' b = none) : FpOk X pins H' b := ⟨n, h.2⟩
/-- the turns of list.extend -/
theorem ext_loop {J : It} {fp : List Addr} {it : Addr} {tn : Nat → Heap → Prop} {n : Nat} (p : Pull X.prog X.w X.K J fp it tn) {A : Around} (hh : A.handled = none) {S : Addr} (hSf : S ∉ fp) (res : Value) (Good : Nat → Hp → List V → Prop)
    (go : ∀ i H vs, Good i H vs → i < n → J.go i H ∧ ∀ x H', J.yld i H x H' → Good (i + 1) H' (vs ++ [x])) (stop : ∀ H vs, Good n H vs → J.stop n H) (hn : n ≤ sizeLine) {R : Result → Shared → Prop} :
    ∀ (k i : Nat) (s : Shared) (H : Hp) (vs : List V) (us : List Value) (c : Nat), n - i = k → i ≤ n → Good i H vs → Inv X pins σ H s → (∀ b ∈ fp, FpOk X pins H b) → FpOk X pins H S → tn i s.heap → s.heap.get? S = some { cls := .type "list", dict := none, data := .seq us.toArray c, slots := #[] } → Vals vs us → vs.length = i →
    (∀ s' H' vs' us' c', Good n H' vs' → Inv X pins σ H' s' → FpOk X pins H' S → s'.heap.get? S = some { cls := .type "list", dict := none, data := .seq us'.toArray c', slots := #[] } → Vals vs' us' → vs'.length = n → R (.ok (.ret res)) s') →
    codeAny (model X.prog X.w) A (.builtin "list.extend.loop" ⟨[.ref S, .ref it, res], []⟩) R s := by
  intro k
  induction k with
  | zero =>
    intro i s H vs us c hk hi hg I hf hfS st hS rv hl hR
    have hin : i = n := by omega
    subst hin
    refine codeAny_builtin PySem.F.entry_extend_loop ?_
    rw [Around.under_plainId PySem.F.plain_extend_loop _]
    show wpAny _ A.in1 (pyNext (.ref it) >>= _) _ _ s
    have keepS : ∀ s', Inv X pins σ H s' → True := fun _ _ => trivial
    -- the end does not touch S: S is pinned
    have hS0 := hS
    have Ip : Inv X ((S, { cls := .type "list", dict := none, data := .seq us.toArray c, slots := #[] }) :: pins) σ H s := by
      refine ⟨I.ok, I.os, I.bare, I.base, I.loc, I.cell, I.free, I.freeC, fun q hq => ?_, I.hok, I.len⟩
      rcases List.mem_append.mp hq with hq | hq
      · exact I.pin q (List.mem_append_left _ hq)
      · rcases List.mem_cons.mp hq with rfl | hq
        · exact ⟨hS, hfS.1, hfS.2.1, hfS.2.2.1, fun v z => nomatch z⟩
        · exact I.pin q (List.mem_append_right _ hq)
    have hf' : ∀ b ∈ fp, FpOk X ((S, { cls := .type "list", dict := none, data := .seq us.toArray c, slots := #[] }) :: pins) H b := fun b hb => by
      obtain ⟨f0, f1, f2, f3, f4, f5⟩ := hf b hb
      refine ⟨f0, f1, f2, f3, f4, fun q hq => ?_⟩
      rcases List.mem_append.mp hq with hq | hq
      · exact f5 q (List.mem_append_left _ hq)
      · rcases List.mem_cons.mp hq with rfl | hq
        · exact fun z => hSf ((show S = b from z) ▸ hb)
        · exact f5 q (List.mem_append_right _ hq)
    refine wpAny_bind (thn (p.done X rfl rfl rfl A.in1 hh i _ s σ H _ Ip hf' st (stop H vs hg)) fun r s' ⟨hr, I'⟩ => ?_)
    subst hr
    have hS' := (I'.pin (S, { cls := .type "list", dict := none, data := .seq us.toArray c, slots := #[] }) (List.mem_append_right _ List.mem_cons_self)).1
    have I2 : Inv X pins σ H s' := ⟨I'.ok, I'.os, I'.bare, I'.base, I'.loc, I'.cell, I'.free, I'.freeC, fun q hq => I'.pin q (by
      rcases List.mem_append.mp hq with hq | hq
      · exact List.mem_append_left _ hq
      · exact List.mem_append_right _ (List.mem_cons_of_mem _ hq)), I'.hok, I'.len⟩
    exact wpAny_pure (hR s' H vs us c hg I2 hfS hS' rv hl)
  | succ k ih =>
    intro i s H vs us c hk hi hg I hf hfS st hS rv hl hR
    have hlt : i < n := by omega
    refine codeAny_builtin PySem.F.entry_extend_loop ?_
    rw [Around.under_plainId PySem.F.plain_extend_loop _]
    show wpAny _ A.in1 (pyNext (.ref it) >>= _) _ _ s
    have Ip : Inv X ((S, { cls := .type "list", dict := none, data := .seq us.toArray c, slots := #[] }) :: pins) σ H s := by
      refine ⟨I.ok, I.os, I.bare, I.base, I.loc, I.cell, I.free, I.freeC, fun q hq => ?_, I.hok, I.len⟩
      rcases List.mem_append.mp hq with hq | hq
      · exact I.pin q (List.mem_append_left _ hq)
      · rcases List.mem_cons.mp hq with rfl | hq
        · exact ⟨hS, hfS.1, hfS.2.1, hfS.2.2.1, fun v z => nomatch z⟩
        · exact I.pin q (List.mem_append_right _ hq)
    have hf' : ∀ b ∈ fp, FpOk X ((S, { cls := .type "list", dict := none, data := .seq us.toArray c, slots := #[] }) :: pins) H b := fun b hb => by
      obtain ⟨f0, f1, f2, f3, f4, f5⟩ := hf b hb
      refine ⟨f0, f1, f2, f3, f4, fun q hq => ?_⟩
      rcases List.mem_append.mp hq with hq | hq
      · exact f5 q (List.mem_append_left _ hq)
      · rcases List.mem_cons.mp hq with rfl | hq
        · exact fun z => hSf ((show S = b from z) ▸ hb)
        · exact f5 q (List.mem_append_right _ hq)
    obtain ⟨jg, jy⟩ := go i H vs hg hlt
    refine wpAny_bind (thn (p.item X rfl rfl rfl A.in1 hh i _ s σ H _ Ip hf' st jg) fun r s' ⟨u, hr, x, H', I', rel, y, st', fn⟩ => ?_)
    subst hr
    have hS' := (I'.pin (S, { cls := .type "list", dict := none, data := .seq us.toArray c, slots := #[] }) (List.mem_append_right _ List.mem_cons_self)).1
    have I2 : Inv X pins σ H' s' := ⟨I'.ok, I'.os, I'.bare, I'.base, I'.loc, I'.cell, I'.free, I'.freeC, fun q hq => I'.pin q (by
      rcases List.mem_append.mp hq with hq | hq
      · exact List.mem_append_left _ hq
      · exact List.mem_append_right _ (List.mem_cons_of_mem _ hq)), I'.hok, I'.len⟩
    have hg' := jy x H' y
    have nS := (I'.pin (S, { cls := .type "list", dict := none, data := .seq us.toArray c, slots := #[] }) (List.mem_append_right _ List.mem_cons_self)).2.1
    have hfS' : FpOk X pins H' S := fpAt hfS nS
    show wpAny _ A.in1 (updateSeq S (·.push u) >>= _) _ _ _
    refine wpAny_bind ?_
    have hsz : us.toArray.size = i := by rw [List.size_toArray, ← rv.length, hl]
    have hS5 : ∃ c', (s'.heap.update S (Obj.mapSeq (·.push u))).get? S = some { cls := .type "list", dict := none, data := .seq (us ++ [u]).toArray c', slots := #[] } := by
      have := Heap.get?_update_self (Obj.mapSeq (·.push u)) hS' rfl
      rw [this]
      simp [Obj.mapSeq]
    obtain ⟨c5, hS5⟩ := hS5
    refine wpAny_updateSeq hS' rfl (wpAny_pure ⟨plainId_quiet PySem.F.plain_extend_loop _, ih (i + 1) _ H' (vs ++ [x]) (us ++ [u]) c5 (by omega) hlt hg' ?_ (fun b hb => fpAt (hf b hb) (fn b hb)) hfS' (p.keep _ _ _ st' fun b hb o e => ?_) hS5 (rv.append (.cons rel .nil)) (by rw [List.length_append, hl]; rfl) hR⟩)
      (by rw [hsz]; omega) (by show (us.toArray.push u).size ≤ sizeLine + 1; rw [Array.size_push, hsz]; omega)
    · exact I2.turnedL (t' := s'.toks) (ch := [S]) (fun b o hb e => (Heap.get?_update_other _ _ (fun h : S = b => hb (by rw [h]; exact List.mem_singleton_self _))).trans e) fun b hb => by rw [List.mem_singleton.mp hb]; exact hfS'
    · exact (Heap.get?_update_other _ _ (fun h : S = b => hSf (by rw [h]; exact hb))).trans e
theorem list_pull {H : Hp} {s : Shared} {T : String} {J : It} {fp : List Addr} {it : Addr} {tn : Nat → Heap → Prop} {n : Nat} (I : Inv X pins σ H s) (p : Pull X.prog X.w X.K J fp it tn) (hf : ∀ b ∈ fp, FpOk X pins H b) (st : tn 0 s.heap)
    (self : ∀ (A : Around) (i : Nat) (s : Shared) (Q : Value → Shared → Prop) (E : Value → Shared → Prop), tn i s.heap → Q (.ref it) s → wpAny (model X.prog X.w) A (pyIter (.ref it)) Q E s) (ty : ∀ i (s : Shared), tn i s.heap → s.TypeIs (.ref it) T)
    (n1 : (Value.type T == Value.type "list") = false) (n2 : (Value.type T == Value.type "tuple") = false) (no1 : typeLookup (.type T) "__len__" = pure none) (no2 : typeLookup (.type T) "__length_hint__" = pure none)
    (Good : Nat → Hp → List V → Prop) (g0 : Good 0 H []) (go : ∀ i H vs, Good i H vs → i < n → J.go i H ∧ ∀ x H', J.yld i H x H' → Good (i + 1) H' (vs ++ [x]))
    (stop : ∀ H vs, Good n H vs → J.stop n H) (hn : n ≤ sizeLine) {A : Around} (hh : A.handled = none) {Q : Value → Shared → Prop} {E : Value → Shared → Prop}
    (hQ : ∀ D H' vs s', Good n H' vs → H' D = none → vs.length = n → Inv X pins σ (upd H' D (.lst vs)) s' → Q (.ref D) s') : wpAny (model X.prog X.w) A (call (.type "list") [.ref it]) Q E s := by
  have hSf : s.heap.objs.size ∉ fp := fun hm => by
    obtain ⟨o, e, _⟩ := p.obj 0 _ st _ hm
    exact Nat.lt_irrefl _ (Heap.lt_size e)
  have hSi : s.heap.objs.size ≠ it := fun e => hSf (e ▸ p.mem)
  refine callType_codes (Q₁ := fun obj s₁ => obj = .ref s.heap.objs.size ∧ s₁ = { s with heap := s.heap.push { cls := .type "list", data := .seq #[] } }) PySem.F.called_list (PySem.F.typeCall_list_1 _) PySem.F.entry_list_init
    (code_list_new _ ⟨rfl, rfl⟩) fun obj s₁ h₁ => ?_
  obtain ⟨rfl, rfl⟩ := h₁
  have hS : (s.heap.push { cls := .type "list", data := .seq #[] }).get? s.heap.objs.size = some { cls := .type "list", data := .seq #[] } := Heap.get?_push_size _ rfl
  refine ⟨⟨_, hS, rfl⟩, PySem.F.args_list_init_2 _ _, ?_⟩
  have I1 : Inv X pins σ H { s with heap := s.heap.push { cls := .type "list", data := .seq #[] } } := I.kept (t' := s.toks) fun b o e => Heap.get?_push_of_some _ e
  have fS : FpOk X pins H s.heap.objs.size := I.fpOk (Nat.le_refl _) (I.hok.fresh (Nat.le_refl _))
  have stAt : ∀ h', (∀ b o, b ≠ s.heap.objs.size → (s.heap.push { cls := .type "list", data := .seq #[] }).get? b = some o → h'.get? b = some o) → tn 0 h' := fun h' k => p.keep _ _ _ st fun b hb o e => k b o (fun z => hSf (z ▸ hb)) (Heap.get?_push_of_some _ e)
  have invAt : ∀ h', (∀ b o, b ≠ s.heap.objs.size → (s.heap.push { cls := .type "list", data := .seq #[] }).get? b = some o → h'.get? b = some o) → Inv X pins σ H { s with heap := h' } := fun h' k =>
    Inv.turnedL (s := { s with heap := s.heap.push { cls := .type "list", data := .seq #[] } }) (h' := h') I1 (t' := s.toks) (ch := [s.heap.objs.size]) (fun b o hb e => k b o (fun z => hb (by simp [z])) e) fun b hb => by rw [List.mem_singleton.mp hb]; exact fS
  show wpAny _ _ (do let old ← Builtin.List.listItems (.ref s.heap.objs.size); Builtin.List.listUpdate (.ref s.heap.objs.size) (fun _ => #[]); letGo old.toList.reverse; Builtin.List.listExtendWith (.ref s.heap.objs.size) (.ref it) .none) _ _ _
  refine wpAny_bind ?_
  unfold Builtin.List.listItems
  refine wpAny_bind (wpAny_seqItems hS rfl (wpAny_pure ?_))
  show wpAny _ _ (updateSeq s.heap.objs.size (fun _ => #[]) >>= fun _ => letGo (#[] : Array Value).toList.reverse >>= fun _ => Builtin.List.listExtendWith (.ref s.heap.objs.size) (.ref it) .none) _ _ _
  refine wpAny_bind (wpAny_updateSeq hS rfl ?_)
  have hS₂ := Heap.get?_update_self (Obj.mapSeq (fun _ => (#[] : Array Value))) hS rfl
  have oth : ∀ b o, b ≠ s.heap.objs.size → (s.heap.push { cls := .type "list", data := .seq #[] }).get? b = some o → ((s.heap.push { cls := .type "list", data := .seq #[] }).update s.heap.objs.size (Obj.mapSeq (fun _ => (#[] : Array Value)))).get? b = some o :=
    fun b o hb e => (Heap.get?_update_other _ _ (Ne.symm hb)).trans e
  generalize hh2 : (s.heap.push { cls := .type "list", data := .seq #[] }).update s.heap.objs.size (Obj.mapSeq (fun _ => (#[] : Array Value))) = h2 at hS₂ oth
  refine wpAny_bind (wpAny_letGo ?_)
  unfold Builtin.List.listExtendWith
  have st2 := stAt h2 oth
  refine wpAny_bind (wpAny_typeOf (ty 0 _ st2) ?_)
  have h1 : Builtin.List.listSameRef (.ref s.heap.objs.size) (.ref it) = false := by simp [Builtin.List.listSameRef, hSi]
  simp only [h1, n1, n2, Bool.or_false, Bool.false_eq_true, if_false]
  refine wpAny_bind (self _ 0 _ _ _ st2 ?_)
  refine wpAny_bind (wpAny_holding ?_)
  unfold Builtin.List.listLengthHint
  refine wpAny_bind (wpAny_specialOf (ty 0 _ st2) no1 ?_)
  show wpAny _ _ (specialOf (Value.ref it) (Str.ofString "__length_hint__") >>= _) _ _ _
  refine wpAny_bind (wpAny_specialOf (ty 0 _ st2) no2 ?_)
  refine wpAny_pure ?_
  show wpAny _ _ (rule "list.extend.makes-room" >>= fun _ => Builtin.List.listTouch (.ref s.heap.objs.size) >>= fun _ => again (.builtin "list.extend.loop" ⟨[.ref s.heap.objs.size, .ref it, .none], []⟩)) _ _ _
  refine wpAny_bind (wpAny_rule ?_)
  refine wpAny_bind ?_
  show wpAny _ _ (updateSeq s.heap.objs.size (·.push .none) >>= fun _ => updateSeq s.heap.objs.size (·.pop)) _ _ _
  refine wpAny_bind (wpAny_updateSeq hS₂ rfl ?_)
  have hS₃ := Heap.get?_update_self (Obj.mapSeq (·.push Value.none)) hS₂ rfl
  refine wpAny_updateSeq (hz := by seq_fits) hS₃ rfl ?_
  have hS₄ := Heap.get?_update_self (Obj.mapSeq (·.pop)) hS₃ rfl
  have oth4 : ∀ b o, b ≠ s.heap.objs.size → (s.heap.push { cls := .type "list", data := .seq #[] }).get? b = some o → ((h2.update s.heap.objs.size (Obj.mapSeq (·.push Value.none))).update s.heap.objs.size (Obj.mapSeq (·.pop))).get? b = some o :=
    fun b o hb e => (Heap.get?_update_other _ _ (Ne.symm hb)).trans ((Heap.get?_update_other _ _ (Ne.symm hb)).trans (oth b o hb e))
  refine wpAny_pure ⟨plainId_quiet PySem.F.plain_extend_loop _, ?_⟩
  have I4 := invAt _ oth4
  refine ext_loop (n := n) p (A := A.in1) (show A.in1.handled = none from hh) hSf .none Good go stop hn _ 0 _ H [] [] _ rfl (Nat.zero_le _) g0 I4 hf fS (stAt _ oth4) hS₄ .nil rfl fun s' H' vs' us' c' hg' I' fS' hS' rv hl => ?_
  exact ⟨rfl, hQ _ H' vs' s' hg' fS'.1 hl (track I' fS' (by rw [hl]; exact hn) rv hS')⟩
end
def PullE (X : Cx) (pins : List (Addr × Obj)) (σ : L2.St) (R : It → Hp → Prop) (v : Value) (s2 : Shared) : Prop :=
  ∃ (T : String) (it : Addr) (fp : List Addr) (tn : Nat → Heap → Prop) (J : It) (H' : Hp), v = .ref it ∧ Inv X pins σ H' s2 ∧ Pull X.prog X.w X.K J fp it tn ∧ tn 0 s2.heap ∧ (∀ b ∈ fp, FpOk X pins H' b) ∧ R J H' ∧
    (∀ (A : Around) (i : Nat) (s : Shared) (Q : Value → Shared → Prop) (E : Value → Shared → Prop), tn i s.heap → Q (.ref it) s → wpAny (model X.prog X.w) A (pyIter (.ref it)) Q E s) ∧ (∀ i (s : Shared), tn i s.heap → s.TypeIs (.ref it) T) ∧
    (Value.type T == Value.type "list") = false ∧ (Value.type T == Value.type "tuple") = false ∧ typeLookup (.type T) "__len__" = pure none ∧ typeLookup (.type T) "__length_hint__" = pure none
structure PJ (X : Cx) (iter : Expr) (wi : TI) : Prop where
  run : ∀ (pins : List (Addr × Obj)) (s : Shared) (σ : L2.St) (H : Hp) (R : It → Hp → Prop), Inv X pins σ H s → wi σ H R → wpAny (model X.prog X.w) X.A (eval iter X.env) (PullE X pins σ R) X.xe s
theorem pj_ez {X : Cx} {e e2 : Expr} {ta : TA} {p pos p2 pos2 : Pos} (hge : Gl X "enumerate") (hme : X.mg "enumerate" = none) (hg : Gl X "zip") (hm : X.mg "zip" = none) (ha : PA X [e, e2] ta)
    (hse : starEach [.Call (.Name "zip" p2) [e, e2] [] pos2] X.env = (false, eval (.Call (.Name "zip" p2) [e, e2] [] pos2) X.env) :: starEach [] X.env := by rfl)
    (hs : starEach [e, e2] X.env = (false, eval e X.env) :: starEach [e2] X.env := by rfl) (hpl : (backTo pos2 (starEach [e2] X.env)).any (·.1) = false := by rfl) :
    PJ X (.Call (.Name "enumerate" p) [.Call (.Name "zip" p2) [e, e2] [] pos2] [] pos) (iEz X.K ta) := by
  refine ⟨fun pins s σ H R I h => ?_⟩
  refine Call_ (ld_blt I hge hme boot_enumerate (PyProof.Rows.callWith_type1 (args_cons ?_ hse) hse rfl))
  refine Call_ (ld_blt I hg hm PyProof.Rows.boot_zip (PyProof.Rows.callWith_type1 (thn (ha.run pos2 pins s σ H _ I h) fun us s1 ⟨vs, H1, I1, r1, q1⟩ => ?_) hs hpl))
  obtain ⟨S1, S2, xs, ys, rfl, h1, h2, q⟩ := q1
  obtain ⟨u1, u2, rfl, ru1, ru2⟩ := vals2 r1
  obtain ⟨t1, rfl⟩ := Sq.rel ru1
  obtain ⟨t2, rfl⟩ := Sq.rel ru2
  have l1 := Sq.addr_lt I1 h1
  have l2 := Sq.addr_lt I1 h2
  refine zi_begun I1 h1 h2 t1 t2 fun h' D st hsz hk => ?_
  refine args_nil ?_
  refine en_begins (H := fun h => ZiA h (s1.heap.objs.size + 4) (s1.heap.objs.size + 2) (s1.heap.objs.size + 3)) (itA := fun _ => s1.heap.objs.size + 4) (grow := fun h => h) (fun prog w A E s Q h q => iter_zi h q) st.1 fun h'' he hsz2 hk2 => ?_
  replace hk2 : ∀ b o, h'.get? b = some o → h''.get? b = some o := hk2
  replace he : EnA h'' h'.objs.size (s1.heap.objs.size + 4) ((0 : Nat) : Int) := he
  show PullE X pins σ R (.ref h'.objs.size) _
  rw [hsz] at he ⊢
  have I2 : Inv X pins σ H1 { s1 with heap := h'' } := I1.kept (t' := s1.toks) fun b o e => hk2 b o (hk b o e)
  have ne : ∀ (i j : Nat), i ≠ j → (s1.heap.objs.size + i : Nat) ≠ s1.heap.objs.size + j := fun i j h => by omega
  refine ⟨"enumerate", s1.heap.objs.size + 5, _, _, _, H1, rfl, I2, pull_ez t1 t2 xs.length ys.length (s1.heap.objs.size + 5) D ⟨ne 5 4 (by decide), ne 5 2 (by decide), ne 5 3 (by decide), ne 5 0 (by decide), ne 5 1 (by decide)⟩ (fun b hb => Nat.ne_of_lt (Nat.lt_of_lt_of_le (hb.elim (l1 b) (l2 b)) (Nat.le_add_right _ _))),
    ⟨Nat.zero_le _, he, st.keep fun b _ o e => hk2 b o e⟩, fun c hcm => ?_, q, fun A i s Q E st h => iter_en st.2.1 h, fun i s st => ?_, rfl, rfl, en_no_len, en_no_hint⟩
  · have hle : s1.heap.objs.size ≤ c := by
      have e' : c = s1.heap.objs.size + 5 ∨ c = s1.heap.objs.size + 4 ∨ c = s1.heap.objs.size + 2 ∨ c = s1.heap.objs.size + 3 ∨ c = s1.heap.objs.size ∨ c = s1.heap.objs.size + 1 := by simpa using hcm
      rcases e' with z | z | z | z | z | z
      · rw [z]; exact Nat.le_add_right _ _
      · rw [z]; exact Nat.le_add_right _ _
      · rw [z]; exact Nat.le_add_right _ _
      · rw [z]; exact Nat.le_add_right _ _
      · rw [z]; exact Nat.le_refl _
      · rw [z]; exact Nat.le_add_right _ _
    exact I1.fpOk hle (I1.hok.fresh hle)
  · obtain ⟨_, ⟨_, _, _, _, q⟩, _⟩ := st
    exact ⟨_, q, rfl⟩
/-- list(iterator) -/
def tLI (wi : TI) : TE := fun σ H Q => wi σ H fun J H1 => ∃ (n : Nat) (Good : Nat → Hp → List V → Prop), Good 0 H1 [] ∧ (∀ i H vs, Good i H vs → i < n → J.go i H ∧ ∀ x H', J.yld i H x H' → Good (i + 1) H' (vs ++ [x])) ∧ (∀ H vs, Good n H vs → J.stop n H) ∧ n ≤ sizeLine ∧
  ∀ D H' vs, Good n H' vs → H' D = none → vs.length = n → Q (.ref D) (upd H' D (.lst vs))
theorem pe_listI {X : Cx} {e : Expr} {wi : TI} {p pos : Pos} (hc : X.calm = true) (hg : Gl X "list") (hm : X.mg "list" = none) (hj : PJ X e wi) (hs : starEach [e] X.env = (false, eval e X.env) :: starEach [] X.env := by rfl) :
    PE X (.Call (.Name "list" p) [e] [] pos) (tLI wi) := by
  refine ⟨fun pins s σ H Q I h => ?_⟩
  refine Call_ (ld_blt I hg hm boot_list (PyProof.Rows.callWith_type1 (args_cons (thn (hj.run pins s σ H _ I h) fun v s1 x => ?_) hs) hs rfl))
  obtain ⟨T, it, fp, tn, J, H1, rfl, I1, P, st, hf, ⟨n, Good, g0, go, stop, hn, q⟩, self, ty, n1, n2, l1, l2⟩ := x
  refine args_nil ?_
  exact list_pull I1 P hf st self ty n1 n2 l1 l2 Good g0 go stop hn (I1.ok.hd hc) fun D H' vs s' hg' hD hl I' => ⟨.ref D, _, I', rfl, q D H' vs hg' hD hl⟩
section
variable {M : Ghost} {C : Ct M} {W W1 W2 W' : Wd M} {σ : L2.St} {ρ : DEnv} {e : Expr} {we : EW M} {pos p : Pos}
def jOf (X : Cx) (iter : Expr) : TI := fun σ H R => ∀ (pins : List (Addr × Obj)) (s : Shared), Inv X pins σ H s → wpAny (model X.prog X.w) X.A (eval iter X.env) (PullE X pins σ R) X.xe s
theorem pj_tOf {X : Cx} {iter : Expr} : PJ X iter (jOf X iter) := ⟨fun pins s _ _ _ I h => h pins s I⟩
theorem jOf_of {X : Cx} {iter : Expr} {t : TI} (h : PJ X iter t) {H : Hp} {R : It → Hp → Prop} (q : t σ H R) : jOf X iter σ H R := fun pins s I => h.run pins s σ H R I q
structure DJ (C : Ct M) (iter : Expr) (w : IW M) : Prop where
  run : ∀ (σ : L2.St) (ρ : DEnv) (W : Wd M) (R : It → Hp → Prop) (q : List D → M.G → Prop), Sat C σ ρ W → (∀ J ds W', Go W W' → Wok C.X.K W' → WK C.X.K W' J ds → q ds W'.g → R J W'.H) → w ρ W.g q → jOf C.X iter σ W.H R
variable {a b : Expr} {wa wb : EW M} {p2 pos2 : Pos}
theorem dj_enzip (hme : C.X.mg "enumerate" = none) (hm : C.X.mg "zip" = none) (ha : DE C a wa) (hb : DE C b wb) (hge : Gl C.X "enumerate" := by rfl) (hg : Gl C.X "zip" := by rfl)
    (hse : starEach [.Call (.Name "zip" p2) [a, b] [] pos2] C.X.env = (false, eval (.Call (.Name "zip" p2) [a, b] [] pos2) C.X.env) :: starEach [] C.X.env := by rfl) (hs : starEach [a, b] C.X.env = (false, eval a C.X.env) :: starEach [b] C.X.env := by rfl) (hs2 : starEach [b] C.X.env = (false, eval b C.X.env) :: starEach [] C.X.env := by rfl)
    (hpl : (backTo pos2 (starEach [b] C.X.env)).any (·.1) = false := by rfl) : DJ C (.Call (.Name "enumerate" p) [.Call (.Name "zip" p2) [a, b] [] pos2] [] pos) (wEnZip wa wb) := ⟨fun σ ρ W R q S hR hw => jOf_of (pj_ez hge hme hg hm (pa_cons pe_tOf (pa_cons pe_tOf pa_nil hs2) hs) hse hs hpl)
  (ha.run σ ρ W _ _ S (fun v d W1 g1 k1 r1 q1 => hb.run σ ρ W1 _ _ (S.step g1 k1) (fun u e W2 g2 k2 r2 q2 => by
  obtain ⟨ds, es, hd, he, q2⟩ := q2
  obtain ⟨S1, vs, rfl, s1⟩ := sqd_of k2 (r1.step g2) hd
  obtain ⟨S2, us, rfl, s2⟩ := sqd_of k2 r2 he
  exact ⟨S1, S2, vs, us, rfl, s1.its W2 (Gs.refl _) k2, s2.its W2 (Gs.refl _) k2, hR _ _ W2 (g1.trans g2) k2 (wk_ez s1 s2) q2⟩) q1) hw)⟩
@[simp] def wListI (wi : IW M) : NW M := fun ρ g q => wi ρ g fun ds g' => ds.length ≤ sizeLine ∧ q ds g'
theorem dn_listI {wi : IW M} (hc : C.X.calm = true) (hm : C.X.mg "list" = none) (hj : DJ C e wi) (hg : Gl C.X "list" := by rfl) (hs : starEach [e] C.X.env = (false, eval e C.X.env) :: starEach [] C.X.env := by rfl) :
    DN C (.Call (.Name "list" p) [e] [] pos) (wListI wi) := ⟨fun σ ρ W Q q S hQ hw => tOf_of (pe_listI hc hg hm pj_tOf hs) (hj.run σ ρ W _ _ S (fun J ds W1 g1 k1 wk q1 => by
  refine ⟨ds.length, fun i H vs => ∃ W2 : Wd M, W2.H = H ∧ Go W1 W2 ∧ Wok C.X.K W2 ∧ W2.g = W1.g ∧ RpA C.X.K W2.F W2.R vs (ds.take i), ⟨W1, rfl, Go.refl _, k1, rfl, .nil⟩, fun i H vs hg hi => ?_, fun H vs hg => ?_, q1.1, fun D H' vs hg hD hl => ?_⟩
  · obtain ⟨W2, rfl, g2, k2, e2, r2⟩ := hg
    obtain ⟨go, yl⟩ := wk.go i W2 ds[i] g2.s k2 (List.getElem?_eq_getElem hi)
    refine ⟨go, fun x H' y => ?_⟩
    obtain ⟨W3, rfl, g3, k3, e3, r3⟩ := yl x H' y
    refine ⟨W3, rfl, g2.trans g3, k3, e3.trans e2, ?_⟩
    rw [List.take_succ_eq_append_getElem hi]
    exact (r2.step g3).append (.cons r3 .nil)
  · obtain ⟨W2, rfl, g2, k2, e2, r2⟩ := hg
    exact wk.stop _ W2 g2.s k2 (List.getElem?_eq_none (Nat.le_refl _))
  · obtain ⟨W2, rfl, g2, k2, e2, r2⟩ := hg
    rw [List.take_length] at r2
    refine hQ D vs ds (W2.new D (.lst vs)) ((g1.trans g2).trans (Go.new k2 hD)) (k2.new hD) upd_same (k2.noF hD) (k2.noR hD) (nofresh (g1.trans g2) hD) r2 ?_
    show q ds W2.g
    rw [e2]
    exact q1.2) hw)⟩
end
end DL
set_option Elab.async false
set_option linter.all false
set_option maxRecDepth 100000
set_option maxHeartbeats 1000000
namespace DL
open PySem L2 StX
section
variable {M : Ghost} {C : Ct M} {W W1 W2 W' : Wd M} {σ : L2.St} {ρ : DEnv} {e : Expr} {es : List Expr} {we : EW M} {pos p : Pos} {wa : AW M}

def tyN : D → Option String
  | .non => some "NoneType"
  | .bl _ => some "bool"
  | .int _ => some "int"
  | .str _ => some "str"
  | .lst _ => some "list"
  | .tup _ => some "tuple"
  | .dic _ => some "dict"
  | .ob _ => none
  | .exn _ _ _ => none
  | .tx _ => none
  | .cl _ => none
def isTyp (t T : String) : Bool := t == T || (t == "bool" && T == "int")
/-- the answers of isinstance for the class T -/
structure KitTab (K : PySem.W.Frag) (T : String) : Prop where
  ok : ∀ t ∈ ["NoneType", "bool", "int", "str", "list", "tuple", "dict"], PySem.W.kitOne K (.type t) (.type T) = some (isTyp t T)
theorem tyN_mem {d : D} {t : String} (h : tyN d = some t) : t ∈ ["NoneType", "bool", "int", "str", "list", "tuple", "dict"] := by
  cases d <;> cases h <;> decide
theorem tyx_of {K : PySem.W.Frag} {v : V} {d : D} {t : String} (k : Wok K W) (r : RdP K W v d) (h : tyN d = some t) : TyX K W.H v (.type t) := by
  rcases r with r | ⟨p, vs, es, rfl, rfl, hp, np, ra⟩
  · cases r with
    | non => cases h; exact .base .non
    | bl b => cases h; exact .base (.bl b)
    | int i => cases h; exact .base (.int i)
    | str z x hz => cases h; exact .base (.str z)
    | lst hq r => cases h; exact .base (.lst (k.sub _ _ hq))
    | tup hq r =>
      cases h
      rcases hq with (hq | ⟨o, hq⟩) | ⟨o, its, n, hq, hc, _⟩
      · exact .base (.tup (k.sub _ _ hq))
      · exact .fTuple (k.sub _ _ hq)
      · exact .kTuple hq hc
    | dic hq r => cases h; exact .base (.dK (k.sub _ _ hq))
    | ob hq => cases h
    | exn0 => cases h
    | exn => cases h
    | tx => cases h
    | cl => cases h
  · cases h
    exact .base (.lst hp)
def isiD (T : String) (d : D) (q : D → Prop) : Prop := ∃ t, tyN d = some t ∧ q (.bl (isTyp t T))
@[simp] def wIsi (T : String) (we : EW M) : EW M := fun ρ g q => we ρ g fun d g' => isiD T d fun r => q r g'
theorem de_isi {x : Str} {T : String} {pT : Pos} (kt : KitTab C.X.K T) (he : DP C e we) (hm : C.X.mg "isinstance" = none) (hmT : C.X.mg x = none) (hv : bootBuiltins x = some (.type T)) (hnT : x ≠ "__name__" := by decide) (hdT : (x == ("__debug__" : Str)) = false := by decide) (hg : Gl C.X "isinstance" := by rfl) (hgT : Gl C.X x := by rfl)
    (h1 : starEach [e, .Name x pT] C.X.env = (false, eval e C.X.env) :: starEach [.Name x pT] C.X.env := by rfl) (h2 : starEach [.Name x pT] C.X.env = (false, eval (.Name x pT) C.X.env) :: starEach [] C.X.env := by rfl) (hpl : (backTo pos (starEach [.Name x pT] C.X.env)).any (·.1) = false := by rfl) :
    DE C (.Call (.Name "isinstance" p) [e, .Name x pT] [] pos) (wIsi T we) := ⟨fun σ ρ W Q q S hQ hw =>
  tOf_of (pe_callB call_isi hg hm PyProof.Rows.boot_isinstance (pa_cons pe_tOf (pa_cons (pe_bltn (v := .ty T) hgT hmT hv rfl hnT hdT) pa_nil h2) h1) (by decide) (by decide) h1 hpl)
    (he.run σ ρ W _ _ S (fun v d W1 g1 k1 r1 q1 => by
      obtain ⟨t, ht, q1⟩ := q1
      exact ⟨v, .ty T, .type t, .type T, isTyp t T, rfl, .ty T, tyx_of k1 r1 ht, kt.ok t (tyN_mem ht), hQ _ _ W1 g1 k1 (.bl _) q1⟩) hw)⟩
theorem kit_int {K : PySem.W.Frag} : KitTab K "int" := ⟨fun t h => by
  simp only [List.mem_cons, List.not_mem_nil, or_false] at h
  rcases h with rfl | rfl | rfl | rfl | rfl | rfl | rfl <;> rfl⟩
theorem kit_str {K : PySem.W.Frag} : KitTab K "str" := ⟨fun t h => by
  simp only [List.mem_cons, List.not_mem_nil, or_false] at h
  rcases h with rfl | rfl | rfl | rfl | rfl | rfl | rfl <;> rfl⟩
theorem kit_bool {K : PySem.W.Frag} : KitTab K "bool" := ⟨fun t h => by
  simp only [List.mem_cons, List.not_mem_nil, or_false] at h
  rcases h with rfl | rfl | rfl | rfl | rfl | rfl | rfl <;> rfl⟩
theorem kit_tuple {K : PySem.W.Frag} : KitTab K "tuple" := ⟨fun t h => by
  simp only [List.mem_cons, List.not_mem_nil, or_false] at h
  rcases h with rfl | rfl | rfl | rfl | rfl | rfl | rfl <;> rfl⟩
@[simp] def wAStar (w : EW M) (u : AW M) : AW M := fun ρ g q => w ρ g fun d g1 => ∃ ds, (d = .lst ds ∨ d = .tup ds) ∧ u ρ g1 fun es g2 => q (ds ++ es) g2
theorem da_star (he : DP C e we) (hr : DA C es wa) (hs : starEach (.Starred e p :: es) C.X.env = (true, eval e C.X.env) :: starEach es C.X.env := by rfl) : DA C (.Starred e p :: es) (wAStar we wa) := ⟨fun σ ρ W Q q S hQ hw =>
  aOf_of (pa_star pe_tOf pa_tOf hs) (he.run σ ρ W _ _ S (fun v d W1 g1 k1 r1 q1 => by
    obtain ⟨ds, hd, q1⟩ := q1
    have fr : ∃ (a : Addr) (vs : List V), v = .ref a ∧ (SqT C.X.K W1.H a vs ∨ SqL C.X.K W1.H a vs) ∧ RpA C.X.K W1.F W1.R vs ds := by
      rcases hd with rfl | rfl
      · obtain ⟨a, vs, rfl, hp, np, ra⟩ := r1.lst_inv k1
        exact ⟨a, vs, rfl, .inr (.of hp), ra⟩
      · obtain ⟨a, vs, rfl, hp, ra⟩ := r1.tup_inv
        exact ⟨a, vs, rfl, .inl (same_tup k1.sub hp), ra⟩
    obtain ⟨a, vs, rfl, hq, ra⟩ := fr
    exact ⟨a, vs, rfl, hq, hr.run σ ρ W1 _ _ (S.step g1 k1) (fun us es W2 g2 k2 r2 q2 => hQ (vs ++ us) (ds ++ es) W2 (g1.trans g2) k2 ((ra.step g2).append r2) q2) q1⟩) hw)⟩

def cInt : List D → (D → Prop) → Prop
  | [.int i], q => q (.int i)
  | [.bl b], q => q (.int (if b then 1 else 0))
  | [.str x], q => ∃ n, PySem.intText? (S x) = some n ∧ x.length ≤ 640 ∧ q (.int n)
  | _, _ => False
theorem calld_int : CallD C (.type "int") cInt := by
  refine ⟨_, call_int1.or call_int_str, fun W vs ds Q q k r hQ h => ?_⟩
  obtain ⟨d, rfl⟩ := one_of h (fun _ h => h) (fun a _ _ _ h => by cases a <;> exact h)
  obtain ⟨v, rfl, r0⟩ := pair1 r
  cases d with
  | int i => exact .inl (.inl ⟨i, by rw [r0.int_inv], hQ _ _ W (Go.refl W) k rfl (.int _) h⟩)
  | bl b => exact .inl (.inr ⟨b, by rw [r0.bl_inv], hQ _ _ W (Go.refl W) k rfl (.int _) h⟩)
  | str x =>
    obtain ⟨z, rfl, rfl⟩ := r0.str_inv
    obtain ⟨n, hn, hl, h⟩ := h
    rw [S_of] at hn
    exact .inr ⟨z, n, rfl, hn, by rw [str_len]; exact hl, hQ _ _ W (Go.refl W) k rfl (.int _) h⟩
  | _ => exact h.elim
/-- the signs of a number -/
def dec (i : Int) : List Nat := (Str.ofString (toString i)).cps.toList
def cStr : List D → (D → Prop) → Prop
  | [.int i], q => i.natAbs.log2 < 1920 ∧ q (.str (dec i))
  | _, _ => False
def flatD : D → Bool
  | .non => true
  | .bl _ => true
  | .int _ => true
  | .str _ => true
  | _ => false
def eqF : D → D → Bool
  | .non, .non => true
  | .bl a, .bl b => a == b
  | .bl a, .int b => (if a then 1 else 0) == b
  | .int a, .bl b => a == (if b then 1 else 0)
  | .int a, .int b => a == b
  | .str a, .str b => a == b
  | _, _ => false
theorem str_beq (z z2 : Str) : (z == z2) = (z.cps.toList == z2.cps.toList) := by
  have : (z == z2) = decide (z = z2) := by
    cases h : decide (z = z2) with
    | true => exact (by simpa using h)
    | false => exact (by simpa using h)
  rw [this, Bool.beq_eq_decide_eq]
  refine decide_eq_decide.mpr ⟨fun h => by rw [h], fun h => ?_⟩
  obtain ⟨a⟩ := z
  obtain ⟨b⟩ := z2
  rw [show a = b from Array.toList_inj.mp h]
theorem rp_flat {K : PySem.W.Frag} {F : Hp} {R : List Addr} {v : V} {d : D} (r : Rp K F R v d) : flatV v = flatD d := by cases r <;> rfl
theorem rp_eqF {K : PySem.W.Frag} {F : Hp} {R : List Addr} {v u : V} {d e : D} (r : Rp K F R v d) (s : Rp K F R u e) : eqV v u = eqF d e := by
  cases r <;> cases s <;> first | rfl | skip
  rename_i z x hz z2 x2 hz2
  subst hz hz2
  exact str_beq z z2
theorem rpa_flat {K : PySem.W.Frag} {F : Hp} {R : List Addr} : ∀ {vs : List V} {ds : List D}, RpA K F R vs ds → vs.all flatV = ds.all flatD
  | _, _, .nil => rfl
  | _, _, .cons r t => by rw [List.all_cons, List.all_cons, rp_flat r, rpa_flat t]
theorem rpa_in {K : PySem.W.Frag} {F : Hp} {R : List Addr} {x : V} {d : D} (r : Rp K F R x d) : ∀ {vs : List V} {ds : List D}, RpA K F R vs ds → inV x vs = ds.any fun y => eqF y d
  | _, _, .nil => rfl
  | _, _, .cons s t => by
    rw [List.any_cons, ← rpa_in r t, ← rp_eqF s r]
    rfl
def oInB (f : Bool → Bool) : D → D → (D → Prop) → Prop
  | .str [c], .str z, q => q (.bl (f (decide (c ∈ z))))
  | d, .lst ds, q => flatD d = true ∧ ds.all flatD = true ∧ q (.bl (f (ds.any fun y => eqF y d)))
  | d, .tup ds, q => flatD d = true ∧ ds.all flatD = true ∧ q (.bl (f (ds.any fun y => eqF y d)))
  | _, _, _ => False
def oIn := oInB id
def oNotIn := oInB not
theorem oInB_inv {f : Bool → Bool} {d e : D} {q : D → Prop} (h : oInB f d e q) : (∃ c z, d = .str [c] ∧ e = .str z ∧ q (.bl (f (decide (c ∈ z))))) ∨ (∃ ds, (e = .lst ds ∨ e = .tup ds) ∧ flatD d = true ∧ ds.all flatD = true ∧ q (.bl (f (ds.any fun y => eqF y d)))) := by
  unfold oInB at h
  split at h
  · exact .inl ⟨_, _, rfl, rfl, h⟩
  · exact .inr ⟨_, .inl rfl, h⟩
  · exact .inr ⟨_, .inr rfl, h⟩
  · exact h.elim
theorem flat_frozen {K : PySem.W.Frag} {v : V} {d : D} (r : RdP K W v d) (h : flatD d = true) : Rp K W.F W.R v d := by
  rcases r with r | ⟨_, _, _, _, rfl, _⟩
  · exact r
  · cases h
theorem opd_inB {f : Bool → Bool} {neg : Bool} {g : Value → Value → Sem Value} (hf : ∀ b, f b = if neg then !b else b) (h1 : OpR C.X g (rIn C.X.K neg)) (h2 : OpR C.X g (fun x y H Q => ∃ (c : Nat) (z : Str), x = .str ⟨#[c]⟩ ∧ y = .str z ∧ Q (.bl (f (decide (c ∈ z.cps.toList)))) H)) : OpD C g (oInB f) := by
  refine ⟨_, h1.or h2, fun W x y d e Q q k r1 r2 hQ h => ?_⟩
  rcases oInB_inv h with ⟨c, z, rfl, rfl, h⟩ | ⟨ds, he, f1, f2, h⟩
  · obtain ⟨z1, rfl, e1⟩ := r1.str_inv
    obtain ⟨z2, rfl, rfl⟩ := r2.str_inv
    have : z1 = ⟨#[c]⟩ := by
      obtain ⟨a⟩ := z1
      have : a.toList = [c] := e1
      rw [show a = #[c] from Array.toList_inj.mp this]
    subst this
    exact .inr ⟨c, z2, rfl, rfl, hQ _ _ W (Go.refl W) k rfl (.bl _) h⟩
  · have r0 := flat_frozen r1 f1
    have fr : ∃ (a : Addr) (vs : List V), y = .ref a ∧ (SqL C.X.K W.H a vs ∨ SqT C.X.K W.H a vs) ∧ RpA C.X.K W.F W.R vs ds := by
      rcases he with rfl | rfl
      · obtain ⟨a, vs, rfl, hp, np, ra⟩ := r2.lst_inv k
        exact ⟨a, vs, rfl, .inl (.of hp), ra⟩
      · obtain ⟨a, vs, rfl, hp, ra⟩ := r2.tup_inv
        exact ⟨a, vs, rfl, .inr (same_tup k.sub hp), ra⟩
    obtain ⟨a, vs, rfl, hq, ra⟩ := fr
    refine .inl ⟨a, vs, rfl, hq, by rw [rp_flat r0]; exact f1, by rw [rpa_flat ra]; exact f2, hQ _ _ W (Go.refl W) k rfl (.bl _) ?_⟩
    rw [rpa_in r0 ra, ← hf]
    exact h
theorem opd_in : OpD C (compareOp .In) oIn := opd_inB (neg := false) (fun b => rfl) op_in_seq op_in_sign
theorem opd_notIn : OpD C (compareOp .NotIn) oNotIn := opd_inB (neg := true) (fun b => rfl) op_notIn_seq op_notIn_sign

variable {a b c : Expr} {wx wy wz : EW M} {r r' : D → D → (D → Prop) → Prop}
variable {e2 : Expr} {apos cpos p1 : Pos}
theorem de_glob {x : Str} {v : V} {d : D} {u : Value} (hm : C.X.mg x = some u) (rv : RelV v u) (r : ∀ F R, Rp C.X.K F R v d) (hg : Gl C.X x := by rfl) (hd : (x == ("__debug__" : Str)) = false := by decide) : DE C (.Name x pos) (wC d) := de_c (pe_glob hg hm rv hd) r
end
end DL
set_option Elab.async false
set_option linter.all false
set_option maxRecDepth 100000
set_option maxHeartbeats 1000000
namespace DL
open PySem PySem.Spec PyProof.Rows L2
section
variable {prog : Program} {w : World} {A : Around} {E : Value → Shared → Prop} {s : Shared}
end
section
variable {M : Ghost} {C : Ct M} {W W1 W2 W' : Wd M} {σ : L2.St} {ρ : DEnv} {e : Expr} {es : List Expr} {we : EW M} {pos p : Pos} {wa : AW M}
def oRev (d : D) (q : D → Prop) : Prop := match d with
  | .lst ds => q (.lst ds.reverse)
  | .tup ds => q (.tup ds.reverse)
  | _ => False
def oRevN (d : D) (q : List D → Prop) : Prop := match d with
  | .lst ds => q ds.reverse
  | _ => False
variable {k1 : Nat} {p1 p2 p3 : Pos}
def GlS (o : Option Value) (x : List Nat) : Prop := ∃ z t, o = some (.str z t) ∧ z.cps.toList = x
theorem de_glS {x : Str} {y : List Nat} (h : GlS (C.X.mg x) y) (hg : Gl C.X x := by rfl) (hd : (x == ("__debug__" : Str)) = false := by decide) : DE C (.Name x pos) (wC (.str y)) := by
  obtain ⟨z, t, h, e⟩ := h
  exact de_glob h (v := .str z) ⟨t, rfl⟩ (fun _ _ => .str z y e) hg hd

theorem rpa_rg {K : PySem.W.Frag} {F : Hp} {R : List Addr} (a b : Int) : RpA K F R (rgV a b) (rngL a b) := by
  unfold rgV rngL
  have : ∀ l : List Nat, RpA K F R (l.map fun i => V.int (a + (i : Nat))) (l.map fun (i : Nat) => D.int (a + i)) := fun l => by
    induction l with
    | nil => exact .nil
    | cons c l ih => exact .cons (.int _) ih
  exact this _
variable {a b : Expr} {wx wy : EW M} {p4 pos2 : Pos}
@[simp] def wRgL1 (wx : EW M) : NW M := fun ρ g q => wx ρ g fun d g' => asI d fun j => RgOk 0 j ∧ q (rngL 0 j) g'
theorem dn_rgL1 (hc : C.X.calm = true) (hm : C.X.mg "list" = none) (hr : C.X.mg "range" = none) (ha : DE C a wx) (hg : Gl C.X "list" := by rfl) (hgr : Gl C.X "range" := by rfl) (na : starEach [a] C.X.env = (false, eval a C.X.env) :: starEach [] C.X.env := by rfl)
    (nb : starEach [.Call (.Name "range" p4) [a] [] pos2] C.X.env = (false, eval (.Call (.Name "range" p4) [a] [] pos2) C.X.env) :: starEach [] C.X.env := by rfl) : DN C (.Call (.Name "list" p) [.Call (.Name "range" p4) [a] [] pos2] [] pos) (wRgL1 wx) := ⟨fun σ ρ W Q q S hQ hw =>
  tOf_of (pe_listRg hc hg hm (prg_1 hgr hr pe_tOf na) nb) (ha.run σ ρ W _ _ S (fun v d W1 g1 k1 r1 q1 => by
    cases d with
    | int j =>
      cases r1
      exact ⟨j, rfl, q1.1, fun t ht => hQ t _ _ (W1.new t (.lst (rgV 0 j))) (g1.trans (Go.new k1 ht)) (k1.new ht) upd_same (k1.noF ht) (k1.noR ht) (nofresh g1 ht) (rpa_rg 0 j) q1.2⟩
    | _ => exact q1.elim) hw)⟩
end
section
variable {M : Ghost} {C : Ct M} {W W1 W2 W' : Wd M} {σ : L2.St} {ρ : DEnv}
variable {pos : Pos}
end
end DL
set_option Elab.async false
set_option linter.all false
set_option maxRecDepth 100000
set_option maxHeartbeats 1000000
namespace DL
open PySem L2
section
variable {K : PySem.W.Frag}
/-- the class that a name of the text tells -/
inductive CN (K : PySem.W.Frag) : Str → Value → Prop
  | own {x : Str} {C : Addr} : PySem.W.nsIn K mainGlobals x = some (some (.ref C)) → CN K x (.ref C)
  | ty {x : Str} {T : String} : PySem.W.nsIn K mainGlobals x = some none → bootBuiltins x = some (.type T) → x ≠ "__name__" → CN K x (.type T)
/-- n is a class of exceptions of the text; it is | is not one of m -/
structure SubT (K : PySem.W.Frag) (n m : Str) (b : Bool) : Prop where
  ex : ∃ (C : Addr) (c : Value), PySem.W.nsIn K mainGlobals n = some (some (.ref C)) ∧ CN K m c ∧ PySem.W.exmOne K (.ref C) c = some b ∧ PySem.W.kitOne K (.ref C) c = some b ∧ ExcC K C
structure SubA (K : PySem.W.Frag) (n : Str) (ms : List Str) (b : Bool) : Prop where
  ex : ∃ (C : Addr) (cs : List Value), PySem.W.nsIn K mainGlobals n = some (some (.ref C)) ∧ Paired (CN K) ms cs ∧ PySem.W.exmAny K (.ref C) cs = some b ∧ PySem.W.kitAny K (.ref C) cs = some b ∧ ExcC K C
theorem subA_one {n m : Str} {b : Bool} (h : SubT K n m b) : SubA K n [m] b := by
  obtain ⟨C, c, h1, h2, h3, h4, h5⟩ := h.ex
  refine ⟨C, [c], h1, .cons h2 .nil, ?_, ?_, h5⟩
  · unfold PySem.W.exmAny
    rw [h3]
    simp [PySem.W.exmAny]
  · unfold PySem.W.kitAny
    rw [h4]
    cases b <;> rfl
theorem subA_cons {n m : Str} {ms : List Str} {b d : Bool} (h : SubT K n m b) (r : SubA K n ms d) : SubA K n (m :: ms) (b || d) := by
  obtain ⟨C, c, h1, h2, h3, h4, h5⟩ := h.ex
  obtain ⟨C', cs, g1, g2, g3, g4, g5⟩ := r.ex
  rw [h1] at g1
  cases g1
  refine ⟨C, c :: cs, h1, .cons h2 g2, ?_, ?_, h5⟩
  · unfold PySem.W.exmAny
    rw [h3, g3]
  · unfold PySem.W.kitAny
    rw [h4]
    cases b with
    | true => rfl
    | false => exact g4
/-- a class of exceptions whose field may be read -/
structure FldT (K : PySem.W.Frag) (n f : Str) : Prop where
  ex : ∃ C : Addr, PySem.W.nsIn K mainGlobals n = some (some (.ref C)) ∧ XfC K C ∧ PySem.W.findIn K (.ref C) f = some none
theorem SubT.mk' {n m : Str} {b : Bool} {C : Addr} {c : Value} (h1 : PySem.W.nsIn K mainGlobals n = some (some (.ref C))) (h2 : CN K m c) (h3 : PySem.W.exmOne K (.ref C) c = some b) (h4 : PySem.W.kitOne K (.ref C) c = some b) (h5 : ExcC K C) : SubT K n m b := ⟨C, c, h1, h2, h3, h4, h5⟩
end
section
variable {X : Cx} {pos : Pos}
/-- a class as a value -/
def clsV : Value → V
  | .ref C => .ref C
  | .type T => .ty T
  | _ => .non
theorem CN.rel {K : PySem.W.Frag} {x : Str} {c : Value} (h : CN K x c) : RelV (clsV c) c ∧ ClsV (clsV c) c := by
  cases h with
  | own => exact ⟨rfl, .own _⟩
  | ty => exact ⟨rfl, .ty _⟩
theorem CN.names {x : Str} {c : Value} (h : CN X.K x c) {pins : List (Addr × Obj)} {σ : L2.St} {H : Hp} {s : Shared} (I : Inv X pins σ H s) : X.mg x = some c ∨ (X.mg x = none ∧ bootBuiltins x = some c ∧ x ≠ "__name__") := by
  cases h with
  | own e => exact .inl (PySem.W.mg_of I.mod.kin I.mod.glob e)
  | ty e b n => exact .inr ⟨PySem.W.mg_none_of I.mod.kin I.mod.glob e, b, n⟩
theorem ld_cls {x : Str} {c : Value} (h : CN X.K x c) (hg : Gl X x) (hd : (x == ("__debug__" : Str)) = false) {E : Value → Shared → Prop} {pins : List (Addr × Obj)} {s : Shared} {σ : L2.St} {H : Hp} {Q : Value → Shared → Prop} (I : Inv X pins σ H s) (q : Q c s) :
    wpAny (model X.prog X.w) X.A (eval (.Name x pos) X.env) Q E s := by
  rcases h.names I with e | ⟨e, b, n⟩
  · exact ld_glob I hg e q hd
  · exact ld_blt I hg e b q n hd
theorem pe_cls {x : Str} {c : Value} (h : CN X.K x c) (hg : Gl X x) (hd : (x == ("__debug__" : Str)) = false := by decide) : PE X (.Name x pos) (tC (clsV c)) :=
  ⟨fun _ _ _ H _ I q => ld_cls h hg hd I ⟨_, H, I, h.rel.1, q⟩⟩
/-- names of classes, one after the other -/
inductive ClsEs (X : Cx) : List Str → List Expr → Prop
  | nil : ClsEs X [] []
  | cons {x : Str} {p : Pos} {ms : List Str} {es : List Expr} (hg : Gl X x) (hd : (x == ("__debug__" : Str)) = false) (hs : starEach (.Name x p :: es) X.env = (false, eval (.Name x p) X.env) :: starEach es X.env) (r : ClsEs X ms es) : ClsEs X (x :: ms) (.Name x p :: es)
theorem clsEs_cons {x : Str} {p : Pos} {ms : List Str} {es : List Expr} (r : ClsEs X ms es) (hg : Gl X x := by rfl) (hd : (x == ("__debug__" : Str)) = false := by decide) (hs : starEach (.Name x p :: es) X.env = (false, eval (.Name x p) X.env) :: starEach es X.env := by rfl) : ClsEs X (x :: ms) (.Name x p :: es) := .cons hg hd hs r
theorem pa_cls : ∀ {ms : List Str} {es : List Expr} {cs : List Value}, ClsEs X ms es → Paired (CN X.K) ms cs → PA X es (fun _ H Q => Q (cs.map clsV) H)
  | _, _, _, .nil, .nil => pa_nil
  | _, _, _, .cons hg hd hs r, .cons h t => ⟨fun pos pins s σ H Q I q => (pa_cons (pe_cls h hg hd) (pa_cls r t) hs).run pos pins s σ H Q I q⟩

def rIsX (K : PySem.W.Frag) (ok : Addr → List V → Hp → Bool → Prop) : List V → Hp → VK → Prop := fun xs H Q => ∃ (a C : Addr) (c : V) (b : Bool) (oe : Obj) (d : Option Addr), xs = [.ref a, c] ∧ H a = some (.frz oe exU) ∧ Zc (.ref C) d oe ∧ (∃ fv, oe.data = .fields fv) ∧
  (∀ dd, d = some dd → ∃ fs, H dd = some (.xd fs)) ∧ ExcC K C ∧ ok C [c] H b ∧ Q (.bl b) H
theorem inst_exn {H : Hp} {P : Program} {w : World} {h : Heap} {a C : Addr} {oe : Obj} {d : Option Addr} (hok : HOk P w H h) (ha : H a = some (.frz oe exU)) (hz : Zc (.ref C) d oe) (hf : ∃ fv, oe.data = .fields fv)
    (hd : ∀ dd, d = some dd → ∃ fs, H dd = some (.xd fs)) : ∃ od, PySem.W.InstAt h a oe C od := by
  obtain ⟨fv, hf⟩ := hf
  have hget : h.get? a = some oe := (show h.get? a = some oe ∧ _ from hok a _ ha).1
  have nc : PySem.W.notCls oe = true := by unfold PySem.W.notCls; rw [hf] <;> rfl
  cases d with
  | none => exact ⟨none, hget, hz.1, nc, by rw [hz.2]; trivial⟩
  | some dd =>
    obtain ⟨fs, e⟩ := hd dd rfl
    obtain ⟨mA, ⟨od, _, _, ho, _⟩, _⟩ := (show ObjOk P w H h dd (.xd fs) from hok dd _ e)
    exact ⟨some od, hget, hz.1, nc, by rw [hz.2]; exact ho⟩
theorem kitx_of_exc {K : PySem.W.Frag} {C a : Addr} {oe : Obj} {od : Option Obj} (T : ExcC K C) : PySem.W.KitX K (.ref a) (.ref C) (fun h => PySem.W.InstAt h a oe C od) := by
  obtain ⟨cd, hc, _⟩ := PySem.W.any_some T.hd
  exact PySem.W.kitx_exc (by rw [hc]; rfl) T.hg T.hk T.hs T.ha T.hn T.ht T.hm
theorem call_isX : CallR X (.builtin "isinstance") (rIsX X.K fun C cs _ b => ∃ cv, ClsV (cs.headD .non) cv ∧ PySem.W.kitOne X.K (.ref C) cv = some b) := by
  intro pins s σ H xs us Q I r h
  obtain ⟨a, C, c, b, oe, d, rfl, h1, h2, h3, h4, h5, ⟨cv, h6, h7⟩, q⟩ := h
  obtain ⟨u1, u2, rfl, r1, r2⟩ := vals2 r
  have e2 := ClsV.eq (c := c) h6 r2
  subst e2
  cases (show u1 = Value.ref a from r1)
  obtain ⟨od, J⟩ := inst_exn I.hok h1 h2 h3 h4
  exact PySem.W.kia_one (kitx_of_exc h5) I.kIn J h7 (fun z => nomatch z) fun tk => ⟨.bl b, H, I.tok tk, rfl, q⟩
theorem call_isXT : CallR X (.builtin "isinstance") (rIsX X.K fun C cs H b => ∃ tp cs' us, cs = [.ref tp] ∧ H tp = some (.tup cs') ∧ Paired ClsV cs' us ∧ PySem.W.kitAny X.K (.ref C) us = some b) := by
  intro pins s σ H xs us Q I r h
  obtain ⟨a, C, c, b, oe, d, rfl, h1, h2, h3, h4, h5, ⟨tp, cs, ws, e, hT, k, h7⟩, q⟩ := h
  cases e
  obtain ⟨u1, u2, rfl, r1, r2⟩ := vals2 r
  cases (show u1 = Value.ref a from r1)
  cases (show u2 = Value.ref tp from r2)
  obtain ⟨od, J⟩ := inst_exn I.hok h1 h2 h3 h4
  obtain ⟨_, its, rv, o, g1, g2, n, g3⟩ := (show ObjOk X.prog X.w H s.heap tp (.tup cs) from I.hok tp _ hT)
  have e3 := ClsV.all k rv
  subst e3
  obtain ⟨oc, odd, dt, sl⟩ := o
  simp only at g2 g3
  subst g2 g3
  exact PySem.W.kia_tup (kitx_of_exc h5) I.kIn J g1 h7 (fun z => nomatch z) fun tk => ⟨.bl b, H, I.tok tk, rfl, q⟩
end
section
variable {M : Ghost} {C : Ct M} {W W1 W2 W' : Wd M} {σ : L2.St} {ρ : DEnv} {e : Expr} {es : List Expr} {we : EW M} {pos p : Pos} {wa : AW M}
theorem rdp_exn {K : PySem.W.Frag} {v : V} {cls : Str} {ns : List Str} {ds : List D} (k : Wok K W) (r : RdP K W v (.exn cls ns ds)) : ∃ (a Cc : Addr) (oe : Obj) (d : Option Addr), v = .ref a ∧ PySem.W.nsIn K mainGlobals cls = some (some (.ref Cc)) ∧ W.H a = some (.frz oe exU) ∧ Zc (.ref Cc) d oe ∧ (∃ fv, oe.data = .fields fv) ∧
    ((d = none ∧ ns = [] ∧ ds = []) ∨ ∃ dd vs, d = some dd ∧ W.H dd = some (.xd (ns.zip vs)) ∧ ns.length = vs.length ∧ RpA K W.F W.R vs ds) := by
  rcases r with r | ⟨_, _, _, _, z, _⟩
  · cases r with
    | exn0 h1 h2 h3 h4 => exact ⟨_, _, _, none, rfl, h1, k.sub _ _ h2, h3, h4, .inl ⟨rfl, rfl, rfl⟩⟩
    | exn h1 h2 h3 h4 h5 h6 q => exact ⟨_, _, _, _, rfl, h1, k.sub _ _ h2, h3, h4, .inr ⟨_, _, rfl, k.sub _ _ h5, h6, q⟩⟩
  · cases z
def isX (tab : List (Str × Bool)) (d : D) (q : D → Prop) : Prop := match d with
  | .exn cls _ _ => ∃ b, (cls, b) ∈ tab ∧ q (.bl b)
  | _ => False
@[simp] def wIsX (tab : List (Str × Bool)) (we : EW M) : EW M := fun ρ g q => we ρ g fun d g' => isX tab d fun r => q r g'
theorem de_isX {x : Str} {tab : List (Str × Bool)} {pT : Pos} (tb : ∀ p ∈ tab, SubT C.X.K p.1 x p.2) (t0 : tab ≠ []) (he : DP C e we) (hm : C.X.mg "isinstance" = none) (hg : Gl C.X "isinstance" := by rfl) (hgT : Gl C.X x := by rfl) (hdT : (x == ("__debug__" : Str)) = false := by decide)
    (h1 : starEach [e, .Name x pT] C.X.env = (false, eval e C.X.env) :: starEach [.Name x pT] C.X.env := by rfl) (h2 : starEach [.Name x pT] C.X.env = (false, eval (.Name x pT) C.X.env) :: starEach [] C.X.env := by rfl) (hpl : (backTo pos (starEach [.Name x pT] C.X.env)).any (·.1) = false := by rfl) :
    DE C (.Call (.Name "isinstance" p) [e, .Name x pT] [] pos) (wIsX tab we) := ⟨fun σ ρ W Q q S hQ hw pins s I => by
  -- the class is known as soon as the table has a row
  cases tab with
  | nil => exact absurd rfl t0
  | cons t1 tr =>
    obtain ⟨C0, c, _, hc, _⟩ := (tb t1 List.mem_cons_self).ex
    refine (tOf_of (pe_callB call_isX hg hm PyProof.Rows.boot_isinstance (pa_cons pe_tOf (pa_cons (pe_cls hc hgT hdT) pa_nil h2) h1) (by decide) (by decide) h1 hpl)
      (he.run σ ρ W _ _ S (fun v d W1 g1 k1 r1 q1 => ?_) hw)) pins s I
    cases d with
    | exn cls ns ds =>
      obtain ⟨b, hb, q1⟩ := q1
      obtain ⟨a, Cc, oe, dx, rfl, e1, e2, e3, e4, e5⟩ := rdp_exn k1 r1
      obtain ⟨C', c', f1, f2, f3, f4, f5⟩ := (tb _ hb).ex
      rw [e1] at f1
      cases f1
      have ec : c' = c := by
        cases hc <;> cases f2 <;> simp_all
      subst ec
      refine ⟨a, Cc, clsV c', b, oe, dx, rfl, e2, e3, e4, fun dd ed => ?_, f5, ⟨c', hc.rel.2, f4⟩, hQ _ _ W1 g1 k1 (.bl _) q1⟩
      rcases e5 with ⟨z, _⟩ | ⟨dd', vs, z, e6, _⟩
      · rw [z] at ed; cases ed
      · rw [z] at ed; cases ed; exact ⟨_, e6⟩
    | _ => exact q1.elim⟩
def CnEq (K : PySem.W.Frag) : Prop := ∀ x c c', CN K x c → CN K x c' → c = c'
theorem cn_eq {K : PySem.W.Frag} : CnEq K := fun x c c' h h' => by cases h <;> cases h' <;> simp_all
theorem cns_eq {K : PySem.W.Frag} : ∀ {ms : List Str} {cs cs' : List Value}, Paired (CN K) ms cs → Paired (CN K) ms cs' → cs = cs'
  | _, _, _, .nil, .nil => rfl
  | _, _, _, .cons a r, .cons b t => by rw [cn_eq _ _ _ a b, cns_eq r t]
theorem cns_cls {K : PySem.W.Frag} : ∀ {ms : List Str} {cs : List Value}, Paired (CN K) ms cs → Paired ClsV (cs.map clsV) cs
  | _, _, .nil => .nil
  | _, _, .cons a r => .cons a.rel.2 (cns_cls r)
theorem de_isXT {ms : List Str} {ts : List Expr} {tab : List (Str × Bool)} {kk : Nat} {pT : Pos} (tb : ∀ p ∈ tab, SubA C.X.K p.1 ms p.2) (t0 : tab ≠ []) (hl : ms.length ≤ 100) (he : DP C e we) (hm : C.X.mg "isinstance" = none) (hN : ClsEs C.X ms ts) (hg : Gl C.X "isinstance" := by rfl)
    (h1 : starEach [e, .Tuple ts kk pT] C.X.env = (false, eval e C.X.env) :: starEach [.Tuple ts kk pT] C.X.env := by rfl) (h2 : starEach [.Tuple ts kk pT] C.X.env = (false, eval (.Tuple ts kk pT) C.X.env) :: starEach [] C.X.env := by rfl) (hpl : (backTo pos (starEach [.Tuple ts kk pT] C.X.env)).any (·.1) = false := by rfl) :
    DE C (.Call (.Name "isinstance" p) [e, .Tuple ts kk pT] [] pos) (wIsX tab we) := ⟨fun σ ρ W Q q S hQ hw pins s I => by
  cases tab with
  | nil => exact absurd rfl t0
  | cons t1 tr =>
    obtain ⟨C0, cs, _, hc, _⟩ := (tb t1 List.mem_cons_self).ex
    refine (tOf_of (pe_callB call_isXT hg hm PyProof.Rows.boot_isinstance (pa_cons pe_tOf (pa_cons (pe_tup (pa_cls hN hc)) pa_nil h2) h1) (by decide) (by decide) h1 hpl)
      (he.run σ ρ W _ _ S (fun v d W1 g1 k1 r1 q1 => ?_) hw)) pins s I
    cases d with
    | exn cls ns ds =>
      obtain ⟨b, hb, q1⟩ := q1
      obtain ⟨a, Cc, oe, dx, rfl, e1, e2, e3, e4, e5⟩ := rdp_exn k1 r1
      obtain ⟨C', cs', f1, f2, f3, f4, f5⟩ := (tb _ hb).ex
      rw [e1] at f1
      cases f1
      have ec := cns_eq f2 hc
      subst ec
      refine ⟨by rw [List.length_map, ← f2.length]; rw [sizeLine_eq]; omega, fun tp ht => ?_⟩
      have ne : ∀ x, W1.H x ≠ none → x ≠ tp := fun x hx z => hx (by rw [z]; exact ht)
      refine ⟨a, Cc, .ref tp, b, oe, dx, rfl, by rw [upd_ne (ne a (by rw [e2]; simp))]; exact e2, e3, e4, fun dd ed => ?_, f5, ⟨tp, _, _, rfl, upd_same, cns_cls f2, f4⟩, hQ _ _ (W1.lay tp (.tup (cs'.map clsV))) (g1.trans (Go.lay k1 ht)) (k1.lay ht) (.bl _) q1⟩
      rcases e5 with ⟨z, _⟩ | ⟨dd', vs, z, e6, _⟩
      · rw [z] at ed; cases ed
      · rw [z] at ed; cases ed
        exact ⟨_, by rw [upd_ne (ne dd (by rw [e6]; simp))]; exact e6⟩
    | _ => exact q1.elim⟩

theorem lookup_rp {K : PySem.W.Frag} {F : Hp} {R : List Addr} {f : Str} {r : D} : ∀ {ns : List Str} {vs : List V} {ds : List D}, RpA K F R vs ds → (ns.zip ds).lookup f = some r → ∃ v, (ns.zip vs).lookup f = some v ∧ Rp K F R v r
  | [], _, _, _, h => by simp at h
  | _ :: _, _, _, .nil, h => by simp at h
  | n :: ns, _, _, .cons (v := v) (d := d) a t, h => by
    rw [List.zip_cons_cons, List.lookup_cons] at h ⊢
    cases e : f == n with
    | true => rw [e] at h; cases h; exact ⟨v, rfl, a⟩
    | false => rw [e] at h; exact lookup_rp t h
def fldX (f : Str) (tab : List Str) (d : D) (q : D → Prop) : Prop := match d with
  | .exn cls ns ds => cls ∈ tab ∧ ∃ r, (ns.zip ds).lookup f = some r ∧ q r
  | _ => False
@[simp] def wFldX (f : Str) (tab : List Str) (we : EW M) : EW M := fun ρ g q => we ρ g fun d g' => fldX f tab d fun r => q r g'
def rXf (K : PySem.W.Frag) (f : Str) (te : TE) : TE := fun σ H Q => te σ H fun x H1 => ∃ (a Cc dd : Addr) (oe : Obj) (fs : List (Str × V)) (v : V), x = .ref a ∧ H1 a = some (.frz oe exU) ∧ Zc (.ref Cc) (some dd) oe ∧ (∃ fv, oe.data = .fields fv) ∧
  H1 dd = some (.xd fs) ∧ fs.lookup f = some v ∧ XfC K Cc ∧ PySem.W.findIn K (.ref Cc) f = some none ∧ Q v H1
theorem pe_rXf {X : Cx} {e : Expr} {te : TE} {f : Str} {pos : Pos} (he : PE X e te) (hb : attributeBase e f X.env (eval e X.env) = eval e X.env := by rfl) : PE X (.Attribute e f pos) (rXf X.K f te) := ⟨fun pins s σ H Q I h => by
  refine attr_of hb (thn (he.run pins s σ H _ I h) fun u s1 hh => ?_)
  obtain ⟨x, H1, I1, rx, a, Cc, dd, oe, fs, v, rfl, h1, h2, h3, h4, h5, T, hno, q⟩ := hh
  cases (show u = Value.ref a from rx)
  obtain ⟨mA, hns, hr⟩ := (show ObjOk X.prog X.w H1 s1.heap dd (.xd fs) from I1.hok dd _ h4)
  obtain ⟨od, ho, hl⟩ := lookIn_ns hns
  obtain ⟨u, hu, ru⟩ := RelO.some_of (v := v) (o := mA f) (by rw [← h5]; exact hr f)
  have hget : s1.heap.get? a = some oe := (show s1.heap.get? a = some oe ∧ _ from I1.hok a _ h1).1
  obtain ⟨fv, hf⟩ := h3
  have J : PySem.W.InstAt s1.heap a oe Cc (some od) := ⟨hget, h2.1, by unfold PySem.W.notCls; rw [hf] <;> rfl, by rw [h2.2]; exact ho⟩
  exact HandSPX.exc_get I1.kIn J T.ga T.gg T.exC (PySem.W.findObj_own T.hdC hno rfl (by rw [hl, hu])) (handed_of ru) ⟨v, H1, I1.tok _, ru, q⟩⟩
theorem de_fldX {f : Str} {tab : List Str} (tb : ∀ n ∈ tab, FldT C.X.K n f) (he : DE C e we) (hb : attributeBase e f C.X.env (eval e C.X.env) = eval e C.X.env := by rfl) : DE C (.Attribute e f pos) (wFldX f tab we) := ⟨fun σ ρ W Q q S hQ hw =>
  tOf_of (pe_rXf pe_tOf hb) (he.run σ ρ W _ _ S (fun v d W1 g1 k1 r1 q1 => by
    cases d with
    | exn cls ns ds =>
      obtain ⟨hc, r, hr, q1⟩ := q1
      obtain ⟨C', f1, f2, f3⟩ := (tb cls hc).ex
      cases r1 with
      | exn0 => cases hr
      | exn h1 h2 h3 h4 h5 h6 hq =>
        rw [h1] at f1
        cases f1
        obtain ⟨v, hv, rv⟩ := lookup_rp hq hr
        exact ⟨_, _, _, _, _, v, rfl, k1.sub _ _ h2, h3, h4, k1.sub _ _ h5, hv, f2, f3, hQ _ _ W1 g1 k1 rv q1⟩
    | _ => exact q1.elim) hw)⟩
end
end DL
set_option Elab.async false
set_option linter.all false
set_option maxRecDepth 100000
set_option maxHeartbeats 4000000
namespace DL
open PySem L2 PySem.W PySem.Calls PyProof.Rows PySem.HandSPX Builtin Builtin.ObjectAttr
def xA (f : Str) (p1 p2 : Pos) : Arguments := { posonlyargs := [], args := [{ arg := "self", annotation := none, pos := p1 }, { arg := f, annotation := none, pos := p2 }], vararg := none, kwonlyargs := [], kw_defaults := [], kwarg := none, defaults := [] }
def xB (f : Str) (q1 q2 q3 q4 : Pos) : List Stmt := [.Assign [.Attribute (.Name "self" q1) f q2] (.Name f q3) q4]
def xS (f : Str) : Scope := { kind := .function, names := [(PySem.Str.ofString "self", .local), (f, .local)], isGenerator := false, isCoroutine := false, more := [] }
abbrev fldNames : List Str := ["value", "index", "name", "error", "limit", "place"]
/-- what the written part says of such a class -/
structure RaiseT (K : Frag) (n f : Str) (B newId initId : String) (bmB : List Value) (C fI : Addr) (q : Str) : Prop where
  nm : nsIn K mainGlobals n = some (some (.ref C))
  xi : excInitIn K C bmB newId = true
  ov : excOver K C bmB = true
  sa : findIn K (.ref C) "__setattr__" = some (some (.builtin "object.__setattr__"))
  tk : takerIn K C f = some none
  hd : hasDictIn K C = true
  iC : findIn K (.ref C) "__init__" = some (some (.ref fI))
  tI : typeIn K (.ref fI) = some (.type "function")
  kC : keepIn K (.ref C) = true
  exC : subIn K (.ref C) (.type "BaseException") = some true
  tyC : typeIn K (.ref C) = some (.type "type")
  hf : f ∈ fldNames
  fn : ∃ (oc : Value) (od : Option Addr) (doc pm : Value) (an : Option Addr) (cdv ct : Value) (osl : Array (Option Value)) (p1 p2 q1 q2 q3 q4 : Pos),
    K.lookup fI = some ⟨oc, od, .func (fnOf "__init__" q (xA f p1 p2) (xB f q1 q2 q3 q4) (xS f) .none .none doc pm an cdv ct), osl⟩ ∧ codeIn K cdv q = true
  bf : ExcBaseFacts B newId initId bmB
  sf : StoreFacts B bmB "object.__setattr__" "object"
/-- .. of the class with that name -/
structure RaisesF (K : Frag) (n f : Str) : Prop where
  ex : ∃ (B newId initId : String) (bmB : List Value) (C fI : Addr) (q : Str), RaiseT K n f B newId initId bmB C fI q
theorem one_line (v : Value) : [v].length ≤ sizeLine := by rw [sizeLine_eq]; exact (by decide : 1 ≤ 16777216)
theorem ldX {M : Model} {s : Shared} {name : Str} {scope : Scope} {L a : Addr} {cd : Value} {m : Str → Option Value} {x : Str} {pos : Pos} {v : Value} {Q : Value → Shared → Prop} {A : Around} {E : Value → Shared → Prop} (hn : s.heap.Ns L m) (hv : m x = some v) (h : Q v s)
    (hk : scope.kind = .function := by rfl) (hl : (envOfC name scope L a cd).kindOf x = some .local := by rfl) (hd : (x == ("__debug__" : Str)) = false := by decide) :
    wpAny M A (eval (.Name x pos) (envOfC name scope L a cd)) Q E s := wpAny_Name (wpAny_loadName_local hk hl hn hv h) hd
/-- self.f = v on a new exception, whatever built-in class it derives from -/
theorem store_exc {prog : Program} {w : World} {A : Around} {R : Result → Shared → Prop} {hp : Heap} {g : Array GenState} {d : Drawn} {t : Nat} {os : OsState} {K : Frag} {B : String} {bmB : List Value} {name : Str} {tk : Tok} {v : Value} {x C t0 : Addr} (SF : StoreFacts B bmB "object.__setattr__" "object")
    (X : K.In hp) (hx : hp.get? x = some (excO C t0)) (ov : excOver K C bmB = true) (ht : takerIn K C name = some none) (hd : hasDictIn K C = true)
    (hq : ∀ h' tk' dx, (∀ b o, b ≠ x → hp.get? b = some o → h'.get? b = some o) → hp.objs.size ≤ dx → dx ≠ x → h'.get? x = some { cls := .ref C, dict := some dx, data := .fields #[.ref t0, .none, .none, .none, .bool false, .none] } →
      h'.Ns1 dx (fun y => if y = name then some v else none) → R (.ok (.ret .none)) ⟨h', g, d, tk', os⟩) :
    codeAny (model prog w) A (.call (.builtin "object.__setattr__") ⟨[.ref x, .str name tk, v], []⟩) R ⟨hp, g, d, t, os⟩ := by
  refine osa_openX (s := ⟨hp, g, d, t, os⟩) (od := none) SF X ⟨hx, rfl, rfl, trivial⟩ ov ht fun b => ?_
  obtain ⟨cd, hc, hh⟩ := any_some hd
  have xs : x ≠ hp.objs.size := Nat.ne_of_lt (Heap.lt_size hx)
  refine wpAny_bind (wpAny_pure (wpAny_bind (instanceDict_exc (s := ⟨hp, g, d, t, os⟩) hx (looks_clsIn X hc) hh ?_)))
  show wpAny _ _ (storeInDict hp.objs.size (.str name tk) name v) _ _ _
  have old : ∀ c u, c ≠ x → hp.get? c = some u → ((hp.push (dictOf [] 0)).update x fun o => { o with dict := some hp.objs.size }).get? c = some u := fun c u hc e =>
    (Heap.get?_update_ne _ _ _ _ hc).trans (Heap.get?_push_of_some _ e)
  refine store_in_new ?_ fun h' tk' n' hs => hq h' tk' hp.objs.size (fun c u hc e => ?_) (Nat.le_refl _) xs.symm ?_ n'
  · refine ⟨_, #[], 0, (Heap.get?_update_ne _ _ _ _ xs.symm).trans (Heap.get?_push_at rfl rfl), rfl, fun e he => absurd he (by simp), fun _ => rfl⟩
  · exact (hs.2 c (Nat.ne_of_lt (Heap.lt_size e))).trans (old c u hc e)
  · exact (hs.2 x xs).trans (Heap.get?_update_self _ (Heap.get?_push_of_some _ hx) rfl)
/-- what is left of a new exception at x -/
structure XInit (h h' : Heap) (x C dx t1 : Addr) (f : Str) (v : Value) : Prop where
  keep : ∀ b o, b ≠ x → h.get? b = some o → h'.get? b = some o
  obj : h'.get? x = some { cls := .ref C, dict := some dx, data := .fields #[.ref t1, .none, .none, .none, .bool false, .none] }
  dbig : h.objs.size ≤ dx
  dne : dx ≠ x
  ns : h'.Ns1 dx (fun y => if y = f then some v else none)
structure XMade (h h' : Heap) (e C d : Addr) (f : Str) (v : Value) : Prop where
  keep : ∀ b o, h.get? b = some o → h'.get? b = some o
  new : h.objs.size ≤ e
  obj : ∃ oe vs, h'.get? e = some oe ∧ oe.cls = .ref C ∧ oe.dict = some d ∧ oe.data = .fields vs ∧ vs[1]? = some .none ∧ vs[2]? = some .none
  dbig : h.objs.size ≤ d
  dne : d ≠ e
  ns : h'.Ns1 d (fun y => if y = f then some v else none)
section
variable {prog : Program} {w : World} {A : Around} {E : Value → Shared → Prop} {R : Result → Shared → Prop} {s : Shared} {K : Frag} {n f : Str} {B newId initId : String} {bmB : List Value} {C fI : Addr} {q : Str}
theorem x_init (T : RaiseT K n f B newId initId bmB C fI q) {x t0 : Addr} {v : Value} (X : K.In s.heap) (hlim : s.heap.NoLimit) (hx : s.heap.get? x = some (excO C t0)) (hroom : A.depth < recursionLimit)
    (hq : ∀ h' tk dx, XInit s.heap h' x C dx t0 f v → R (.ok (.ret .none)) { s with heap := h', toks := tk }) :
    codeAny (model prog w) A (.call (.ref fI) ⟨[.ref x, v], []⟩) R s := by
  obtain ⟨oc, od, doc, pm, an, cdv, ct, osl, p1, p2, q1, q2, q3, q4, ho, hcd⟩ := T.fn
  have hf := T.hf
  simp only [List.mem_cons, List.not_mem_nil, or_false] at hf
  have body : ∀ (g : Str), g = f → (g == ("__debug__" : Str)) = false → (envOfC q (xS f) s.heap.objs.size fI cdv).kindOf g = some .local → (bindL (envOfC q (xS f) s.heap.objs.size fI cdv).kindOf [("self", .ref x), (f, v)] fun _ => none) g = some v →
      (bindL (envOfC q (xS f) s.heap.objs.size fI cdv).kindOf [("self", .ref x), (f, v)] fun _ => none) "self" = some (.ref x) →
      BindsTo s (fnOf "__init__" q (xA f p1 p2) (xB f q1 q2 q3 q4) (xS f) .none .none doc pm an cdv ct) ⟨[.ref x, v], []⟩ [("self", .ref x), (f, v)] →
      (([("self", .ref x), (f, v)] : List (Str × Value)).all fun y => (xS f).names.lookup y.1 == some .local || (xS f).names.lookup y.1 == some .cell) = true →
      codeAny (model prog w) A (.call (.ref fI) ⟨[.ref x, v], []⟩) R s := by
    rintro g rfl hdb hkd hv hself bd hall
    refine Att.call_fn (binds := [("self", .ref x), (g, v)]) X hlim ho hcd hroom bd hall (fun s₁ IC => ?_) rfl rfl rfl
    obtain ⟨h₁, tk₁, rfl⟩ := IC.toInCall.same
    have k : ∀ b o, s.heap.get? b = some o → h₁.get? b = some o := IC.toInCall.keep
    have hn := IC.toInCall.ns
    have hxL : s.heap.objs.size ≠ x := Nat.ne_of_gt (Heap.lt_size hx)
    have X₁ : K.In h₁ := X.keeps k
    have hx₁ := k _ _ hx
    show wpAny _ _ (execs _ _) _ _ _
    refine wpAny_execs_cons (plainObj_wpAny_Assign_Attribute ?_)
    refine ldX (v := v) hn hv (ldX (v := .ref x) hn hself ?_) rfl hkd hdb
    refine set_plain X₁ (ox := excO C t0) (od := none) ⟨hx₁, rfl, rfl, trivial⟩ T.sa ?_
    refine store_exc T.sf X₁ hx₁ T.ov T.tk T.hd (fun h₃ tk₃ dx k₃ dn dne hx₃ hn₃ => ?_)
    show wpAny _ _ (execs _ _) _ _ _
    have z : s.heap.objs.size < h₁.objs.size := hn.lt
    exact wpAny_execs_nil (hq h₃ tk₃ dx ⟨fun b o hb e => k₃ b o hb (k b o e), hx₃, Nat.le_of_lt (Nat.lt_of_lt_of_le z dn), dne, hn₃⟩)
  rcases hf with rfl | rfl | rfl | rfl | rfl | rfl <;> exact body _ rfl (by decide) rfl (by first | rfl | with_unfolding_all rfl) (by first | rfl | with_unfolding_all rfl) (BindsTo.of_eq (by first | rfl | with_unfolding_all rfl)) (by first | rfl | decide | with_unfolding_all rfl)
theorem x_made (T : RaiseT K n f B newId initId bmB C fI q) {v : Value} (X : K.In s.heap) (hlim : s.heap.NoLimit) (hroom : A.depth + 1 < recursionLimit)
    (hq : ∀ h' tk e d, XMade s.heap h' e C d f v → R (.ok (.ret (.ref e))) { s with heap := h', toks := tk }) :
    codeAny (model prog w) A (.call (.ref C) ⟨[v], []⟩) R s := by
  obtain ⟨nm, N', qn, bs, bm, hdct, sn, sub, ab, col, dd, k0, k1, k2, k3, k5, hC, hT⟩ := excInit_of X T.xi
  obtain ⟨hp, g, dr, tk, os⟩ := s
  have k : ∀ b o, hp.get? b = some o → ((hp.push (kdv_tup [v])).push (excO C hp.objs.size)).get? b = some o := fun b o e => Heap.get?_push_of_some _ (Heap.get?_push_of_some _ e)
  have hget : ((hp.push (kdv_tup [v])).push (excO C hp.objs.size)).get? (hp.objs.size + 1) = some (excO C hp.objs.size) := by heap_get
  refine HandSPX.call_own T.bf hT hC (looks_findIn X T.iC) (fun self => bind_fn X self T.tI) (one_line v) ?_
  refine x_init (s := ⟨(hp.push (kdv_tup [v])).push (excO C hp.objs.size), g, dr, tk, os⟩) T (X.keeps k) (hlim.keeps k) hget ?_ fun h' tk' dx M => ?_
  · show A.depth + 1 < recursionLimit
    exact hroom
  · have old : ∀ b o, hp.get? b = some o → h'.get? b = some o := fun b o e => M.keep b o (Nat.ne_of_lt (Nat.lt_succ_of_lt (Heap.lt_size e))) (k b o e)
    have z : hp.objs.size + 1 + 1 ≤ dx := by
      first
        | (simpa only [Heap.size_push] using M.dbig)
        | exact M.dbig
        | (have q := M.dbig; rw [Heap.size_push, Heap.size_push] at q; exact q)
    exact ⟨rfl, hq h' tk' (hp.objs.size + 1) dx ⟨old, Nat.le_succ _, ⟨_, _, M.obj, rfl, rfl, rfl, rfl, rfl⟩, Nat.le_trans (Nat.le_trans (Nat.le_succ _) (Nat.le_succ _)) z, M.dne, M.ns⟩⟩
end
section
variable {X : Cx} {n f : Str}
theorem relO_one {v : V} {v' : Value} (r : RelV v v') (g : Str) : RelO (List.lookup g [(f, v)]) (if g = f then some v' else none) := by
  by_cases hw : g = f
  · subst hw
    rw [if_pos rfl]
    have q : List.lookup g [(g, v)] = some v := by simp [List.lookup]
    rw [q]
    exact r
  · rw [if_neg hw]
    have qw : (g == f) = false := by simpa using hw
    have q2 : List.lookup g [(f, v)] = none := by simp [List.lookup, qw]
    rw [q2]
    trivial
/-- n(e) -/
def tMkX (K : Frag) (n f : Str) (ta : TA) : L2.St → Hp → XK → Prop := fun σ H Q => ta σ H fun vs H1 => ∃ v, vs = [v] ∧ ∀ C d, nsIn K mainGlobals n = some (some (.ref C)) → H1 d = none → Q (.ref C) (some d) (upd H1 d (.xd [(f, v)]))
theorem pmk_x {a : Expr} {ta : TA} {p pos : Pos} {k : Nat} (T : RaisesF X.K n f) (hr : Room k X.A) (ha : PA X [a] ta) (hg : Gl X n) (hdb : (n == ("__debug__" : Str)) = false := by decide)
    (he : starEach (a :: []) X.env = (false, eval a X.env) :: starEach [] X.env := by rfl) (hpl : (backTo pos (starEach [] X.env)).any (·.1) = false := by rfl) :
    L2N.PMk X (.Call (.Name n p) [a] [] pos) (tMkX X.K n f ta) := by
  intro pins s σ H Q I h
  obtain ⟨B, newId, initId, bmB, C, fI, q, T⟩ := T.ex
  refine wpAny_Call_Name_kw (ld_glob I hg (mg_of I.mod.kin I.mod.glob T.nm) ?_ hdb)
  refine PySem.W.callWith_K (h₀ := X.base) I.ok.mod.kin T.kC (thn (ha.run pos pins s σ H _ I h) fun us s1 hh => ?_) he hpl
  obtain ⟨vs, H1, I1, r1, v, ev, q1⟩ := hh
  subst ev
  refine ⟨I1.kIn, ?_⟩
  cases r1 with
  | cons rv rn =>
    rename_i v' us'
    cases rn
    show wpAny _ _ (call (.ref C) [v']) _ _ _
    have hlim := I1.nolimit
    obtain ⟨hp, g, dr, tk, os⟩ := s1
    refine wpAny_call (x_made T I1.kIn hlim (by have := hr.dp; omega) fun h' tk' e d M => ?_)
    show L2N.MkP X pins σ Q (.ref e) ⟨h', g, dr, tk', os⟩
    obtain ⟨oe, fv, hoe, hc, hd, hdat, h1, h2⟩ := M.obj
    have hns := M.ns
    obtain ⟨G', g1, g2⟩ := restrict h' fun b => decide (b ≠ e)
    have gk : ∀ b, b ≠ e → G'.get? b = h'.get? b := fun b hb => g1 b (decide_eq_true hb)
    have ge : G'.get? e = none := g2 e (by simp)
    have old : ∀ b o, hp.get? b = some o → G'.get? b = some o := fun b o q => (gk b (Nat.ne_of_lt (Nat.lt_of_lt_of_le (Heap.lt_size q) M.new))).trans (M.keep b o q)
    have ob : ObjOk X.prog X.w (upd H1 d (.xd [(f, v)])) G' d (.xd [(f, v)]) := ⟨_, hns.at (fun o q => (gk d M.dne).trans q), fun g => relO_one rv g⟩
    have J : Inv X pins σ (upd H1 d (.xd [(f, v)])) ⟨G', g, dr, tk', os⟩ := I1.laid (t' := tk') old M.dbig ob
    refine ⟨e, oe, fv, ⟨G', g, dr, tk', os⟩, _, .ref C, some d, rfl, J, fun b o q => ?_, ge, hoe, ⟨hc, hd, fun vs e => by rw [hdat] at e; cases e; exact h2⟩, hdat, h1, ?_, rfl, I1.bare, raises_own T.exC T.tyC, q1 C d T.nm (I1.hok.fresh M.dbig)⟩
    · by_cases hb : b = e
      · have q' : G'.get? b = some o := q
        rw [hb, ge] at q'; cases q'
      · exact (gk b hb).symm.trans q
    · rw [upd_ne (Ne.symm M.dne)]
      exact I1.hok.fresh M.new
end
section
variable {M : Ghost} {C : Ct M} {W W1 W2 W' : Wd M} {σ : L2.St} {ρ : DEnv} {e : Expr} {es : List Expr} {we : EW M} {pos p pos2 : Pos} {n f : Str}
@[simp] def wRaise (n f : Str) (we : EW M) (EX : Exn → DEnv → M.G → Prop) : SW M := fun _ ρ g => we ρ g fun d g' => EX ⟨n, [f], [d]⟩ ρ g'
theorem ds_raise {k : Nat} (T : RaisesF C.X.K n f) (hc : C.X.calm = true) (hr : Room k C.X.A) (tk : TakesD C) (he : DE C e we) (hg : Gl C.X n := by rfl) (hdb : (n == ("__debug__" : Str)) = false := by decide)
    (h1 : starEach (e :: []) C.X.env = (false, eval e C.X.env) :: starEach [] C.X.env := by rfl) (hpl : (backTo pos (starEach [] C.X.env)).any (·.1) = false := by rfl) :
    DS C (.Raise (some (.Call (.Name n p) [e] [] pos)) none pos2) (wRaise n f we C.EX) := ⟨fun σ ρ W k' E S l h =>
  tsOf_of (L2N.ps_raise hc tk (pmk_x T hr (pa_cons pe_tOf pa_nil h1) hg hdb h1 hpl)) (he.run σ ρ W _ _ S (fun v d W1 g1 k1 r1 q1 => by
    refine ⟨v, rfl, fun C' dx hn hd => ?_⟩
    have go := Go.lay (o := .xd [(f, v)]) k1 hd
    exact ⟨⟨n, [f], [d]⟩, ρ, W1.lay dx (.xd [(f, v)]), rfl, (S.step g1 k1).step go (k1.lay hd), ⟨hn, ⟨_, rfl⟩, .inr ⟨dx, [v], rfl, upd_same, rfl, .cons (r1.step go) .nil⟩⟩, q1⟩) h)⟩
end
end DL
set_option Elab.async false
set_option linter.all false
set_option maxRecDepth 100000
set_option maxHeartbeats 4000000
namespace DL
open PySem L2 PySem.W PySem.Calls PyProof.Rows
section
variable {X : Cx} {pins : List (Addr × Obj)} {σ : L2.St} {H : Hp} {s : Shared}
theorem flying_keeps {base : Heap} {l : List Env} {e : Addr} {Z : Obj → Prop} {h h' : Heap} (x : HandSPX.FlyingZ base l e Z h) (k : ∀ b o, h.get? b = some o → h'.get? b = some o) : HandSPX.FlyingZ base l e Z h' := by
  obtain ⟨f1, f2, f3, oe, vs, T, oT, ts, h1, h2, h3, h4, h5, h6, h7, h8, h9⟩ := x
  exact ⟨fun b o q => k b o (f1 b o q), f2, f3.of_keeps fun b o q _ => ⟨o, k b o q, rfl⟩, oe, vs, T, oT, ts, k _ _ h1, h2, h3, h4, h5, h6, k _ _ h7, h8, h9⟩
theorem upto_keeps {h h' : Heap} (k : ∀ b o, h.get? b = some o → h'.get? b = some o) : h.UpToSlots h' := fun b o q _ => ⟨o.slots, k b o q⟩
/-- into the suite's context, the exception not yet tracked -/
theorem Inv.into (I : Inv X pins σ H s) (a : Addr) : Inv (X.suite a (X.pn ++ pins)) [] σ H s :=
  ⟨I.ok.suite _ _, I.os, I.bare, I.base, I.loc, I.cell, I.free, I.freeC, fun p hp => I.pin p (by rw [List.append_nil] at hp; exact hp), I.hok, I.len⟩
theorem Inv.outOf {a : Addr} {pn' : List (Addr × Obj)} (I : Inv (X.suite a (X.pn ++ pins)) pn' σ H s) (ok : X.Ok) : Inv X pins σ H s :=
  ⟨ok, I.os, I.bare, I.base, I.loc, I.cell, I.free, I.freeC, fun p hp => I.pin p (List.mem_append_left _ hp), I.hok, I.len⟩
/-- an object that nobody tells of is tracked as it is -/
theorem Inv.track {a : Addr} {oe : Obj} {fv : Array Value} (I : Inv X pins σ H s) (he : s.heap.get? a = some oe) (hd : oe.data = .fields fv) (na : H a = none) (h0 : X.s_0.heap.get? a = none) (nL : a ≠ X.env.locals)
    (np : ∀ p ∈ X.pn ++ pins, p.1 ≠ a) : Inv X pins σ (upd H a (.frz oe exU)) s := by
  have n0 : ∀ {b : Addr} {o : Obj}, X.s_0.heap.get? b = some o → b ≠ a := fun {b o} e z => by rw [z, h0] at e; cases e
  refine ⟨I.ok, I.os, I.bare, ⟨I.base.keep, I.base.slot, fun b o e n hx => ?_, I.base.there, fun b xs e => ?_, fun b o u e => ?_, fun b ps e => ?_⟩, I.loc, I.cell, ?_, fun x c e => ?_, fun p hp => ?_, fun b u e => ?_, I.len⟩
  · rw [upd_ne (n0 e)]; exact I.base.free b o e n hx
  · have q := I.base.tups b xs e
    rw [upd_ne (ne_of_none q na)]; exact q
  · have q := I.base.frzs b o u e
    rw [upd_ne (ne_of_none q na)]; exact q
  · obtain ⟨more, q⟩ := I.base.tbls b ps e
    exact ⟨more, by rw [upd_ne (ne_of_none q na)]; exact q⟩
  · rw [upd_ne (Ne.symm nL)]; exact I.free
  · have hc : c ≠ a := fun z => by
      obtain ⟨v, o, ho, hv⟩ := I.cell x c e
      rw [z, he] at ho
      cases ho
      rw [hd] at hv
      cases hv
    rw [upd_ne hc]; exact I.freeC x c e
  · obtain ⟨h1, h2, h3⟩ := I.pin p hp
    exact ⟨h1, by rw [upd_ne (np p hp)]; exact h2, h3⟩
  · by_cases hb : b = a
    · subst hb
      rw [upd_same] at e
      cases e
      exact ⟨he, True.intro, ⟨_, he⟩, fun _ _ _ _ => True.intro⟩
    · rw [upd_ne hb] at e
      exact (I.hok b u e).stay (fun _ _ _ q => q) (fun c q => by rw [upd_ne (ne_of_none q na)]; exact q) fun c xs q => by rw [upd_ne (ne_of_none q na)]; exact q
end

/-- a clause's test -/
def CatchT (X : Cx) (e : Expr) (cat : Str → Bool → Prop) : Prop :=
  ∀ (a : Addr) (pn : List (Addr × Obj)) (pins : List (Addr × Obj)) (σ : L2.St) (H : Hp) (s : Shared) (n : Str) (C : Addr) (b : Bool) (Q : Bool → Shared → Prop) (E : Value → Shared → Prop), Inv (X.suite a pn) pins σ H s →
    Looks (model X.prog X.w) s.heap (typeOf (.ref a)) (.ref C) → nsIn X.K mainGlobals n = some (some (.ref C)) → cat n b →
    (∀ h' tk, (∀ b o, s.heap.get? b = some o → h'.get? b = some o) → Inv (X.suite a pn) pins σ H { s with heap := h', toks := tk } → Q b { s with heap := h', toks := tk }) →
    wpAny (model X.prog X.w) (X.A.mark (some (.ref a))) (eval e X.env) (fun c s1 => wpAny (model X.prog X.w) (X.A.mark (some (.ref a))) (excMatches (.ref a) c) Q E s1) E s
theorem catch_name {X : Cx} {x : Str} {p : Pos} {tab : List (Str × Bool)} (tb : ∀ p ∈ tab, SubT X.K p.1 x p.2) (hg : Gl X x := by rfl) (hd : (x == ("__debug__" : Str)) = false := by decide) : CatchT X (.Name x p) (fun n b => (n, b) ∈ tab) :=
  fun a pn pins σ H s n C b Q E I LT hn hc q => by
    obtain ⟨C', c, h1, h2, h3, h4, h5⟩ := (tb _ hc).ex
    rw [hn] at h1
    cases h1
    exact ld_cls (X := X.suite a pn) h2 hg hd I ((exm_one I.kIn LT h3).here (q s.heap s.toks (fun _ _ z => z) I))
/-- behind the suite its name is gone -/
def unset (i : Nat) (D : Ends) : Ends := { nx := fun σ H => D.nx (σ.set i none) H, rt := D.rt, bk := fun σ H => D.bk (σ.set i none) H, ct := fun σ H => D.ct (σ.set i none) H }
abbrev Clause := (Str → Bool → Prop) × Nat × (Addr → TS)
def wHds (Wout : WX) (D : Ends) (n : Str) (cls : Value) (d : Option Addr) : List Clause → L2.St → Hp → Prop
  | [], σ, H => Wout cls d σ H
  | (cat, i, ts) :: r, σ, H => ∃ b, cat n b ∧ (b = true → ∀ a oe, H a = none → L2N.Zn cls d oe → (∃ fv, oe.data = .fields fv) → ts a (unset i D) (σ.set i (some (.ref a))) (upd H a (.frz oe exU))) ∧ (b = false → wHds Wout D n cls d r σ H)
def WH (K : Frag) (Wout : WX) (D : Ends) (l : List Clause) : WX := fun cls d σ H => ∃ (n : Str) (C : Addr), cls = .ref C ∧ nsIn K mainGlobals n = some (some (.ref C)) ∧ wHds Wout D n cls d l σ H
inductive HdsT (X : Cx) : List ExceptHandler → List Clause → Prop
  | nil : HdsT X [] []
  | cons {e : Expr} {nm : Str} {b₀ : Stmt} {suite : List Stmt} {pos' : Pos} {cat : Str → Bool → Prop} {i : Nat} {ts : Addr → TS} {hds : List ExceptHandler} {l : List Clause} (hi : X.N[i]? = some nm) (hln : X.env.kindOf nm = some .local) (hc : CatchT X e cat)
      (hsu : ∀ a pn, PSs (X.suite a pn) (b₀ :: suite) (ts a)) (r : HdsT X hds l) : HdsT X (.ExceptHandler (some e) (some nm) (b₀ :: suite) pos' :: hds) ((cat, i, ts) :: l)
  | consN {e : Expr} {b₀ : Stmt} {suite : List Stmt} {pos' : Pos} {cat : Str → Bool → Prop} {i : Nat} {ts : Addr → TS} {hds : List ExceptHandler} {l : List Clause} (hi : X.N.length ≤ i) (hc : CatchT X e cat)
      (hsu : ∀ a pn, PSs (X.suite a pn) (b₀ :: suite) (ts a)) (r : HdsT X hds l) : HdsT X (.ExceptHandler (some e) none (b₀ :: suite) pos' :: hds) ((cat, i, ts) :: l)
theorem ps_tryD {X : Cx} {body : List Stmt} {h₀ : ExceptHandler} {hds : List ExceptHandler} {l : List Clause} {pos : Pos} {tb : WX → TS} {Wout : WX} (hs : X.stack = X.env :: X.outer) (hf : X.env.frame = some X.env.locals) (hex : X.ex = []) (hN : X.N.Nodup) (tk : L2N.Takes X Wout)
    (hb : ∀ (W : WX) (pn : List (Addr × Obj)) (xe : Value → Shared → Prop), L2N.Takes (X.tr pn xe) W → PassesOwn (model X.prog X.w) X.A X.env xe → PSs (X.tr pn xe) body (tb W))
    (hh : HdsT X (h₀ :: hds) l) : PS X (.Try body (h₀ :: hds) [] [] pos) (fun D σ H => tb (WH X.K Wout D l) D σ H) := ⟨fun pins s σ H D I h => by
  have ok := I.ok
  have hfr : X.A.frames = some (X.env :: X.outer) := by rw [ok.frames, hs]
  refine wpAny_Try_except ?_
  refine wpAny_mono ((hb (WH X.K Wout D l) (X.pn ++ pins) (fun e s₁ => wpAny (model X.prog X.w) X.A (noteFrame e X.env) (fun _ s₂ => wpAny (model X.prog X.w) X.A (setFlight e none) (fun _ s₃ =>
    wpAny (model X.prog X.w) X.A (handleBy e X.env (h₀ :: hds)) (SP X pins D) X.xe s₃) X.xe s₂) X.xe s₁) (fun u s' xx => ?_) PassesOwn.looking).run [] s σ H D (I.toTry _) h) (fun f s1 hsp => ?_) (fun e s1 he => he)
  · -- it is caught: where it stands, what is known of it
    obtain ⟨a, B, sI, pins', σ', H', cls, d, rfl, J', nb, up, sky, na, os, ag, n, C, rfl, hn, w⟩ := xx
    have J : Inv X pins σ' H' sI := J'.ofTry ok
    refine L2N.Sky.land L2N.Zn.steady hfr hf (by rw [← hs]; exact sky) fun h2 fl2 up2 => ?_
    have inS : a ∉ frs (X.env :: X.outer) := fun hm => by
      obtain ⟨oe, vs, he, _, hd⟩ := fl2.there
      obtain ⟨_, o', e', hnf⟩ := fl2.2.2.1.mem hm
      rw [he] at e'; cases e'
      exact hnf _ hd
    have nL : a ≠ X.env.locals := fun z => inS (List.mem_filterMap.mpr ⟨X.env, List.mem_cons_self, by rw [hf, z]⟩)
    have nI : sI.heap.get? a = none := by
      cases q : sI.heap.get? a with
      | none => rfl
      | some o =>
        have := nb a o q (by rw [hs]; exact inS)
        rw [fl2.2.1] at this
        cases this
    have n0 : X.s_0.heap.get? a = none := by
      cases q : X.s_0.heap.get? a with
      | none => rfl
      | some o =>
        obtain ⟨o', e⟩ := J.base.there a o q (by rw [hex]; simp)
        rw [nI] at e
        cases e
    have np : ∀ p ∈ X.pn ++ pins, p.1 ≠ a := fun p hp z => by
      have e := (J.pin p hp).1
      rw [z, nI] at e
      cases e
    -- clause by clause
    have go : ∀ {hs' : List ExceptHandler} {l' : List Clause}, HdsT X hs' l' → ∀ (h3 : Heap) (tk3 : Nat), HandSPX.FlyingZ B (X.env :: X.outer) a (L2N.Zn (.ref C) d) h3 → sI.heap.UpToSlots h3 → wHds Wout D n (.ref C) d l' σ' H' →
        wpAny (model X.prog X.w) X.A (handleBy (.ref a) X.env hs') (SP X pins D) X.xe { s' with heap := h3, toks := tk3 } := by
      intro hs' l' hk
      induction hk with
      | nil =>
        intro h3 tk3 fl3 up3 w
        refine wpAny_handleBy_nil ?_
        obtain ⟨k1, k2, k3, oe, vs, T, oT, ts', he, hz, hd, h1, hr⟩ := id fl3
        unfold PySem.passOn
        refine wpAny_bind (wpAny_field he hd h1 ?_)
        rw [if_neg (show ¬ ((Value.ref T == Value.none) = true) from by simp)]
        have J3 : Inv X pins σ' H' { s' with heap := h3, toks := tk3 } := J.landed (s' := { s' with heap := h3, toks := tk3 }) nb fl3.1 up3 os ag
        have out : wpAny (model X.prog X.w) X.A (setFlight (.ref a) X.env.frame) (fun _ s4 => wpAny (model X.prog X.w) X.A (throw (.ref a) : Sem Flow) (SP X pins D) X.xe s4) X.xe { s' with heap := h3, toks := tk3 } := by
          rw [hf]
          exact HandSPX.setFlight_upZ fl3 fun h4 hh4 up4 => wpAny_throw (tk _ _ ⟨a, B, sI, pins, σ', H', .ref C, d, rfl, J, nb, up3.trans up4, .inr (.inr (by rw [hs]; exact hh4)), na, os, ag, w⟩)
        first
          | exact wpAny_bind (wpAny_pure (wpAny_bind out))
          | exact wpAny_bind out
      | @cons e nm b₀ suite pos' cat i ts hds2 l2 hi hln hc hsu r ih =>
        intro h3 tk3 fl3 up3 w
        obtain ⟨b, hb1, hyes, hno⟩ := w
        have J3 : Inv X pins σ' H' { s' with heap := h3, toks := tk3 } := J.landed (s' := { s' with heap := h3, toks := tk3 }) nb fl3.1 up3 os ag
        obtain ⟨oe3, vs3, he3, hz3, hd3⟩ := fl3.there
        have LT : Looks (model X.prog X.w) h3 (typeOf (.ref a)) (.ref C) := fun A Q E s k q => wpAny_typeOf_ref (k _ _ he3) (by rw [hz3.1]; exact q)
        refine wpAny_handleBy_cons (codeAny_handlers_test ?_) (by intro q; cases q)
        refine hc a _ _ _ _ _ n C b _ _ (Inv.into J3 a) LT hn hb1 fun h4 tk4 kp I4 => ?_
        have fl4 := flying_keeps fl3 kp
        have up4 := up3.trans (upto_keeps kp)
        cases b with
        | false => exact ih h4 tk4 fl4 up4 (hno rfl)
        | true =>
          refine codeAny_handlers_suite_as ?_
          refine HandSPX.lands_againZ (s := { s' with heap := h4, toks := tk4 }) fl4 fun h5 fl5 up5 => ?_
          have J5 : Inv X pins σ' H' { s' with heap := h5, toks := tk4 } := J.landed (s' := { s' with heap := h5, toks := tk4 }) nb fl5.1 (up4.trans up5) os ag
          obtain ⟨oe5, vs5, he5, hz5, hd5⟩ := fl5.there
          have S5 := Inv.into (Inv.track J5 he5 hd5 na n0 nL np) a
          refine store_ok (X := X.suite a (X.pn ++ pins)) (v := .ref a) S5 hN hi (.inl hln) rfl (fun s6 S6 => ?_) (.inr hln)
          refine wpAny_mono ((hsu a (X.pn ++ pins)).run [] s6 _ _ _ S6 (hyes rfl a oe5 na hz5 ⟨_, hd5⟩)) (fun f s7 hsp => ?_) (fun _ _ z => False.elim z)
          have leave : ∀ {σ7 : L2.St} {H7 : Hp} {Q : Shared → Prop}, Inv (X.suite a (X.pn ++ pins)) [] σ7 H7 s7 → (∀ s8, Inv X pins (σ7.set i none) H7 s8 → Q s8) →
              wpAny (model X.prog X.w) X.A (do bindName X.env nm .none; unbindBehindTheSuite X.env nm pos') (fun _ s8 => Q s8) X.xe s7 := fun {σ7 H7 Q} S7 hq => gone_ok (Inv.outOf S7 ok) hN hi hln hq
          match f, hsp with
          | .next, ⟨σ7, H7, S7, q7⟩ => exact leave S7 fun s8 J8 => ⟨_, _, J8, q7⟩
          | .brk, ⟨σ7, H7, S7, q7⟩ => exact leave S7 fun s8 J8 => ⟨_, _, J8, q7⟩
          | .cont, ⟨σ7, H7, S7, q7⟩ => exact leave S7 fun s8 J8 => ⟨_, _, J8, q7⟩
          | .ret u, ⟨v7, σ7, H7, S7, r7, q7⟩ => exact leave S7 fun s8 J8 => ⟨_, _, _, J8, r7, q7⟩
      | @consN e b₀ suite pos' cat i ts hds2 l2 hi hc hsu r ih =>
        intro h3 tk3 fl3 up3 w
        obtain ⟨b, hb1, hyes, hno⟩ := w
        have J3 : Inv X pins σ' H' { s' with heap := h3, toks := tk3 } := J.landed (s' := { s' with heap := h3, toks := tk3 }) nb fl3.1 up3 os ag
        obtain ⟨oe3, vs3, he3, hz3, hd3⟩ := fl3.there
        have LT : Looks (model X.prog X.w) h3 (typeOf (.ref a)) (.ref C) := fun A Q E s k q => wpAny_typeOf_ref (k _ _ he3) (by rw [hz3.1]; exact q)
        refine wpAny_handleBy_cons (codeAny_handlers_test ?_) (by intro q; cases q)
        refine hc a _ _ _ _ _ n C b _ _ (Inv.into J3 a) LT hn hb1 fun h4 tk4 kp I4 => ?_
        have fl4 := flying_keeps fl3 kp
        have up4 := up3.trans (upto_keeps kp)
        cases b with
        | false => exact ih h4 tk4 fl4 up4 (hno rfl)
        | true =>
          refine codeAny_handlers_suite ?_
          refine HandSPX.lands_againZ (s := { s' with heap := h4, toks := tk4 }) fl4 fun h5 fl5 up5 => ?_
          have J5 : Inv X pins σ' H' { s' with heap := h5, toks := tk4 } := J.landed (s' := { s' with heap := h5, toks := tk4 }) nb fl5.1 (up4.trans up5) os ag
          obtain ⟨oe5, vs5, he5, hz5, hd5⟩ := fl5.there
          have S5 := Inv.into (Inv.track J5 he5 hd5 na n0 nL np) a
          have hy := hyes rfl a oe5 na hz5 ⟨_, hd5⟩
          rw [List.set_eq_of_length_le (by rw [J5.len]; exact hi)] at hy
          refine wpAny_mono ((hsu a (X.pn ++ pins)).run [] _ _ _ _ S5 hy) (fun f s7 hsp => ?_) (fun _ _ z => False.elim z)
          have same : ∀ {σ7 : L2.St} {H7 : Hp}, Inv (X.suite a (X.pn ++ pins)) [] σ7 H7 s7 → Inv X pins (σ7.set i none) H7 s7 := fun {σ7 H7} S7 => by
            have S8 := Inv.outOf S7 ok
            rw [List.set_eq_of_length_le (by rw [S8.len]; exact hi)]
            exact S8
          match f, hsp with
          | .next, ⟨σ7, H7, S7, q7⟩ => exact ⟨_, _, same S7, q7⟩
          | .brk, ⟨σ7, H7, S7, q7⟩ => exact ⟨_, _, same S7, q7⟩
          | .cont, ⟨σ7, H7, S7, q7⟩ => exact ⟨_, _, same S7, q7⟩
          | .ret u, ⟨v7, σ7, H7, S7, r7, q7⟩ => exact ⟨_, _, _, same S7, r7, q7⟩
    exact go hh h2 s'.toks fl2 (up.trans up2) w
  · match f, hsp with
    | .next, ⟨σ', H', J', q⟩ => exact wpAny_execs_nil ⟨σ', H', J'.ofTry ok, q⟩
    | .brk, ⟨σ', H', J', q⟩ => exact ⟨σ', H', J'.ofTry ok, q⟩
    | .cont, ⟨σ', H', J', q⟩ => exact ⟨σ', H', J'.ofTry ok, q⟩
    | .ret u, ⟨v, σ', H', J', r, q⟩ => exact ⟨v, σ', H', J'.ofTry ok, r, q⟩⟩
section
variable {M : Ghost} {C : Ct M} {W W1 W2 W' : Wd M} {σ : L2.St} {ρ : DEnv} {pos : Pos}
abbrev ClauseD (M : Ghost) := List (Str × Bool) × Nat × SW M
@[simp] def unsetK (i : Nat) (k : K3 M) : K3 M := { nx := fun ρ g => k.nx (ρ.set i .no) g, rt := k.rt, bk := fun ρ g => k.bk (ρ.set i .no) g, ct := fun ρ g => k.ct (ρ.set i .no) g }
@[simp] def wHs (EX : Exn → DEnv → M.G → Prop) (k : K3 M) (x : Exn) : List (ClauseD M) → DEnv → M.G → Prop
  | [], ρ, g => EX x ρ g
  | (tab, i, w) :: r, ρ, g => ∃ b, (x.cls, b) ∈ tab ∧ if b = true then w (unsetK i k) (ρ.set i (.im (.exn x.cls x.ns x.ds))) g else wHs EX k x r ρ g
@[simp] def wTry (wb : (Exn → DEnv → M.G → Prop) → SW M) (cl : List (ClauseD M)) (EX : Exn → DEnv → M.G → Prop) : SW M := fun k ρ g => wb (fun x ρ' g' => wHs EX k x cl ρ' g') k ρ g
inductive DHs (C : Ct M) : List ExceptHandler → List (ClauseD M) → Prop
  | nil : DHs C [] []
  | cons {e : Expr} {nm : Str} {b₀ : Stmt} {suite : List Stmt} {pos' : Pos} {tab : List (Str × Bool)} {i : Nat} {w : SW M} {hds : List ExceptHandler} {l : List (ClauseD M)} (hi : C.X.N[i]? = some nm) (hln : C.X.env.kindOf nm = some .local) (hc : CatchT C.X e fun n b => (n, b) ∈ tab)
      (hsu : ∀ a pn (B : Wd M), HotF (C.X.suite a pn).A B.F → DSs ⟨C.X.suite a pn, C.W0, xno, B⟩ (b₀ :: suite) w) (r : DHs C hds l) : DHs C (.ExceptHandler (some e) (some nm) (b₀ :: suite) pos' :: hds) ((tab, i, w) :: l)
  | consN {e : Expr} {b₀ : Stmt} {suite : List Stmt} {pos' : Pos} {tab : List (Str × Bool)} {i : Nat} {w : SW M} {hds : List ExceptHandler} {l : List (ClauseD M)} (hi : C.X.N.length ≤ i) (hc : CatchT C.X e fun n b => (n, b) ∈ tab)
      (hsu : ∀ a pn (B : Wd M), HotF (C.X.suite a pn).A B.F → DSs ⟨C.X.suite a pn, C.W0, xno, B⟩ (b₀ :: suite) w) (r : DHs C hds l) : DHs C (.ExceptHandler (some e) none (b₀ :: suite) pos' :: hds) ((tab, i, w) :: l)
theorem dhs_hds {hds : List ExceptHandler} {cl : List (ClauseD M)} (h : DHs C hds cl) : ∃ l', HdsT C.X hds l' ∧ ∀ (W : Wd M) (k : K3 M) (E : Ends), Lf C W k E → ∀ (x : Exn) (cls : Value) (d : Option Addr) (σ : L2.St) (ρ : DEnv) (W' : Wd M), Sat C σ ρ W' → Gs W W' → ExR C.X.K W' x cls d →
    wHs C.EX k x cl ρ W'.g → wHds (fun cls d σ H => EXs C σ cls d H) E x.cls cls d l' σ W'.H := by
  induction h with
  | nil => exact ⟨[], .nil, fun W k E l x cls d σ ρ W' S g hx h => ⟨x, ρ, W', rfl, S, hx, h⟩⟩
  | @cons e nm b₀ suite pos' tab i w hds cl hi hln hc hsu r ih =>
    obtain ⟨l', hl, ih⟩ := ih
    refine ⟨(fun n b => (n, b) ∈ tab, i, fun a D σ H => ∀ pn, tssOf (C.X.suite a pn) (b₀ :: suite) D σ H) :: l', .cons hi hln hc (fun a pn => ⟨fun pins s σ H D I h => h pn pins s I⟩) hl, fun W k E l x cls d σ ρ W' S g hx h => ?_⟩
    obtain ⟨b, hb, h⟩ := h
    refine ⟨b, hb, fun hb1 a oe na hz hf pn => ?_, fun hb0 => ?_⟩
    · subst hb1
      rw [if_pos rfl] at h
      have go := Go.lay (o := .frz oe exU) S.ok na
      have S2 := S.step go (S.ok.lay na)
      have rp : Rp C.X.K (upd W'.F a (.frz oe exU)) W'.R (.ref a) (.exn x.cls x.ns x.ds) := by
        obtain ⟨h1, ⟨Cc, rfl⟩, h3⟩ := hx
        rcases h3 with ⟨e1, e2, e3⟩ | ⟨dd, vs, e1, e2, e3, e4⟩
        · rw [e1, e2]
          rw [e3] at hz
          exact .exn0 h1 upd_same hz.zc hf
        · rw [e1] at hz
          exact .exn h1 upd_same hz.zc hf (go.sub _ _ e2) e3 (e4.step go)
      have S3 := S2.set (Go.refl _) S2.ok (s := .im (.exn x.cls x.ns x.ds)) (v := .ref a) rp i
      obtain ⟨fv, hfv⟩ := hf
      refine (hsu a pn (W'.lay a (.frz oe exU)) (.inr ⟨a, oe, fv, rfl, upd_same, hfv, hz.2.2 fv hfv⟩)).run _ _ (W'.lay a (.frz oe exU)) (unsetK i k) _ ⟨S3.ok, S3.go, S3.len, S3.sl, S3.dis, Gs.refl _⟩ ⟨fun σ' ρ' W2 g2 S' q => ?_, l.rt, fun σ' ρ' W2 g2 S' q => ?_, fun σ' ρ' W2 g2 S' q => ?_⟩ h
      · have S4 : Sat C σ' ρ' W2 := ⟨S'.ok, S'.go, S'.len, S'.sl, S'.dis, S2.gs.trans S'.gs⟩
        exact l.nx _ _ W2 ((g.trans go.s).trans g2) (S4.setNo i) q
      · have S4 : Sat C σ' ρ' W2 := ⟨S'.ok, S'.go, S'.len, S'.sl, S'.dis, S2.gs.trans S'.gs⟩
        exact l.bk _ _ W2 ((g.trans go.s).trans g2) (S4.setNo i) q
      · have S4 : Sat C σ' ρ' W2 := ⟨S'.ok, S'.go, S'.len, S'.sl, S'.dis, S2.gs.trans S'.gs⟩
        exact l.ct _ _ W2 ((g.trans go.s).trans g2) (S4.setNo i) q
    · subst hb0
      rw [if_neg (by simp)] at h
      exact ih W k E l x cls d σ ρ W' S g hx h
  | @consN e b₀ suite pos' tab i w hds cl hi hc hsu r ih =>
    obtain ⟨l', hl, ih⟩ := ih
    refine ⟨(fun n b => (n, b) ∈ tab, i, fun a D σ H => ∀ pn, tssOf (C.X.suite a pn) (b₀ :: suite) D σ H) :: l', .consN hi hc (fun a pn => ⟨fun pins s σ H D I h => h pn pins s I⟩) hl, fun W k E l x cls d σ ρ W' S g hx h => ?_⟩
    obtain ⟨b, hb, h⟩ := h
    refine ⟨b, hb, fun hb1 a oe na hz hf pn => ?_, fun hb0 => ?_⟩
    · subst hb1
      rw [if_pos rfl] at h
      have go := Go.lay (o := .frz oe exU) S.ok na
      have S2 := S.step go (S.ok.lay na)
      have rp : Rp C.X.K (upd W'.F a (.frz oe exU)) W'.R (.ref a) (.exn x.cls x.ns x.ds) := by
        obtain ⟨h1, ⟨Cc, rfl⟩, h3⟩ := hx
        rcases h3 with ⟨e1, e2, e3⟩ | ⟨dd, vs, e1, e2, e3, e4⟩
        · rw [e1, e2]
          rw [e3] at hz
          exact .exn0 h1 upd_same hz.zc hf
        · rw [e1] at hz
          exact .exn h1 upd_same hz.zc hf (go.sub _ _ e2) e3 (e4.step go)
      have S3 := S2.set (Go.refl _) S2.ok (s := .im (.exn x.cls x.ns x.ds)) (v := .ref a) rp i
      obtain ⟨fv, hfv⟩ := hf
      refine (hsu a pn (W'.lay a (.frz oe exU)) (.inr ⟨a, oe, fv, rfl, upd_same, hfv, hz.2.2 fv hfv⟩)).run _ _ (W'.lay a (.frz oe exU)) (unsetK i k) _ ⟨S3.ok, S3.go, S3.len, S3.sl, S3.dis, Gs.refl _⟩ ⟨fun σ' ρ' W2 g2 S' q => ?_, l.rt, fun σ' ρ' W2 g2 S' q => ?_, fun σ' ρ' W2 g2 S' q => ?_⟩ h
      · have S4 : Sat C σ' ρ' W2 := ⟨S'.ok, S'.go, S'.len, S'.sl, S'.dis, S2.gs.trans S'.gs⟩
        exact l.nx _ _ W2 ((g.trans go.s).trans g2) (S4.setNo i) q
      · have S4 : Sat C σ' ρ' W2 := ⟨S'.ok, S'.go, S'.len, S'.sl, S'.dis, S2.gs.trans S'.gs⟩
        exact l.bk _ _ W2 ((g.trans go.s).trans g2) (S4.setNo i) q
      · have S4 : Sat C σ' ρ' W2 := ⟨S'.ok, S'.go, S'.len, S'.sl, S'.dis, S2.gs.trans S'.gs⟩
        exact l.ct _ _ W2 ((g.trans go.s).trans g2) (S4.setNo i) q
    · subst hb0
      rw [if_neg (by simp)] at h
      exact ih W k E l x cls d σ ρ W' S g hx h
theorem ds_try {body : List Stmt} {h₀ : ExceptHandler} {hds : List ExceptHandler} {cl : List (ClauseD M)} {wb : (Exn → DEnv → M.G → Prop) → SW M} (hs : C.X.stack = C.X.env :: C.X.outer) (hf : C.X.env.frame = some C.X.env.locals) (hex : C.X.ex = []) (hN : C.X.N.Nodup) (tk : TakesD C)
    (hb : ∀ pn xe EX B, TakesD (M := M) ⟨C.X.tr pn xe, C.W0, EX, B⟩ → PassesOwn (model C.X.prog C.X.w) C.X.A C.X.env xe → DSs (M := M) ⟨C.X.tr pn xe, C.W0, EX, B⟩ body (wb EX)) (hh : DHs C (h₀ :: hds) cl) :
    DS C (.Try body (h₀ :: hds) [] [] pos) (wTry wb cl C.EX) := ⟨fun σ ρ W k E S l h => by
  obtain ⟨l', hl, chain⟩ := dhs_hds hh
  refine tsOf_of (ps_tryD (tb := fun Wx D σ H => ∀ pn xe, L2N.Takes (C.X.tr pn xe) Wx → PassesOwn (model C.X.prog C.X.w) C.X.A C.X.env xe → tssOf (C.X.tr pn xe) body D σ H) hs hf hex hN tk
    (fun Wx pn xe tk hp => ⟨fun pins s σ H D I h => h pn xe tk hp pins s I⟩) hl) (fun pn xe tk hp => ?_)
  have tk2 : TakesD (M := M) ⟨C.X.tr pn xe, C.W0, fun x ρ' g' => wHs C.EX k x cl ρ' g', W⟩ := tk.imp fun cls d σ' H' q => by
    obtain ⟨x, ρ', W', rfl, S', hx, q⟩ := q
    have S4 : Sat C σ' ρ' W' := ⟨S'.ok, S'.go, S'.len, S'.sl, S'.dis, ?_⟩
    · obtain ⟨h1, ⟨Cc, rfl⟩, h3⟩ := id hx
      exact ⟨x.cls, Cc, rfl, h1, chain W k E l x _ d σ' ρ' W' S4 S'.gs hx q⟩
    · exact S.gs.trans S'.gs
  exact (hb pn xe _ W tk2 hp).run σ ρ W k E ⟨S.ok, S.go, S.len, S.sl, S.dis, Gs.refl W⟩ ⟨fun σ' ρ' W' g S' q => l.nx σ' ρ' W' g ⟨S'.ok, S'.go, S'.len, S'.sl, S'.dis, S.gs.trans S'.gs⟩ q, l.rt, fun σ' ρ' W' g S' q => l.bk σ' ρ' W' g ⟨S'.ok, S'.go, S'.len, S'.sl, S'.dis, S.gs.trans S'.gs⟩ q,
    fun σ' ρ' W' g S' q => l.ct σ' ρ' W' g ⟨S'.ok, S'.go, S'.len, S'.sl, S'.dis, S.gs.trans S'.gs⟩ q⟩ h⟩
end
section
variable {K : Frag} {n x f : Str} {b d : Bool} {ms : List Str} {tab : List (Str × Bool)} {ns : List Str}
theorem tbS_nil : ∀ p ∈ ([] : List (Str × Bool)), SubT K p.1 x p.2 := fun _ h => by cases h
theorem tbS_cons (h : SubT K n x b) (r : ∀ p ∈ tab, SubT K p.1 x p.2) : ∀ p ∈ (n, b) :: tab, SubT K p.1 x p.2 := fun p hp => by
  rcases List.mem_cons.mp hp with rfl | hp
  · exact h
  · exact r p hp
theorem tbA_nil : ∀ p ∈ ([] : List (Str × Bool)), SubA K p.1 ms p.2 := fun _ h => by cases h
theorem tbA_cons (h : SubA K n ms b) (r : ∀ p ∈ tab, SubA K p.1 ms p.2) (e : b = d := by rfl) : ∀ p ∈ (n, d) :: tab, SubA K p.1 ms p.2 := fun p hp => by
  subst e
  rcases List.mem_cons.mp hp with rfl | hp
  · exact h
  · exact r p hp
theorem tbF_nil : ∀ n ∈ ([] : List Str), FldT K n f := fun _ h => by cases h
theorem tbF_cons (h : FldT K n f) (r : ∀ m ∈ ns, FldT K m f) : ∀ m ∈ n :: ns, FldT K m f := fun m hm => by
  rcases List.mem_cons.mp hm with rfl | hm
  · exact h
  · exact r m hm
end
section
variable {M : Ghost} {C : Ct M} {W W1 W2 W' : Wd M} {σ : L2.St} {ρ : DEnv} {pos : Pos}
theorem de_dic0 : DE C (.Dict [] [] pos) (wC (.dic [])) := ⟨fun σ ρ W Q q S hQ hw =>
  tOf_of pe_dnewK (fun d hd => hQ _ _ (W.lay d (.dK [])) (Go.lay S.ok hd) (S.ok.lay hd) (.dic upd_same .nil) hw)⟩
theorem de_dic1 (y : List Nat) {x : Str} {i : Int} {j j2 : Nat} {p1 p2 : Pos} (h : x.cps.toList = y := by decide) : DE C (.Dict [some (.Constant (.str x) j p1)] [.Constant (.int i) j2 p2] pos) (wC (.dic [(.inr (S y), .int i)])) := ⟨fun σ ρ W Q q S hQ hw =>
  tOf_of (pe_disp (pps_cons pe_str pe_int pps_nil) (by rfl) (by rfl) (fun z => by cases z) (by simp)) (fun d hd => ⟨upd_same, [(.inr x, .int i)], rfl, by simp, by
    subst h
    rw [upd_upd, S_of] at *
    exact hQ _ _ (W.lay d (.dK [(.inr x, .int i)])) (Go.lay S.ok hd) (S.ok.lay hd) (.dic upd_same (.cons (.int i) .nil)) (by rw [← S_of x] ; exact hw)⟩)⟩
end
end DL
set_option Elab.async false
set_option linter.all false
set_option maxRecDepth 100000
set_option maxHeartbeats 1000000
namespace DL
open PySem L2
section
variable {X : Cx}
/-- xs.count(y), flat items -/
def rCntF (K : PySem.W.Frag) : V → List V → Hp → VK → Prop := fun x xs H Q => ∃ (a : Addr) (ys : List V) (y : V), x = V.ref a ∧ xs = [y] ∧ SqL K H a ys ∧ flatV y = true ∧ ys.all flatV = true ∧ Q (.int ((ys.countP fun z => eqV z y : Nat) : Int)) H
theorem countU {y : V} : ∀ {ys : List V} {us : List Value}, Vals ys us → ys.all flatV = true → us.countP (eqU y) = ys.countP fun z => eqV z y
  | _, _, .nil, _ => rfl
  | z :: ys, u :: us, .cons r t, f => by
    rw [List.all_cons, Bool.and_eq_true] at f
    rw [List.countP_cons, List.countP_cons, countU t f.2, eqU_of r f.1]
theorem mt_countF : MtR X "list.count" (rCntF X.K) := by
  intro pins s σ H x xs v us Q I rx rxs h
  obtain ⟨a, ys, y, rfl, rfl, hs, fy, fys, q⟩ := h
  cases rx
  cases rxs with
  | cons ry rt =>
    rename_i uy ut
    cases rt
    obtain ⟨its, rv, ⟨⟨cls, dd, data, sl⟩, n, ho, hc, hdn, hd⟩, hlen⟩ := I.list hs
    simp only at hc hd
    subst hc hd
    refine call_meets PySem.F.slot_list_count ⟨_, ho, rfl⟩ PySem.F.entry_list_count (PySem.F.args_list_count_2 _ _)
      (PySem.SeqAt.list_countAt a its.toArray n dd sl uy (eqU y)) ⟨ho, fun u' hu' => mem_eqAt ry fy rv fys u' (by simpa using hu'), ?_⟩
    have ec : its.toArray.toList.countP (eqU y) = ys.countP fun z => eqV z y := countU rv fys
    rw [ec]
    exact ⟨.int _, H, I.tok _, ⟨_, rfl⟩, q⟩
end
section
variable {M : Ghost} {C : Ct M} {W W1 W2 W' : Wd M} {σ : L2.St} {ρ : DEnv} {e o : Expr} {es : List Expr} {we wo : EW M} {pos apos : Pos} {wa : AW M}
def oNil (f : Bool → Bool) : D → D → (D → Prop) → Prop
  | .lst x, .lst [], q => q (.bl (f x.isEmpty))
  | _, _, _ => False
def oNilT (f : Bool → Bool) : D → D → (D → Prop) → Prop
  | .tup x, .tup [], q => q (.bl (f x.isEmpty))
  | _, _, _ => False
@[simp] theorem sm_nilT {f : Bool → Bool} {ds : List D} {q : D → Prop} : oNilT f (.tup ds) (.tup []) q = q (.bl (f ds.isEmpty)) := rfl
@[simp] theorem sm_nil {f : Bool → Bool} {ds : List D} {q : D → Prop} : oNil f (.lst ds) (.lst []) q = q (.bl (f ds.isEmpty)) := rfl
@[simp] def wCount (wo we : EW M) : EW M := fun ρ g q => wo ρ g fun d g1 => ∃ ds, d = .lst ds ∧ we ρ g1 fun y g2 => flatD y = true ∧ ds.all flatD = true ∧ q (.int ((ds.countP fun z => eqF z y : Nat) : Int)) g2
theorem rpa_eqF {K : PySem.W.Frag} {F : Hp} {R : List Addr} {u : V} {y : D} (r : Rp K F R u y) : ∀ {vs : List V} {ds : List D}, RpA K F R vs ds → (vs.countP fun z => eqV z u) = ds.countP fun z => eqF z y
  | _, _, .nil => rfl
  | _, _, .cons a t => by rw [List.countP_cons, List.countP_cons, rpa_eqF r t, rp_eqF a r]
theorem de_count (ho : DP C o wo) (he : DE C e we) (hbase : attributeBase o "count" C.X.env (eval o C.X.env) = eval o C.X.env := by rfl)
    (hfew : ((backTo pos (starEach [e] C.X.env)).all (fun x => !x.1) && (backToKw pos (keywordEach [] C.X.env)).all (fun x => x.1.isSome) && decide ([e].length + ([] : List Keyword).length + (if ([] : List Keyword).isEmpty then 0 else 1) < 30)) = true := by rfl)
    (hline : (apos.endLine == pos.line) = true := by rfl) (hs : starEach [e] C.X.env = [(false, eval e C.X.env)] := by rfl) (hpl : (backTo pos (starEach [] C.X.env)).any (·.1) = false := by rfl) :
    DE C (.Call (.Attribute o "count" apos) [e] [] pos) (wCount wo we) := ⟨fun σ ρ W Q q S hQ hw =>
  tOf_of (pe_bm PySem.F.plainAttrs_list PySem.F.slot_list_count PySem.F.type_list_count mt_countF pe_tOf (pa_cons pe_tOf pa_nil hs) hbase hfew hline hs hpl) (ho.run σ ρ W _ _ S (fun v d W1 g1 k1 r1 q1 => by
    cases d with
    | lst ds =>
      obtain ⟨p, vs, rfl, hp, np, ra⟩ := r1.lst_inv k1
      obtain ⟨ds', e1, q1⟩ := q1
      cases e1
      refine ⟨.inl ⟨rfl, _, .of hp⟩, he.run σ ρ W1 _ _ (S.step g1 k1) (fun u y W2 g2 k2 r2 q2 => ?_) q1⟩
      obtain ⟨h1, h2, q2⟩ := q2
      have ra2 := ra.step g2
      have hp2 := g2.keep _ _ hp np
      refine ⟨p, vs, u, rfl, rfl, .of hp2, (rp_flat r2).trans h1, (rpa_flat ra2).trans h2, hQ _ _ W2 (g1.trans g2) k2 (.int _) ?_⟩
      rw [rpa_eqF r2 ra2]
      exact q2
    | _ => obtain ⟨_, h, _⟩ := q1; cases h) hw)⟩
end
end DL
set_option Elab.async false
set_option linter.all false
set_option maxRecDepth 100000
set_option maxHeartbeats 1000000
namespace DL
open PySem L2 PySem.W
section
variable {K : Frag}
theorem kit_of {t c : Value} {b : Bool} (h : kitCls K t c = some b) (hs : t = c → b = true) : kitOne K t c = some b := by
  unfold kitOne
  by_cases e : t = c
  · subst e
    rw [if_pos (beq_self_eq_true _), hs rfl]
  · rw [if_neg (by simpa using e)]
    exact h
theorem kitCls_ref {C : Addr} {t : Value} {b : Bool} (hdct : hasDictIn K C = true) (ht : typeIn K (.ref C) = some (.type "type")) (h4 : subIn K t (.ref C) = some b) : kitCls K t (.ref C) = some b := by
  obtain ⟨cd, hc, _⟩ := any_some hdct
  have e2 : ((clsIn K C).isSome && typeIn K (.ref C) == some (.type "type")) = true := by rw [hc, ht] <;> rfl
  show (if ((clsIn K C).isSome && typeIn K (.ref C) == some (.type "type")) = true then subIn K t (.ref C) else none) = some b
  rw [if_pos e2]
  exact h4
/-- both classes of the text -/
theorem subT_own {n m : Str} {b : Bool} {C C' : Addr} (h1 : nsIn K mainGlobals n = some (some (.ref C))) (h2 : nsIn K mainGlobals m = some (some (.ref C'))) (sb : subIn K (.ref C) (.ref C') = some b) (ss : subIn K (.ref C) (.ref C) = some true)
    (eb : subIn K (.ref C') (.type "BaseException") = some true) (hd : hasDictIn K C' = true) (ty : typeIn K (.ref C') = some (.type "type")) (h5 : ExcC K C) : SubT K n m b :=
  .mk' h1 (.own h2) (exm_ref eb hd ty sb) (kit_of (kitCls_ref hd ty sb) fun e => by cases e; rw [ss] at sb; cases sb; rfl) h5
/-- the other one built in -/
theorem subT_ty {n m : Str} {T : String} {b : Bool} {C : Addr} (h1 : nsIn K mainGlobals n = some (some (.ref C))) (h2 : nsIn K mainGlobals m = some none) (hb : bootBuiltins m = some (.type T)) (hm : m ≠ "__name__") (sb : subIn K (.ref C) (.type T) = some b)
    (se : subIn K (.type T) (.type "BaseException") = some true) (mt : kitMeta T = true) (h5 : ExcC K C) : SubT K n m b := by
  have hk : kitCls K (.ref C) (.type T) = some b := by
    show (if kitMeta T = true then subIn K (.ref C) (.type T) else none) = some b
    rw [if_pos mt]
    exact sb
  refine .mk' h1 (.ty h2 hb hm) ?_ (kit_of hk fun e => nomatch e) h5
  unfold exmOne
  rw [se]
  exact hk
theorem exInit_of {C N : Addr} {nm q : Str} {bs bm : List Value} {sn : List Str} {sub : List Value} {ab : Bool} {col : Option Bool} {dd : Option Addr} {m0 m1 m2 m3 m5 : Option Value} {bmB : List Value} {newId : String}
    (xL : K.lookup C = some (excClassObj nm q C N bs bm true sn sub ab col dd m0 m1 m2 m3 m5 newId)) (te : excTail bmB bm = true) : excInitIn K C bmB newId = true ∧ excOver K C bmB = true := by
  constructor
  · unfold excInitIn
    rw [xL]
    simp [excClassObj, te]
  · unfold excOver clsIn
    rw [xL]
    simp [excClassObj, te]
end
end DL
set_option Elab.async false
set_option linter.all false
set_option maxRecDepth 100000
set_option maxHeartbeats 1000000
namespace DL
open PySem L2 PySem.W
section
variable {X : Cx}
/-- list(text) -/
def rListS : List V → Hp → VK → Prop := fun xs H Q => ∃ z : Str, xs = [.str z] ∧ z.length ≤ sizeLine ∧ ∀ l, H l = none → Q (.ref l) (upd H l (.lst (z.cps.toList.map fun c => V.str ⟨#[c]⟩)))
theorem vals_signs {z : Str} : ∀ (n : Nat) (acc : List Value), acc.length = z.cps.toList.length - n → n ≤ z.cps.toList.length → (∀ j v, acc[j]? = some v → ∃ c u, z.cps.toList[n + j]? = some c ∧ v = .str ⟨#[c]⟩ u) → Vals ((z.cps.toList.drop n).map fun c => V.str ⟨#[c]⟩) acc
  | n, [], hl, hn, h => by
    rw [List.drop_of_length_le (by rw [List.length_nil] at hl; omega)]
    exact .nil
  | n, v :: acc, hl, hn, h => by
    have hlt : n < z.cps.toList.length := by rw [List.length_cons] at hl; omega
    rw [List.drop_eq_getElem_cons hlt, List.map_cons]
    obtain ⟨c, u, hc, rfl⟩ := h 0 v rfl
    rw [Nat.add_zero, List.getElem?_eq_getElem hlt] at hc
    cases hc
    refine .cons ⟨u, rfl⟩ (vals_signs (n + 1) acc (by rw [List.length_cons] at hl; omega) (by omega) fun j v hv => ?_)
    have := h (j + 1) v hv
    rwa [show n + (j + 1) = n + 1 + j by omega] at this
theorem call_list_strs (hc : X.calm = true) : CallR X (.type "list") rListS := by
  intro pins s σ H xs us Q I r h
  obtain ⟨z, rfl, hz, q⟩ := h
  obtain ⟨u, rfl, rx⟩ := vals1 r
  obtain ⟨t, rfl⟩ := rx
  refine call_list_str (I.ok.hd hc) z t (fun h' tk acc' c' kp e hacc => ?_) hz
  have rv : Vals (z.cps.toList.map fun c => V.str ⟨#[c]⟩) acc'.toList := by
    have := vals_signs (z := z) 0 acc'.toList (by have := hacc.1; simp at this ⊢; omega) (Nat.zero_le _) fun j v hv => by
      obtain ⟨c, u, e1, e2⟩ := hacc.2 j v (by simpa using hv)
      exact ⟨c, u, by simpa using e1, e2⟩
    simpa using this
  exact ⟨.ref s.heap.objs.size, _, I.laid (t' := tk) kp (Nat.le_refl _) (show ObjOk X.prog X.w _ h' _ (.lst (z.cps.toList.map fun c => V.str ⟨#[c]⟩)) from ⟨by rw [List.length_map, Array.length_toList]; exact hz, acc'.toList, c', rv, by simpa using e⟩), rfl, q _ (I.hok.fresh (Nat.le_refl _))⟩
end
section
variable {M : Ghost} {C : Ct M}
def cListX : List D → (List D → Prop) → Prop
  | [.lst ds], q => q ds
  | [.tup ds], q => q ds
  | [.str x], q => x.length ≤ sizeLine ∧ q (x.map fun c => .str [c])
  | _, _ => False
theorem rpa_signs {W : Wd M} {K : PySem.W.Frag} : ∀ {xs : List Nat}, RpA K W.F W.R (xs.map fun c => V.str ⟨#[c]⟩) (xs.map fun c => D.str [c])
  | [] => .nil
  | c :: xs => .cons (rp_strS _ rfl) rpa_signs
theorem calln_listX (hc : C.X.calm = true) : CallN C (.type "list") cListX := by
  refine ⟨_, call_list_of.or (call_list_strs hc), fun W vs ds Q q k r hQ h => ?_⟩
  have e : ∃ d, ds = [d] := by
    cases ds with
    | nil => exact h.elim
    | cons a t =>
      cases t with
      | nil => exact ⟨a, rfl⟩
      | cons b c => cases a <;> exact h.elim
  obtain ⟨d, rfl⟩ := e
  obtain ⟨v, rfl, r0⟩ := pair1 r
  cases d with
  | lst ds =>
    obtain ⟨p, vs, rfl, hp, np, ra⟩ := r0.lst_inv k
    exact .inl ⟨p, vs, rfl, .inl (.of hp), fun t ht => hQ t _ _ (W.new t (.lst vs)) (Go.new k ht) (k.new ht) rfl upd_same (k.noF ht) (k.noR ht) ht ra h⟩
  | tup ds =>
    obtain ⟨p, vs, rfl, hp, ra⟩ := r0.tup_inv
    exact .inl ⟨p, vs, rfl, .inr (same_tup k.sub hp), fun t ht => hQ t _ _ (W.new t (.lst vs)) (Go.new k ht) (k.new ht) rfl upd_same (k.noF ht) (k.noR ht) ht ra h⟩
  | str x =>
    obtain ⟨z, rfl, rfl⟩ := r0.str_inv
    exact .inr ⟨z, rfl, by rw [str_len]; exact h.1, fun t ht => hQ t _ _ (W.new t (.lst (z.cps.toList.map fun c => V.str ⟨#[c]⟩))) (Go.new k ht) (k.new ht) rfl upd_same (k.noF ht) (k.noR ht) ht rpa_signs h.2⟩
  | _ => exact h.elim
@[simp] theorem sm_listX1 {ds : List D} {qn : List D → Prop} : (cListX [.lst ds] qn) = (qn ds) := rfl
@[simp] theorem sm_listX2 {ds : List D} {qn : List D → Prop} : (cListX [.tup ds] qn) = (qn ds) := rfl
@[simp] theorem sm_listX3 {x : List Nat} {qn : List D → Prop} : (cListX [.str x] qn) = (x.length ≤ sizeLine ∧ qn (x.map fun c => .str [c])) := rfl
end
end DL
set_option Elab.async false
set_option linter.all false
set_option maxRecDepth 100000
set_option maxHeartbeats 1000000
namespace DL
open PySem L2
section
variable {M : Ghost} {C : Ct M} {W W1 W2 W' : Wd M} {σ : L2.St} {ρ : DEnv} {e : Expr} {we : EW M} {pos : Pos}
end
end DL
set_option Elab.async false
set_option linter.all false
set_option maxRecDepth 100000
set_option maxHeartbeats 4000000
namespace L2
open PySem PySem.Spec PyProof.Rows
section
variable {X : Cx}
end
end L2
namespace DL
open PySem L2
section
variable {M : Ghost} {C : Ct M}
def oMulT : D → D → (D → Prop) → Prop
  | .tup x, .int j, q => x ≠ [] ∧ 0 ≤ j ∧ j ≤ 1000 ∧ x.length ≤ 1000 ∧ q (.tup (List.replicate j.toNat x).flatten)
  | _, _, _ => False
@[simp] theorem sm_mulT {ds : List D} {j : Int} {q : D → Prop} : (oMulT (.tup ds) (.int j) q) = (ds ≠ [] ∧ 0 ≤ j ∧ j ≤ 1000 ∧ ds.length ≤ 1000 ∧ q (.tup (List.replicate j.toNat ds).flatten)) := rfl
end
end DL
set_option Elab.async false
set_option linter.all false
set_option maxRecDepth 100000
set_option maxHeartbeats 1000000
namespace DL
open PySem L2
section
variable {M : Ghost} {C : Ct M} {W W1 W2 W' : Wd M} {σ : L2.St} {ρ : DEnv} {e e1 e2 : Expr} {we w1 w2 wi : EW M} {pos p1 p2 s1 s2 apos cpos : Pos}
end
end DL
set_option Elab.async false
set_option linter.all false
set_option maxRecDepth 100000
set_option maxHeartbeats 3200000
namespace DL
open PySem L2
def kyE (e : Int × Value) : Key := match e.2 with
  | .int i _ => .inl i
  | .str x _ => .inr x
  | _ => .inl 0
theorem kyE_is {k : Key} {e : Int × Value} (h : keyIs k e.2 = true) : kyE e = k := by
  obtain ⟨z, v⟩ := e
  rcases keyIs_shape h with ⟨i, u, rfl, rfl⟩ | ⟨x, u, rfl, rfl⟩ <;> rfl
/-- the set at an address, of these members -/
structure MSet (P : Program) (w : World) (h : Heap) (a : Addr) (o : Obj) (es : Array (Int × Value)) (ep : Nat) (tb : SetTable) (L : List Key) : Prop where
  at_ : h.get? a = some o
  ex : o.ExactSet
  dat : o.data = .set es ep tb
  el : ElemsOf (mixKind P w) es.toList
  ks : (es.toList.map kyE).Perm L
  nd : L.Nodup
  few : es.size < scanBound
  fit : tb.fits es.size = true
  ris : Ris tb.place.toList
  led : w.params.followText "set-order" = true ∨ tb.led = true
def IsM (P : Program) (w : World) (h : Heap) (a : Addr) (L : List Key) : Prop := ∃ o es ep tb, MSet P w h a o es ep tb L
section
variable {P : Program} {w : World} {A : Around} {E : Value → Shared → Prop} {s : Shared} {a : Addr} {L : List Key} {k : Key} {v : Value}
theorem MSet.size {h : Heap} {o : Obj} {es : Array (Int × Value)} {ep : Nat} {tb : SetTable} (M : MSet P w h a o es ep tb L) : es.size = L.length := by
  have := M.ks.length_eq
  rw [List.length_map, Array.length_toList] at this
  exact this
theorem MSet.mem {h : Heap} {o : Obj} {es : Array (Int × Value)} {ep : Nat} {tb : SetTable} (M : MSet P w h a o es ep tb L) (j : Key) : j ∈ L ↔ ∃ e ∈ es.toList, keyIs j e.2 = true := by
  rw [← M.ks.mem_iff, List.mem_map]
  constructor
  · rintro ⟨e, he, rfl⟩
    obtain ⟨⟨j, hj, _⟩, _⟩ := M.el e he
    exact ⟨e, he, by rw [kyE_is hj]; exact hj⟩
  · rintro ⟨e, he, hj⟩
    exact ⟨e, he, kyE_is hj⟩
theorem IsM.keep {h h' : Heap} (R : IsM P w h a L) (k : ∀ o, h.get? a = some o → h'.get? a = some o) : IsM P w h' a L := by
  obtain ⟨o, es, ep, tb, M⟩ := R
  exact ⟨o, es, ep, tb, k o M.at_, M.ex, M.dat, M.el, M.ks, M.nd, M.few, M.fit, M.ris, M.led⟩
theorem IsM.fresh (h : Heap) : IsM P w (h.push { cls := .type "set", dict := none, data := .set #[] 0 (.fresh 0 0 (!w.params.followText "set-order")) }) h.objs.size [] := by
  refine ⟨_, #[], 0, _, Heap.get?_push_size _ rfl, ⟨rfl, rfl, rfl⟩, rfl, fun e he => by simp at he, by simp, List.nodup_nil, by decide, by rfl, List.Pairwise.nil, ?_⟩
  cases z : w.params.followText "set-order"
  · exact .inr rfl
  · exact .inl rfl
end

section
variable {X : Cx}
end

section
variable {M : Ghost} {C : Ct M} {e : Expr} {wA : AW M} {p p2 pos pos2 : Pos}
end
end DL
set_option Elab.async false
set_option linter.all false
set_option maxRecDepth 100000
set_option maxHeartbeats 1000000
namespace DL
open PySem L2
section
variable {M : Ghost} {C : Ct M}
def oIsTB (f : Bool → Bool) : D → D → (D → Prop) → Prop
  | .bl a, .bl b, q => q (.bl (f (decide (a = b))))
  | _, _, _ => False
def oIsT := oIsTB id
def oNotT := oIsTB not
@[simp] theorem sm_isT {a b : Bool} {q : D → Prop} : (oIsT (.bl a) (.bl b) q) = (q (.bl (decide (a = b)))) := rfl
@[simp] theorem sm_notT {a b : Bool} {q : D → Prop} : (oNotT (.bl a) (.bl b) q) = (q (.bl (!decide (a = b)))) := rfl
end
end DL
set_option Elab.async false
set_option linter.all false
set_option maxRecDepth 100000
set_option maxHeartbeats 1000000
namespace DL
open PySem L2
section
variable {M : Ghost} {C : Ct M} {o e : Expr} {wo we : EW M} {apos pos : Pos}
end
end DL
set_option Elab.async false
set_option linter.all false
set_option maxRecDepth 100000
set_option maxHeartbeats 1000000
namespace DL
open PySem L2
def valD (kds : List (Key × D)) (k : Key) : Option D := (kds.find? fun kv => decide (kv.1 = k)).map (·.2)
section
variable {K : PySem.W.Frag} {F : Hp} {R : List Addr}
theorem rpK_val {k : Key} {d : D} : ∀ {kvs : List (Key × V)} {kds : List (Key × D)}, RpK K F R kvs kds → valD kds k = some d → ∃ v, valV kvs k = some v ∧ Rp K F R v d
  | _, _, .nil, h => by cases h
  | (k1, v1) :: kvs, (_, d1) :: kds, .cons r t, h => by
    by_cases c : k1 = k
    · have h' : some d1 = some d := by
        unfold valD at h
        rw [List.find?_cons_of_pos (by simpa using c)] at h
        exact h
      cases h'
      exact ⟨v1, valV_pos c, r⟩
    · unfold valD at h
      rw [List.find?_cons_of_neg (by simpa using c)] at h
      obtain ⟨v, e, rv⟩ := rpK_val t h
      exact ⟨v, (valV_neg c).trans e, rv⟩
end
section
variable {M : Ghost} {C : Ct M} {e e2 ke ve : Expr} {we wi wk wv : EW M} {pos p1 : Pos}
end
section
variable {M : Ghost} {C : Ct M} {W W1 W2 W3 : Wd M} {σ : L2.St} {ρ : DEnv} {pos : Pos}
end
section
variable {M : Ghost} {C : Ct M} {e : Expr}
end
end DL
set_option Elab.async false
set_option linter.all false
set_option maxRecDepth 100000
set_option maxHeartbeats 1000000
namespace DL
open PySem L2
section
variable {K : PySem.W.Frag} {F : Hp} {R : List Addr}
end
section
variable {M : Ghost} {C : Ct M} {e : Expr} {we : EW M} {pos p1 p2 apos bpos cpos dpos : Pos}
end
end DL
set_option Elab.async false
set_option linter.all false
set_option maxRecDepth 100000
set_option maxHeartbeats 1000000
namespace DL
open PySem L2
section
variable {M : Ghost} {C : Ct M} {o e : Expr} {wo we : EW M} {apos pos : Pos}
end
end DL
set_option Elab.async false
set_option linter.all false
set_option maxRecDepth 100000
set_option maxHeartbeats 1000000
namespace DL
open PySem L2
section
variable {X : Cx}
end
section
variable {M : Ghost} {C : Ct M}
end
end DL
set_option Elab.async false
set_option linter.all false
set_option maxRecDepth 100000
set_option maxHeartbeats 1000000
namespace DL
open PySem L2
section
variable {M : Ghost} {C : Ct M} {o : Expr} {wo : EW M} {apos pos : Pos}
end
end DL
set_option Elab.async false
set_option linter.all false
set_option maxRecDepth 100000
set_option maxHeartbeats 1000000
namespace DL
open PySem L2 PySem.W
section
variable {prog : Program} {w : World} {A : Around} {E : Value → Shared → Prop} {s : Shared}
end
section
variable {X : Cx}
end
section
variable {M : Ghost} {C : Ct M}
def cTupleX : List D → (D → Prop) → Prop
  | [.lst ds], q => q (.tup ds)
  | [.tup ds], q => q (.tup ds)
  | [.str x], q => x.length ≤ sizeLine ∧ q (.tup (x.map fun c => .str [c]))
  | _, _ => False
@[simp] theorem sm_tupleX1 {ds : List D} {q : D → Prop} : (cTupleX [.lst ds] q) = (q (.tup ds)) := rfl
@[simp] theorem sm_tupleX2 {ds : List D} {q : D → Prop} : (cTupleX [.tup ds] q) = (q (.tup ds)) := rfl
@[simp] theorem sm_tupleX3 {x : List Nat} {q : D → Prop} : (cTupleX [.str x] q) = (x.length ≤ sizeLine ∧ q (.tup (x.map fun c => .str [c]))) := rfl
end
end DL
set_option Elab.async false
set_option linter.all false
set_option maxRecDepth 100000
set_option maxHeartbeats 1000000
namespace DL
open PySem PySem.Spec PyProof.Rows L2
section
variable {M : Ghost} {C : Ct M} {e : Expr} {we : EW M} {pos : Pos} {k1 : Nat} {p1 p2 p3 : Pos}
end
/-- whether a text stands somewhere in another -/
def subB (x z : List Nat) : Bool := (List.range (z.length + 1)).any fun p => decide ((z.drop p).take x.length = x)
section
variable {M : Ghost} {C : Ct M} {W W1 W2 W' : Wd M} {σ : L2.St} {ρ : DEnv} {e : Expr} {es : List Expr} {we : EW M} {pos : Pos}
def oInT (d e : D) (q : D → Prop) : Prop := ∃ x z : List Nat, d = .str x ∧ e = .str z ∧ q (.bl (subB x z))
def oNotInT (d e : D) (q : D → Prop) : Prop := ∃ x z : List Nat, d = .str x ∧ e = .str z ∧ q (.bl (!subB x z))
@[simp] theorem sm_inT {x z : List Nat} {q : D → Prop} : (oInT (.str x) (.str z) q) = (q (.bl (subB x z))) := by
  refine propext ⟨?_, fun h => ⟨x, z, rfl, rfl, h⟩⟩
  rintro ⟨a, b, e1, e2, h⟩
  cases e1; cases e2; exact h
@[simp] theorem sm_notInT {x z : List Nat} {q : D → Prop} : (oNotInT (.str x) (.str z) q) = (q (.bl (!subB x z))) := by
  refine propext ⟨?_, fun h => ⟨x, z, rfl, rfl, h⟩⟩
  rintro ⟨a, b, e1, e2, h⟩
  cases e1; cases e2; exact h
end
end DL
set_option Elab.async false
set_option linter.all false
set_option maxRecDepth 100000
set_option maxHeartbeats 1000000
namespace DL
open PySem L2
end DL
set_option Elab.async false
set_option linter.all false
set_option maxRecDepth 100000
set_option maxHeartbeats 1000000
namespace DL
open PySem L2 PySem.W PySem.SeqAt
/-- a text and a number, by the text first -/
def ltTI (a : List Nat) (i : Int) (c : List Nat) (j : Int) : Bool := if a = c then decide (i < j) else decide (a < c)
section
variable {X : Cx}
end
section
variable {M : Ghost} {C : Ct M}
def oLtTI : D → D → (D → Prop) → Prop := fun d e q => ∃ a i c j, d = .tup [.str a, .int i] ∧ e = .tup [.str c, .int j] ∧ q (.bl (ltTI a i c j))
@[simp] theorem sm_ltTI {a c : List Nat} {i j : Int} {q : D → Prop} : oLtTI (.tup [.str a, .int i]) (.tup [.str c, .int j]) q = q (.bl (ltTI a i c j)) := by
  refine propext ⟨fun h => ?_, fun h => ⟨a, i, c, j, rfl, rfl, h⟩⟩
  obtain ⟨_, _, _, _, e1, e2, h⟩ := h
  cases e1; cases e2; exact h
/-- divmod -/
def cDivmod (ds : List D) (q : D → Prop) : Prop := ∃ i j : Int, ds = [.int i, .int j] ∧ CDiv i j ∧ q (.tup [.int (i / j), .int (i % j)])
@[simp] theorem sm_divmod {i j : Int} {q : D → Prop} : cDivmod [.int i, .int j] q = (CDiv i j ∧ q (.tup [.int (i / j), .int (i % j)])) := by
  refine propext ⟨fun h => ?_, fun h => ⟨i, j, rfl, h.1, h.2⟩⟩
  obtain ⟨_, _, e, h1, h2⟩ := h
  cases e
  exact ⟨h1, h2⟩
end
end DL
set_option Elab.async false
set_option linter.all false
set_option maxRecDepth 100000
set_option maxHeartbeats 1000000
namespace DL
open PySem L2
theorem cxUpN {P : Program} {w : World} : StX.CXUp (L2N.CX P w) := by
  rintro outer s H s2 H2 E e s' un kp ho ⟨a, B, H', cls, d, ea, fl, hok, ub, na, os, ag, he⟩
  refine ⟨a, B, H', cls, d, ea, fl, hok, ⟨fun b o q n hb => ub.keep b o (kp b o q) (un.free b o q n (by simp)) hb, fun b o q hb => ub.slot b o (kp b o q) hb, fun b o q n => ub.free b o (kp b o q) (un.free b o q n (by simp)),
    fun b o q hb => ub.there b o (kp b o q) hb, fun b xs q => ub.tups b xs (un.tups b xs q), fun b o xs q => ub.frzs b o xs (un.frzs b o xs q), fun b ps q => ?_⟩, na, os.trans ho, ag, he⟩
  obtain ⟨m1, e1⟩ := un.tbls b ps q
  obtain ⟨m2, e2⟩ := ub.tbls b _ e1
  exact ⟨m1 ++ m2, by rw [e2, Array.append_assoc]⟩
section
variable {P : Program} {w : World} {K : PySem.W.Frag} {mg : Str → Option Value} {base : Heap}
end
section
variable {X : Cx} {k : Nat} {f : Addr} {sp : Sp} {E : L2.St → XK} {x : Str} {p pos : Pos} {e : Expr} {es : List Expr} {t : TA}
end
section
variable {M : Ghost} {C : Ct M} {W W1 W2 W' : Wd M} {σ : L2.St} {ρ : DEnv} {e : Expr} {es : List Expr} {we : EW M} {pos p : Pos} {wa : AW M}
end

section
variable {X : Cx} {pos : Pos}
end

section
variable {M : Ghost} {C : Ct M} {e : Expr} {we : EW M} {pos : Pos}
end
end DL
set_option Elab.async false
set_option linter.all false
set_option maxRecDepth 100000
set_option maxHeartbeats 1000000
namespace DL
open PySem L2
section
variable {X : Cx}
end
section
variable {M : Ghost} {C : Ct M}
end
end DL
set_option Elab.async false
set_option linter.all false
set_option maxRecDepth 100000
set_option maxHeartbeats 1000000
namespace DL
open PySem L2 PySem.W PySem.SeqAt
section
variable {X : Cx}
end
section
variable {M : Ghost} {C : Ct M}
end
end DL
set_option Elab.async false
set_option linter.all false
set_option maxRecDepth 100000
set_option maxHeartbeats 1000000
namespace DL
open PySem L2
section
variable {M : Ghost} {C : Ct M}
end
end DL
set_option Elab.async false
set_option linter.all false
set_option maxRecDepth 100000
set_option maxHeartbeats 1000000
namespace DL
open PySem L2
section
variable {X : Cx} {pos : Pos}
end
section
variable {M : Ghost} {C : Ct M} {W W1 W2 W' : Wd M} {σ : L2.St} {ρ : DEnv} {e o : Expr} {es : List Expr} {we wo : EW M} {pos apos : Pos} {wa : AW M}
def cIntT : List D → (D → Prop) → Prop
  | [.str x], q => ∃ n, PySem.intText? (S x) = some n ∧ x.length ≤ 640 ∧ q (.int n)
  | _, _ => False
@[simp] theorem sm_intT {x : List Nat} {q : D → Prop} : cIntT [.str x] q = (∃ n, PySem.intText? (S x) = some n ∧ x.length ≤ 640 ∧ q (.int n)) := rfl
def cStrA : List D → (D → Prop) → Prop
  | [.int i], q => i.natAbs.log2 < 1920 ∧ q (.str (dec i))
  | [.str x], q => q (.str x)
  | _, _ => False
@[simp] theorem sm_strA1 {i : Int} {q : D → Prop} : cStrA [.int i] q = (i.natAbs.log2 < 1920 ∧ q (.str (dec i))) := rfl
@[simp] theorem sm_strA2 {x : List Nat} {q : D → Prop} : cStrA [.str x] q = q (.str x) := rfl
end
end DL
set_option Elab.async false
set_option linter.all false
set_option maxRecDepth 100000
set_option maxHeartbeats 1000000
namespace DL
open PySem L2
/-- a thing of the store: the stream's own, a list, an instance by its class's name, an instance's own dict -/
inductive Ob where
  | raw | lst (ds : List D) | ins (cls : Str) (fs : List (Str × D)) | aux
  /-- a dict of keyword arguments, read only -/
  | kw (o : Obj) (kvs : List (Key × V)) (kds : List (Key × D))
structure Gq where
  n : Nat
  S : List Ob
def ObOk (K : PySem.W.Frag) (F : Hp) (R : List Addr) (H : Hp) (k : Nat) (a : Addr) : Ob → Prop
  | .raw => True
  | .lst ds => ∃ vs, H a = some (.lst vs) ∧ RpA K F R vs ds
  | .ins cls fs => ∃ (C dx : Addr) (vs : List V), PySem.W.nsIn K mainGlobals cls = some (some (.ref C)) ∧ R[k + 1]? = some dx ∧ H a = some (.ins C dx ((fs.map (·.1)).zip vs)) ∧ RpA K F R vs (fs.map (·.2)) ∧ H dx = some (.own a)
  | .aux => True
  | .kw o kvs kds => H a = some (.frz o (.dK kvs)) ∧ RpK K F R kvs kds
structure StoOk (K : PySem.W.Frag) (g : Gq) (R : List Addr) (F H : Hp) : Prop where
  len : R.length = g.S.length
  nd : R.Nodup
  r0 : g.S[0]? = some .raw
  r1 : g.S[1]? = some .raw
  str : g.n ≤ 2 ^ 60 → StrOk K g.n R F H
  ob : ∀ (k : Nat) a o, R[k]? = some a → g.S[k]? = some o → ObOk K F R H k a o
  aux : ∀ (k : Nat) cls fs, g.S[k]? = some (.ins cls fs) → g.S[k + 1]? = some .aux
theorem StrOk.mono {K : PySem.W.Frag} {n m : Nat} {R R' : List Addr} {F F' H H' : Hp} (h : StrOk K n R F H) (hn : n ≤ m) (s : Same F F') (r : ∀ (k : Nat) a, k < 2 → R[k]? = some a → R'[k]? = some a ∧ H' a = H a) : StrOk K m R' F' H' := by
  obtain ⟨a, b, c, L, cs, i, h1, h2, h3, h4, h5, h6, h7, h8, h9⟩ := h
  exact ⟨a, b, c, L, cs, i, (r 0 a (by decide) h1).1, (r 1 b (by decide) h2).1, h3, by rw [(r 0 a (by decide) h1).2]; exact h4, by rw [(r 1 b (by decide) h2).2]; exact h5, s _ _ h6, h7, Int.le_trans h8 (Int.ofNat_le.mpr hn), h9⟩
theorem ObOk.mono {K : PySem.W.Frag} {F F' H H' : Hp} {R R' : List Addr} {k : Nat} {a : Addr} {o : Ob} (h : ObOk K F R H k a o) (s : Same F F') (r : ∀ (k : Nat) a, R[k]? = some a → R'[k]? = some a) (ha : H' a = H a) (hd : ∀ cls fs dx, o = .ins cls fs → R[k + 1]? = some dx → H' dx = H dx) : ObOk K F' R' H' k a o := by
  cases o with
  | raw => trivial
  | aux => trivial
  | kw o kvs kds => exact ⟨by rw [ha]; exact h.1, h.2.mono s r⟩
  | lst ds =>
    obtain ⟨vs, h1, h2⟩ := h
    exact ⟨vs, by rw [ha]; exact h1, h2.mono s r⟩
  | ins cls fs =>
    obtain ⟨C, dx, vs, h1, h2, h3, h4, h5⟩ := h
    exact ⟨C, dx, vs, h1, r _ _ h2, by rw [ha]; exact h3, h4.mono s r, by rw [hd cls fs dx rfl h2]; exact h5⟩
@[reducible] def stq : Ghost where
  G := Gq
  ok := fun K g R F H => StoOk K g R F H
  keep := fun {K g R F H F' H'} h s k => ⟨h.len, h.nd, h.r0, h.r1, fun hn => (h.str hn).mono (Nat.le_refl _) s fun k1 a _ e => ⟨e, k a (List.mem_of_getElem? e)⟩,
    fun k1 a o e1 e2 => (h.ob k1 a o e1 e2).mono s (fun _ _ z => z) (k a (List.mem_of_getElem? e1)) fun _ _ dx _ e => k dx (List.mem_of_getElem? e), h.aux⟩
section
variable {K : PySem.W.Frag} {W : Wd stq} {k : Nat} {a : Addr} {o o' : Ob} {u : HO}
theorem nodup_get {R : List Addr} (nd : R.Nodup) {i j : Nat} {a : Addr} (hi : R[i]? = some a) (hj : R[j]? = some a) : i = j := by
  exact (List.getElem?_inj (List.getElem?_eq_some_iff.mp hi).1 nd).mp (hi.trans hj.symm)
/-- a thing of the store that may be written -/
def Ob.soft : Ob → Bool
  | .lst _ => true
  | .ins _ _ => true
  | _ => false
/-- the world where the k-th thing was written -/
abbrev Wd.wr (W : Wd stq) (k : Nat) (a : Addr) (u : HO) (o' : Ob) : Wd stq := W.reg a u ⟨W.g.n, W.g.S.set k o'⟩
theorem Wok.wr (w : Wok K W) (ha : W.R[k]? = some a) (ho : W.g.S[k]? = some o) (so : o.soft = true) (so' : o'.soft = true) (hx : ∀ cls fs, o' = .ins cls fs → ∃ cls fs, o = .ins cls fs)
    (new : ObOk K W.F W.R (upd W.H a u) k a o') : Wok K (W.wr k a u o') := by
  have g := w.gh
  refine w.reg (List.mem_of_getElem? ha) ⟨by rw [List.length_set]; exact g.len, g.nd, ?_, ?_, fun hn => (g.str hn).mono (Nat.le_refl _) (Same.refl _) fun j b hj e => ⟨e, upd_ne fun z => ?_⟩, fun j b p e1 e2 => ?_, fun j cls fs e => ?_⟩
  · rw [List.getElem?_set_ne (fun z => by subst z; rw [g.r0] at ho; cases ho; cases so)]
    exact g.r0
  · rw [List.getElem?_set_ne (fun z => by subst z; rw [g.r1] at ho; cases ho; cases so)]
    exact g.r1
  · subst z
    have := nodup_get g.nd ha e
    subst this
    have : k = 0 ∨ k = 1 := by omega
    rcases this with rfl | rfl
    · rw [g.r0] at ho; cases ho; cases so
    · rw [g.r1] at ho; cases ho; cases so
  · by_cases hj : k = j
    · subst hj
      rw [List.getElem?_set_self (List.getElem?_eq_some_iff.mp ho).1] at e2
      cases e2
      rw [ha] at e1
      cases e1
      exact new
    · rw [List.getElem?_set_ne hj] at e2
      refine (g.ob j b p e1 e2).mono (Same.refl _) (fun _ _ z => z) (upd_ne fun z => hj (nodup_get g.nd ha (z ▸ e1))) fun cls fs dx ep ed => upd_ne fun z => ?_
      subst z
      have := nodup_get g.nd ha ed
      subst this
      subst ep
      rw [g.aux j cls fs e2] at ho
      cases ho
      cases so
  · by_cases hj : k = j
    · subst hj
      rw [List.getElem?_set_self (List.getElem?_eq_some_iff.mp ho).1] at e
      cases e
      obtain ⟨c2, f2, rfl⟩ := hx cls fs rfl
      rw [List.getElem?_set_ne (by omega)]
      exact g.aux _ _ _ ho
    · rw [List.getElem?_set_ne hj] at e
      have e2 := g.aux _ _ _ e
      by_cases hj2 : k = j + 1
      · subst hj2
        rw [ho] at e2
        cases e2
        cases so
      · rw [List.getElem?_set_ne hj2]
        exact e2
theorem Go.wr (ha : W.R[k]? = some a) : Go W (W.wr k a u o') := Go.reg' (List.mem_of_getElem? ha)
/-- a new thing of the store -/
abbrev Wd.st (W : Wd stq) (p : Addr) (u : HO) (o : Ob) : Wd stq := ⟨W.F, upd W.H p u, W.R ++ [p], ⟨W.g.n, W.g.S ++ [o]⟩⟩
theorem ix_app {α : Type} {xs : List α} {ys : List α} {k : Nat} {x : α} (h : xs[k]? = some x) : (xs ++ ys)[k]? = some x := by
  rw [List.getElem?_append_left (List.getElem?_eq_some_iff.mp h).1]
  exact h
theorem Go.st {p : Addr} (hp : W.H p = none) : Go W (W.st p u o) := by
  refine ⟨Same.refl _, fun c x e n => ?_, fun c e => ?_, fun _ z => .inl z, [p], rfl, fun c hc => by rw [List.mem_singleton.mp hc]; exact hp⟩
  · show upd W.H p u c = some x
    rw [upd_ne (ne_of_none e hp)]
    exact e
  · show upd W.H p u c ≠ none
    by_cases z : c = p
    · subst z; rw [upd_same]; simp
    · rw [upd_ne z]; exact e
/-- a new instance with no fields -/
abbrev Wd.mk' (W : Wd stq) (x dx : Addr) (C : Addr) (cls : Str) : Wd stq := ⟨W.F, upd (upd W.H dx (.own x)) x (.ins C dx []), W.R ++ [x, dx], ⟨W.g.n, W.g.S ++ [.ins cls [], .aux]⟩⟩
theorem Go.mk' {x dx C : Addr} {cls : Str} (hx : W.H x = none) (hd : W.H dx = none) : Go W (W.mk' x dx C cls) := by
  refine ⟨Same.refl _, fun c y e n => ?_, fun c e => ?_, fun _ z => .inl z, [x, dx], rfl, fun c hc => ?_⟩
  · show upd (upd W.H dx (.own x)) x (.ins C dx []) c = some y
    rw [upd_ne (ne_of_none e hx), upd_ne (ne_of_none e hd)]
    exact e
  · show upd (upd W.H dx (.own x)) x (.ins C dx []) c ≠ none
    by_cases z : c = x
    · subst z; rw [upd_same]; simp
    · rw [upd_ne z]
      by_cases z : c = dx
      · subst z; rw [upd_same]; simp
      · rw [upd_ne z]; exact e
  · rcases List.mem_cons.mp hc with rfl | hc
    · exact hx
    · rw [List.mem_singleton.mp hc]; exact hd
theorem Wok.mk' (w : Wok K W) {x dx C : Addr} {cls : Str} (hx : W.H x = none) (hd : W.H dx = none) (ne : dx ≠ x) (hC : PySem.W.nsIn K mainGlobals cls = some (some (.ref C))) : Wok K (W.mk' x dx C cls) := by
  have g := w.gh
  have nx := w.noR hx
  have nd := w.noR hd
  have up : ∀ c ∈ W.R, upd (upd W.H dx (.own x)) x (.ins C dx []) c = W.H c := fun c hc => by
    rw [upd_ne (show c ≠ x from fun z => nx (z ▸ hc)), upd_ne (show c ≠ dx from fun z => nd (z ▸ hc))]
  refine ⟨fun c y e => ?_, ⟨by rw [List.length_append, List.length_append, g.len]; rfl, ?_, ix_app g.r0, ix_app g.r1, fun hn => (g.str hn).mono (Nat.le_refl _) (Same.refl _) fun j b hj e => ⟨ix_app e, up b (List.mem_of_getElem? e)⟩, fun j b o e1 e2 => ?_, fun j c2 fs e => ?_⟩, fun c hc => ?_, fun c hc => ?_⟩
  · show upd (upd W.H dx (.own x)) x (.ins C dx []) c = some y
    have := w.sub _ _ e
    rw [upd_ne (ne_of_none this hx), upd_ne (ne_of_none this hd)]
    exact this
  · rw [List.nodup_append]
    refine ⟨g.nd, List.nodup_cons.mpr ⟨fun z => ne (List.mem_singleton.mp z).symm, by simp⟩, fun c hc d hd2 e => ?_⟩
    subst e
    rcases List.mem_cons.mp hd2 with rfl | hd2
    · exact nx hc
    · rw [List.mem_singleton.mp hd2] at hc; exact nd hc
  · by_cases hj : j < W.R.length
    · rw [List.getElem?_append_left hj] at e1
      rw [List.getElem?_append_left (by rw [← g.len]; exact hj)] at e2
      refine (g.ob j b o e1 e2).mono (Same.refl _) (fun _ _ z => ix_app z) (up b (List.mem_of_getElem? e1)) fun cls fs dx ep ed => up dx (List.mem_of_getElem? ed)
    · rw [List.getElem?_append_right (by omega)] at e1
      rw [List.getElem?_append_right (by rw [← g.len]; omega), ← g.len] at e2
      obtain ⟨l, e1'⟩ := List.getElem?_eq_some_iff.mp e1
      have hz : j - W.R.length = 0 ∨ j - W.R.length = 1 := by simp at l; omega
      rcases hz with hz | hz
      · rw [hz] at e1 e2
        cases e1
        cases e2
        refine ⟨C, dx, [], hC, ?_, upd_same, .nil, ?_⟩
        · show (W.R ++ [x, dx])[j + 1]? = some dx
          rw [List.getElem?_append_right (by omega), show j + 1 - W.R.length = 1 by omega]
          rfl
        · show upd (upd W.H dx (.own x)) x (.ins C dx []) dx = _
          rw [upd_ne ne, upd_same]
      · rw [hz] at e1 e2
        cases e1
        cases e2
        trivial
  · by_cases hj : j < W.g.S.length
    · rw [List.getElem?_append_left hj] at e
      exact ix_app (g.aux j c2 fs e)
    · rw [List.getElem?_append_right (by omega)] at e
      obtain ⟨l, e'⟩ := List.getElem?_eq_some_iff.mp e
      have hz : j - W.g.S.length = 0 ∨ j - W.g.S.length = 1 := by simp at l; omega
      rcases hz with hz | hz
      · rw [List.getElem?_append_right (by omega), show j + 1 - W.g.S.length = 1 by omega]
        rfl
      · rw [hz] at e
        cases e
  · rcases List.mem_append.mp hc with hc | hc
    · exact w.rf c hc
    · rcases List.mem_cons.mp hc with rfl | hc
      · exact w.noF hx
      · rw [List.mem_singleton.mp hc]; exact w.noF hd
  · show upd (upd W.H dx (.own x)) x (.ins C dx []) c ≠ none
    rcases List.mem_append.mp hc with hc | hc
    · rw [up c hc]; exact w.rh c hc
    · rcases List.mem_cons.mp hc with rfl | hc
      · rw [upd_same]; simp
      · rw [List.mem_singleton.mp hc, upd_ne ne, upd_same]; simp
end

mutual
def obsD : D → Bool
  | .ob k => decide (k < 2)
  | .lst xs => obsA xs
  | .tup xs => obsA xs
  | .tx xs => obsA xs
  | .dic kvs => obsK kvs
  | .exn _ _ ds => obsA ds
  | _ => true
def obsA : List D → Bool
  | [] => true
  | d :: ds => obsD d && obsA ds
def obsK : List (Key × D) → Bool
  | [] => true
  | (_, d) :: ds => obsD d && obsK ds
end
section
variable {K : PySem.W.Frag} {F : Hp} {R R' : List Addr}
mutual
theorem Rp.obs (r : ∀ (k : Nat) a, k < 2 → R[k]? = some a → R'[k]? = some a) : ∀ {v : V} {d : D}, Rp K F R v d → obsD d = true → Rp K F R' v d
  | _, _, .non, _ => .non
  | _, _, .bl b, _ => .bl b
  | _, _, .int i, _ => .int i
  | _, _, .str z x h, _ => .str z x h
  | _, _, .lst h q, o => .lst h (RpA.obs r q (by simpa [obsD] using o))
  | _, _, .tup h q, o => .tup h (RpA.obs r q (by simpa [obsD] using o))
  | _, _, .dic h q, o => .dic h (RpK.obs r q (by simpa [obsD] using o))
  | _, _, .ob h, o => .ob (r _ _ (by simpa [obsD] using o) h)
  | _, _, .exn0 h1 h2 h3 h4, _ => .exn0 h1 h2 h3 h4
  | _, _, .exn h1 h2 h3 h4 h5 h6 q, o => .exn h1 h2 h3 h4 h5 h6 (RpA.obs r q (by simpa [obsD] using o))
  | _, _, .tx h1 h2 h3 q, o => .tx h1 h2 h3 (RpA.obs r q (by simpa [obsD] using o))
  | _, _, .cl h, _ => .cl h
theorem RpA.obs (r : ∀ (k : Nat) a, k < 2 → R[k]? = some a → R'[k]? = some a) : ∀ {v : List V} {d : List D}, RpA K F R v d → obsA d = true → RpA K F R' v d
  | _, _, .nil, _ => .nil
  | _, _, .cons h q, o => .cons (Rp.obs r h (by simp only [obsA, Bool.and_eq_true] at o; exact o.1)) (RpA.obs r q (by simp only [obsA, Bool.and_eq_true] at o; exact o.2))
theorem RpK.obs (r : ∀ (k : Nat) a, k < 2 → R[k]? = some a → R'[k]? = some a) : ∀ {v : List (Key × V)} {d : List (Key × D)}, RpK K F R v d → obsK d = true → RpK K F R' v d
  | _, _, .nil, _ => .nil
  | _, _, .cons h q, o => .cons (Rp.obs r h (by simp only [obsK, Bool.and_eq_true] at o; exact o.1)) (RpK.obs r q (by simp only [obsK, Bool.and_eq_true] at o; exact o.2))
end
mutual
theorem Rp.is (hR : R.length = 2) : ∀ {v : V} {d : D}, Rp K F R v d → obsD d = true
  | _, _, .non => rfl
  | _, _, .bl b => rfl
  | _, _, .int i => rfl
  | _, _, .str z x h => rfl
  | _, _, .lst h q => by simp only [obsD]; exact RpA.is hR q
  | _, _, .tup h q => by simp only [obsD]; exact RpA.is hR q
  | _, _, .dic h q => by simp only [obsD]; exact RpK.is hR q
  | _, _, .ob h => by
    have := (List.getElem?_eq_some_iff.mp h).1
    simp only [obsD]
    exact decide_eq_true (by omega)
  | _, _, .exn0 h1 h2 h3 h4 => rfl
  | _, _, .exn h1 h2 h3 h4 h5 h6 q => by simp only [obsD]; exact RpA.is hR q
  | _, _, .tx h1 h2 h3 q => by simp only [obsD]; exact RpA.is hR q
  | _, _, .cl h => rfl
theorem RpA.is (hR : R.length = 2) : ∀ {v : List V} {d : List D}, RpA K F R v d → obsA d = true
  | _, _, .nil => rfl
  | _, _, .cons h q => by simp only [obsA, Bool.and_eq_true]; exact ⟨Rp.is hR h, RpA.is hR q⟩
theorem RpK.is (hR : R.length = 2) : ∀ {v : List (Key × V)} {d : List (Key × D)}, RpK K F R v d → obsK d = true
  | _, _, .nil => rfl
  | _, _, .cons h q => by simp only [obsK, Bool.and_eq_true]; exact ⟨Rp.is hR h, RpK.is hR q⟩
end
end

def lq (d : DSp stg) : DSp stq := fun ds g q ex => obsA ds = true ∧ d ds g.n (fun v n => obsD v = true → q v ⟨n, g.S⟩) fun x n => obsA x.ds = true → ex x ⟨n, g.S⟩
abbrev Wd.cut (W : Wd stq) : Wd stg := ⟨W.F, W.H, W.R.take 2, W.g.n⟩
abbrev Wd.back (W : Wd stq) (W1 : Wd stg) : Wd stq := ⟨W1.F, W1.H, W.R, ⟨W1.g, W.g.S⟩⟩
section
variable {K : PySem.W.Frag} {W : Wd stq} {W1 : Wd stg}
theorem two_le (w : Wok K W) : 2 ≤ W.R.length := by
  have g := w.gh
  have := (List.getElem?_eq_some_iff.mp g.r1).1
  rw [g.len]
  exact this
theorem take_ix {R : List Addr} {k : Nat} {a : Addr} (hk : k < 2) : (R.take 2)[k]? = some a ↔ R[k]? = some a := by rw [List.getElem?_take_of_lt hk]
theorem Wok.cut (w : Wok K W) : Wok K W.cut := by
  have g := w.gh
  refine ⟨w.sub, ⟨?_, fun hn => (g.str hn).mono (Nat.le_refl _) (Same.refl _) fun k a hk e => ⟨(take_ix hk).mpr e, rfl⟩⟩, fun a ha => w.rf a (List.mem_of_mem_take ha), fun a ha => w.rh a (List.mem_of_mem_take ha)⟩
  rw [List.length_take]
  have := two_le w
  omega
theorem back_R (w : Wok K W) (g1 : Go W.cut W1) (k1 : Wok K W1) : W1.R = W.R.take 2 := by
  obtain ⟨new, e, _⟩ := g1.reg
  have h1 := k1.gh.1
  have h2 := w.cut.gh.1
  rw [e, List.length_append, h2] at h1
  rw [e, List.eq_nil_of_length_eq_zero (by omega : new.length = 0), List.append_nil]
theorem back_ix (w : Wok K W) (g1 : Go W.cut W1) (k1 : Wok K W1) : ∀ (k : Nat) a, W1.R[k]? = some a → W.R[k]? = some a := fun k a e => by
  rw [back_R w g1 k1] at e
  have := (List.getElem?_eq_some_iff.mp e).1
  rw [List.length_take] at this
  exact (take_ix (by omega)).mp e
theorem Go.back (g1 : Go W.cut W1) : Go W (W.back W1) :=
  ⟨g1.sub, fun a o e n => g1.keep a o e fun z => n (List.mem_of_mem_take z), g1.live, g1.young, [], by simp, by simp⟩
theorem not_two (w : Wok K W) {k : Nat} {a : Addr} (h : W.R[k]? = some a) (hk : 2 ≤ k) : a ∉ W.R.take 2 := fun z => by
  obtain ⟨j, hj, e⟩ := List.getElem_of_mem z
  rw [List.length_take] at hj
  rw [List.getElem_take] at e
  have := nodup_get w.gh.nd h (List.getElem?_eq_some_iff.mpr ⟨by omega, e⟩)
  omega
theorem Wok.back (w : Wok K W) (g1 : Go W.cut W1) (k1 : Wok K W1) : Wok K (W.back W1) := by
  have g := w.gh
  have eR := back_R w g1 k1
  have kp : ∀ (k : Nat) a, 2 ≤ k → W.R[k]? = some a → W1.H a = W.H a := fun k a hk e => by
    cases q : W.H a with
    | none => exact absurd q (w.rh a (List.mem_of_getElem? e))
    | some o => exact g1.keep a o q (not_two w e hk)
  refine ⟨k1.sub, ⟨g.len, g.nd, g.r0, g.r1, fun hn => (k1.gh.2 hn).mono (Nat.le_refl _) (Same.refl _) fun k a hk e => ⟨back_ix w g1 k1 k a e, rfl⟩, fun k a o e1 e2 => ?_, g.aux⟩, fun a ha => ?_, fun a ha => g1.live a (w.rh a ha)⟩
  · have h := g.ob k a o e1 e2
    by_cases hk : 2 ≤ k
    · exact h.mono g1.sub (fun _ _ z => z) (kp k a hk e1) fun _ _ dx _ ed => kp (k + 1) dx (by omega) ed
    · have : k = 0 ∨ k = 1 := by omega
      rcases this with rfl | rfl
      · rw [g.r0] at e2; cases e2; trivial
      · rw [g.r1] at e2; cases e2; trivial
  · cases q : W1.F a with
    | none => rfl
    | some o =>
      rcases g1.young a (by rw [q]; simp) with z | z
      · exact absurd (w.rf a ha) z
      · exact absurd z (w.rh a ha)
theorem lift_sp {K : PySem.W.Frag} {mg : Str → Option Value} {n : Nat} {d : DSp stg} {vs : List V} {H : Hp} {Q : VK} {E : XK} (h : liftSp K mg n (lq d) vs H Q E) : liftSp K mg n d vs H Q E := by
  obtain ⟨W, ds, q, ex, rfl, ok, r, hl, ⟨ho, hd⟩, hQ, hE⟩ := h
  refine ⟨W.cut, ds, _, _, rfl, ok.cut, r.obs (fun k a hk e => (take_ix hk).mpr e) ho, hl, hd, fun v d W1 g1 k1 r1 q1 => ?_, fun cls dd H' h => hE cls dd H' ?_⟩
  · exact hQ v d (W.back W1) g1.back (ok.back g1 k1) (r1.mono (Same.refl _) (back_ix ok g1 k1)) (q1 (r1.is k1.gh.1))
  · obtain ⟨x, W1, rfl, g1, k1, ⟨x1, x2, x3⟩, q1⟩ := h
    refine ⟨x, W.back W1, rfl, g1.back, ok.back g1 k1, ⟨x1, x2, ?_⟩, q1 ?_⟩
    · rcases x3 with x3 | ⟨d2, us, a1, a2, a3, a4⟩
      · exact .inl x3
      · exact .inr ⟨d2, us, a1, a2, a3, a4.mono (Same.refl _) (back_ix ok g1 k1)⟩
    · rcases x3 with ⟨_, x3, _⟩ | ⟨d2, us, a1, a2, a3, a4⟩
      · rw [x3]; rfl
      · exact a4.is k1.gh.1
theorem lift_spH {K : PySem.W.Frag} {mg : Str → Option Value} {n : Nat} {d : DSp stg} {vs : List V} {H : Hp} {Q : VK} {E : XK} {A : Around} (h : liftSpH K mg n (lq d) A vs H Q E) : liftSpH K mg n d A vs H Q E := by
  obtain ⟨W, ds, q, ex, rfl, ok, r, hl, ⟨ho, hd⟩, ⟨hQ, hE⟩, hot⟩ := h
  refine ⟨W.cut, ds, _, _, rfl, ok.cut, r.obs (fun k a hk e => (take_ix hk).mpr e) ho, hl, hd, ⟨fun v d W1 g1 k1 r1 q1 => ?_, fun cls dd H' h => hE cls dd H' ?_⟩, hot⟩
  · exact hQ v d (W.back W1) g1.back (ok.back g1 k1) (r1.mono (Same.refl _) (back_ix ok g1 k1)) (q1 (r1.is k1.gh.1))
  · obtain ⟨x, W1, rfl, g1, k1, ⟨x1, x2, x3⟩, q1⟩ := h
    refine ⟨x, W.back W1, rfl, g1.back, ok.back g1 k1, ⟨x1, x2, ?_⟩, q1 ?_⟩
    · rcases x3 with x3 | ⟨d2, us, a1, a2, a3, a4⟩
      · exact .inl x3
      · exact .inr ⟨d2, us, a1, a2, a3, a4.mono (Same.refl _) (back_ix ok g1 k1)⟩
    · rcases x3 with ⟨_, x3, _⟩ | ⟨d2, us, a1, a2, a3, a4⟩
      · rw [x3]; rfl
      · exact a4.is k1.gh.1
end
section
variable {P : Program} {w : World} {K : PySem.W.Frag} {mg : Str → Option Value} {base : Heap}
theorem FnG.imp {k : Nat} {f : Addr} {fd : FuncData} {ps : List Str} {sp sp' : Sp} (F : FnG P w K mg base k f fd ps sp) (h : ∀ vs H Q E, sp' vs H Q E → sp vs H Q E) : FnG P w K mg base k f fd ps sp' :=
  ⟨fun vs H Q E z => F.len vs H Q E (h vs H Q E z), fun A fr s H as us xs Q E a b c d e z => F.run A fr s H as us xs Q E a b c d e (h xs H Q E z)⟩
theorem FnQ.imp {k : Nat} {f : Addr} {fd : FuncData} {ps : List Str} {sp sp' : Around → Sp} (F : FnQ P w K mg base k f fd ps sp) (h : ∀ A vs H Q E, sp' A vs H Q E → sp A vs H Q E) : FnQ P w K mg base k f fd ps sp' :=
  ⟨fun A vs H Q E z => F.len A vs H Q E (h A vs H Q E z), fun A fr s H as us xs Q E a b c d e z => F.run A fr s H as us xs Q E a b c d e (h A xs H Q E z)⟩
theorem FnB.lq {k n : Nat} {x : Str} {ps : List Str} {d : DSp stg} (F : FnB P w K mg base k x ps (liftSp K mg n d)) : FnB P w K mg base k x ps (liftSp K mg n (lq d)) := by
  obtain ⟨f, fd, F, h⟩ := F.ex
  exact ⟨f, fd, F.imp fun _ _ _ _ => lift_sp, h⟩
theorem FnQB.lq {k n : Nat} {x : Str} {ps : List Str} {d : DSp stg} (F : FnQB P w K mg base k x ps (liftSpH K mg n d)) : FnQB P w K mg base k x ps (liftSpH K mg n (lq d)) := by
  obtain ⟨f, fd, F, h⟩ := F.ex
  exact ⟨f, fd, F.imp fun _ _ _ _ _ => lift_spH, h⟩
end

theorem wok_moreQ {K : PySem.W.Frag} {W : Wd stq} (k : Wok K W) {n : Nat} (h : W.g.n ≤ n) : Wok K ({ W with g := ⟨n, W.g.S⟩ } : Wd stq) := by
  have g := k.gh
  exact ⟨k.sub, ⟨g.len, g.nd, g.r0, g.r1, fun hn => (g.str (Nat.le_trans h hn)).mono h (Same.refl _) fun _ _ _ e => ⟨e, rfl⟩, g.ob, g.aux⟩, k.rf, k.rh⟩
theorem go_moreQ {W : Wd stq} {n : Nat} : Go W ({ W with g := ⟨n, W.g.S⟩ } : Wd stq) := ⟨Same.refl _, fun _ _ h _ => h, fun _ h => h, fun _ h => .inl h, [], by simp, by simp⟩
/-- the end of a def over the store: the bound may be given greater -/
@[simp] def kEndQ (q : D → Gq → Prop) : K3 stq := { nx := fun _ (g : Gq) => ∃ n : Nat, g.n ≤ n ∧ q .non ⟨n, g.S⟩, rt := fun d (g : Gq) => ∃ n : Nat, g.n ≤ n ∧ q d ⟨n, g.S⟩, bk := fun _ _ => False, ct := fun _ _ => False }
theorem fnT_of {P : Program} {w : World} {K : PySem.W.Frag} {mg : Str → Option Value} {base : Heap} {x qual : Str} {st : Stmt} {f : Addr} {fd : FuncData} {N ps : List Str} {k : Nat} {sp : DSp stq} {wb : (Exn → stq.G → Prop) → SW stq} (F : Fun K x qual st f fd) (Sc : FnScope N ps (defScope st))
    (hbody : ∀ (cdv : Value) (A : Around) (outer : List Env) (s : Shared) (H : Hp) (E : XK) (W0 : Wd stq) (EX : Exn → stq.G → Prop), Room k (A.deeper (PyProof.Rows.envOfC qual (defScope st) s.heap.objs.size f cdv)) → A.guards = some [] →
      TakesD (M := stq) ⟨cxOf (L2N.CX P w) P w K mg base N qual (defScope st) f cdv A outer s H E, W0, xk EX, W0⟩ → DSs (M := stq) ⟨cxOf (L2N.CX P w) P w K mg base N qual (defScope st) f cdv A outer s H E, W0, xk EX, W0⟩ (defBody st) (wb EX))
    (hpure : ∀ (ds : List D) (g : Gq) (q : D → Gq → Prop) (ex : Exn → Gq → Prop), ds.length = ps.length → sp ds g q ex → wb ex (kEndQ q) (startD N ds) g) :
    FnG P w K mg base (k + 1) f fd ps (liftSp K mg ps.length sp) := by
  refine fng_of F Sc (fun vs H Q E h => ?_) (fun cdv A outer s H vs Q E hr hgd h => ?_)
  · obtain ⟨W, ds, q, ex, _, _, r, hl, _⟩ := h
    rw [r.length, hl]
  · obtain ⟨W, ds, q, ex, rfl, ok, r, hl, hsp, hQ, hE⟩ := h
    have tk : TakesD (M := stq) ⟨cxOf (L2N.CX P w) P w K mg base N qual (defScope st) f cdv A outer s W.H E, W, xk ex, W⟩ := fun u s' x =>
      L2N.takes_of (X := cxOf (L2N.CX P w) P w K mg base N qual (defScope st) f cdv A outer s W.H E) rfl rfl rfl rfl u s' (by
        obtain ⟨a, B, sI, pins, σ, H, cls, d, e, I, nb, up, sky, na, os, ag, x, ρ, W', z1, z2, z3, z4⟩ := x
        exact ⟨a, B, sI, pins, σ, H, cls, d, e, I, nb, up, sky, na, os, ag, hE _ _ _ ⟨x, W', z1, z2.go, z2.ok, z3, z4⟩⟩)
    refine ⟨_, pss_tOf, ?_⟩
    refine (hbody cdv A outer s W.H E W ex hr hgd tk).run _ _ W (kEndQ q) _ (sat_start ok rfl rfl r) ⟨fun σ' ρ' W' g S' h => ?_, fun v d W' g k r h => ?_, fun _ _ _ _ _ h => h.elim, fun _ _ _ _ _ h => h.elim⟩ (hpure ds W.g q ex hl hsp)
    · obtain ⟨n, hn, h⟩ := h
      exact hQ .non .non ({ W' with g := ⟨n, W'.g.S⟩ } : Wd stq) (S'.go.trans (go_moreQ (n := n))) (wok_moreQ S'.ok hn) .non h
    · obtain ⟨n, hn, h⟩ := h
      exact hQ v d ({ W' with g := ⟨n, W'.g.S⟩ } : Wd stq) (g.trans (go_moreQ (n := n))) (wok_moreQ k hn) r h
end DL
set_option Elab.async false
set_option linter.all false
set_option maxRecDepth 100000
set_option maxHeartbeats 1000000
namespace DL
open PySem L2
section
variable {K : PySem.W.Frag} {F : Hp} {R : List Addr}
end
section
variable {C : Ct stq} {W W1 W2 W' : Wd stq} {σ : L2.St} {ρ : DEnv} {e e2 : Expr} {es : List Expr} {we wv : EW stq} {pos pos' apos p : Pos} {wa : AW stq}
theorem Sat.wr (S : Sat C σ ρ W) {k : Nat} {a : Addr} {o : Ob} {u : HO} (ha : W.R[k]? = some a) (w : Wok C.X.K (W.wr k a u o)) : Sat C σ ρ (W.wr k a u o) := S.step (Go.wr ha) w
/-- a method of a class that keeps a promise -/
structure MethB (P : Program) (w : World) (K : PySem.W.Frag) (mg : Str → Option Value) (base : Heap) (k : Nat) (cls m : Str) (ps : List Str) (sp : Sp) : Prop where
  ex : ∃ (C f : Addr) (fd : FuncData), PySem.W.nsIn K mainGlobals cls = some (some (.ref C)) ∧ Cls K C ∧ Meth K C m f ∧ FnG P w K mg base k f fd ps sp ∧ Binds K fd ps []
theorem MethB.mono {P : Program} {w : World} {K : PySem.W.Frag} {mg : Str → Option Value} {base : Heap} {j k : Nat} {cls m : Str} {ps : List Str} {sp : Sp} (M : MethB P w K mg base j cls m ps sp) (h : j ≤ k) : MethB P w K mg base k cls m ps sp := by
  obtain ⟨C, f, fd, h1, h2, h3, h4, h5⟩ := M.ex
  exact ⟨C, f, fd, h1, h2, h3, h4.mono h, h5⟩
section
variable {X : Cx} {k : Nat} {E : L2.St → XK} {m : Str} {o e : Expr} {es : List Expr} {ta : TE} {t : TA} {pos apos : Pos}
end
end
end DL
set_option Elab.async false
set_option linter.all false
set_option maxRecDepth 100000
set_option maxHeartbeats 1000000
namespace DL
open PySem L2
section
variable {X : Cx} {k : Nat} {f : Addr} {fd : FuncData} {ps : List Str} {sp : Sp} {pins : List (Addr × Obj)} {σ : L2.St} {H : Hp} {s : Shared} {Q : VK} {us : List Value} {xs : List V}
end
section
variable {C : Ct stq} {W W1 W2 W' : Wd stq} {σ : L2.St} {ρ : DEnv} {e e2 : Expr} {es : List Expr} {we wv : EW stq} {pos pos' apos p : Pos} {wa : AW stq}
end

section
variable {M : Ghost} {C : Ct M} {W W1 W2 W' : Wd M} {σ : L2.St} {ρ : DEnv} {e e2 : Expr} {es : List Expr} {we : EW M} {pos : Pos}
end

section
variable {C : Ct stq} {W W1 W2 W' : Wd stq} {σ : L2.St} {ρ : DEnv} {a b e e2 : Expr} {es : List Expr} {we wb wi wo : EW stq} {pos pos' apos cpos p p1 p2 : Pos} {wa : AW stq}
end
end DL
set_option Elab.async false
set_option linter.all false
set_option maxRecDepth 100000
set_option maxHeartbeats 1000000
namespace DL
open PySem L2
section
variable {X : Cx} {pos : Pos}
/-- the cases of a match, the value standing -/
structure PCs (X : Cx) (cs : List MatchCase) (t : V → TS) : Prop where
  run : ∀ (pins : List (Addr × Obj)) (s : Shared) (σ : L2.St) (H : Hp) (D : Ends) (v : V) (u : Value) (first : Bool), Inv X pins σ H s → RelV v u → t v D σ H → wpAny (model X.prog X.w) X.A (matchCases cs X.env u first) (SP X pins D) X.xe s
theorem pcs_last {body : List Stmt} {p : Pos} {t : TS} (h : PSs X body t) : PCs X [⟨.MatchAs none none p, none, body⟩] (fun _ => t) := ⟨fun pins s σ H D v u first I r q =>
  wpAny_matchCases_cons (wpAny_matchPattern_Capture (wpAny_assignInOrder_none (h.run pins s σ H D I q)))⟩
theorem pcs_str {x : Str} {p p2 : Pos} {j : Nat} {body : List Stmt} {rest : List MatchCase} {t : TS} {u : V → TS} (h : PSs X body t) (hr : PCs X rest u) :
    PCs X (⟨.MatchValue (.Constant (.str x) j p) p2, none, body⟩ :: rest) (fun v D σ H => ∃ z, v = .str z ∧ if z.cps.toList = x.cps.toList then t D σ H else u v D σ H) := ⟨fun pins s σ H D v w first I r q => by
  obtain ⟨z, rfl, q⟩ := q
  refine wpAny_matchCases_cons (wpAny_matchPattern_Value (thn ((pe_str (X := X) (x := x) (j := j) (pos := p)).run pins s σ H (fun v' H' => v' = .str x ∧ H' = H) I ⟨rfl, rfl⟩) fun y s1 hy => ?_))
  obtain ⟨v', H', I1, ry, rfl, rfl⟩ := hy
  refine thn (op_eq pins s1 σ H' (.str z) (.str x) w y (fun v' H2 => v' = .bl (decide (V.str z = V.str x)) ∧ H2 = H') I1 r ry ⟨rfl, rfl, rfl⟩) fun c s2 hc => ?_
  obtain ⟨v', H2, I2, rc, rfl, rfl⟩ := hc
  obtain rfl : c = Value.bool _ := rc
  refine wpAny_truthy_bool ?_
  have e : decide (V.str z = V.str x) = decide (z.cps.toList = x.cps.toList) := str_dec z x
  rw [e]
  by_cases c : z.cps.toList = x.cps.toList
  · rw [if_pos c] at q
    rw [decide_eq_true c]
    exact wpAny_assignInOrder_none (h.run pins s2 σ H2 D I2 q)
  · rw [if_neg c] at q
    rw [decide_eq_false c]
    exact hr.run pins s2 σ H2 D _ _ false I2 r q⟩
theorem ps_match {e : Expr} {cs : List MatchCase} {te : TE} {tc : V → TS} (he : PE X e te) (hc : PCs X cs tc) : PS X (.Match e cs pos) (fun D σ H => te σ H fun v H' => tc v D σ H') := ⟨fun pins s σ H D I h =>
  wpAny_Match (thn (he.run pins s σ H _ I h) fun u s1 ⟨v, H1, I1, r, q⟩ => hc.run pins s1 σ H1 D v u true I1 r q)⟩
end
section
variable {M : Ghost} {C : Ct M} {e : Expr} {we : EW M} {pos : Pos}
def tcOf (X : Cx) (cs : List MatchCase) : V → TS := fun v D σ H => ∀ (pins : List (Addr × Obj)) (s : Shared) (u : Value) (first : Bool), Inv X pins σ H s → RelV v u → wpAny (model X.prog X.w) X.A (matchCases cs X.env u first) (SP X pins D) X.xe s
theorem pcs_tOf {X : Cx} {cs : List MatchCase} : PCs X cs (tcOf X cs) := ⟨fun pins s σ H D v u first I r h => h pins s u first I r⟩
@[simp] def wCase (y : List Nat) (w : SW M) (u : List Nat → SW M) : List Nat → SW M := fun z k ρ g => if z = y then w k ρ g else u z k ρ g
/-- .. by data -/
structure DCs (C : Ct M) (cs : List MatchCase) (w : List Nat → SW M) : Prop where
  run : ∀ (σ : L2.St) (ρ : DEnv) (W : Wd M) (k : K3 M) (E : Ends) (z : Str), Sat C σ ρ W → Lf C W k E → w z.cps.toList k ρ W.g → tcOf C.X cs (.str z) E σ W.H
theorem dcs_last {body : List Stmt} {p : Pos} {w : SW M} (h : DSs C body w) : DCs C [⟨.MatchAs none none p, none, body⟩] (fun _ => w) := ⟨fun σ ρ W k E z S l q pins s u first I r =>
  (pcs_last pss_tOf).run pins s σ W.H E (.str z) u first I r (h.run σ ρ W k E S l q)⟩
theorem dcs_str {x : Str} {p p2 : Pos} {j : Nat} {body : List Stmt} {rest : List MatchCase} {w : SW M} {u : List Nat → SW M} (y : List Nat) (h : DSs C body w) (hr : DCs C rest u) (hy : x.cps.toList = y := by decide +kernel) :
    DCs C (⟨.MatchValue (.Constant (.str x) j p) p2, none, body⟩ :: rest) (wCase y w u) := ⟨fun σ ρ W k E z S l q pins s v first I r => by
  refine (pcs_str (x := x) (u := tcOf C.X rest) pss_tOf pcs_tOf).run pins s σ W.H E (.str z) v first I r ⟨z, rfl, ?_⟩
  unfold wCase at q
  by_cases c : z.cps.toList = y
  · rw [if_pos c] at q
    rw [if_pos (c.trans hy.symm)]
    exact h.run σ ρ W k E S l q
  · rw [if_neg c] at q
    rw [if_neg (fun e => c (e.trans hy))]
    exact hr.run σ ρ W k E z S l q⟩
@[simp] def wMatch (we : EW M) (w : List Nat → SW M) : SW M := fun k ρ g => we ρ g fun d g1 => ∃ z, d = .str z ∧ w z k ρ g1
theorem ds_match {cs : List MatchCase} {w : List Nat → SW M} (he : DE C e we) (hc : DCs C cs w) : DS C (.Match e cs pos) (wMatch we w) := ⟨fun σ ρ W k E S l h =>
  tsOf_of (ps_match pe_tOf pcs_tOf) (he.run σ ρ W _ _ S (fun v d W1 g1 k1 r1 q1 => by
    obtain ⟨z, rfl, q1⟩ := q1
    cases r1 with
    | str y _ hy =>
      subst hy
      exact hc.run σ ρ W1 k E y (S.step g1 k1) (l.step g1.s) q1) h)⟩
end
end DL
set_option Elab.async false
set_option linter.all false
set_option maxRecDepth 100000
set_option maxHeartbeats 4000000
namespace DL
open PySem L2 PySem.W
section
variable {K : Frag} {F : Hp} {R : List Addr} {p : Addr} {us : List V}
end
section
variable {M : Ghost} {C : Ct M} {W : Wd M} {σ : L2.St} {ρ : DEnv}
end
section
variable {C : Ct stq} {e e2 e3 : Expr} {pos spos : Pos} {wo we wi : EW stq}
end
end DL
set_option Elab.async false
set_option linter.all false
set_option maxRecDepth 100000
set_option maxHeartbeats 4000000
namespace DL
open PySem PySem.Spec PyProof.Rows L2
def Z3St (S1 S2 S3 : Sq) (t1 t2 t3 : Tok) (N i : Nat) (h : Heap) : Prop := IsZip h (N + 5) (N + 3) (N + 4) .none ∧ IsTupOf3 h (N + 3) (.ref N) (.ref (N + 1)) (.ref (N + 2)) ∧ (∃ a1 a2 a3, IsTupOf3 h (N + 4) a1 a2 a3) ∧
  S1.st t1 N i h ∧ S2.st t2 (N + 1) i h ∧ S3.st t3 (N + 2) i h
theorem z3_cells {N b : Nat} (h : b ∈ [N + 5, N + 3, N + 4, N, N + 1, N + 2]) : b = N + 5 ∨ b = N + 3 ∨ b = N + 4 ∨ b = N ∨ b = N + 1 ∨ b = N + 2 := by simpa using h
section
variable {P : Program} {w : World} {K : PySem.W.Frag} {elts : List Expr} {kk : Nat} {tpos : Pos} {S1 S2 S3 : Sq} {t1 t2 t3 : Tok} {N : Nat}
theorem Z3St.obj {i : Nat} {h : Heap} (st : Z3St S1 S2 S3 t1 t2 t3 N i h) : ∀ b ∈ [N + 5, N + 3, N + 4, N, N + 1, N + 2], ∃ o, h.get? b = some o ∧ ∀ v, o.data ≠ .cell v := by
  obtain ⟨hz, hTI, ⟨_, _, _, hTO⟩, s1, s2, s3⟩ := st
  intro b hb
  rcases z3_cells hb with q | q | q | q | q | q
  · rw [q]; exact ⟨_, hz, fun v q => nomatch q⟩
  · rw [q]; exact ⟨_, hTI, fun v q => nomatch q⟩
  · rw [q]; exact ⟨_, hTO, fun v q => nomatch q⟩
  · rw [q]; obtain ⟨o, ho, vs, hd⟩ := Sq.stLive s1; exact ⟨o, ho, fun v q => by rw [hd] at q; cases q⟩
  · rw [q]; obtain ⟨o, ho, vs, hd⟩ := Sq.stLive s2; exact ⟨o, ho, fun v q => by rw [hd] at q; cases q⟩
  · rw [q]; obtain ⟨o, ho, vs, hd⟩ := Sq.stLive s3; exact ⟨o, ho, fun v q => by rw [hd] at q; cases q⟩
theorem Z3St.keep {i : Nat} {h h' : Heap} (st : Z3St S1 S2 S3 t1 t2 t3 N i h) (k : ∀ b ∈ [N + 5, N + 3, N + 4, N, N + 1, N + 2], ∀ o, h.get? b = some o → h'.get? b = some o) : Z3St S1 S2 S3 t1 t2 t3 N i h' := by
  obtain ⟨hz, hTI, ⟨_, _, _, hTO⟩, s1, s2, s3⟩ := st
  exact ⟨k _ (by simp) _ hz, k _ (by simp) _ hTI, ⟨_, _, _, k _ (by simp) _ hTO⟩, Sq.stAt s1 fun o q => k _ (by simp) o q, Sq.stAt s2 fun o q => k _ (by simp) o q, Sq.stAt s3 fun o q => k _ (by simp) o q⟩
end
section
variable {M : Ghost} {C : Ct M} {W W1 W2 W' : Wd M} {σ : L2.St} {ρ : DEnv} {pos p : Pos}
structure WKp (K : PySem.W.Frag) (Ws : Wd M) (J : It) (ds : List D) (P : M.G → Prop) : Prop where
  go : ∀ (i : Nat) (W : Wd M) d, Gs Ws W → Wok K W → P W.g → ds[i]? = some d → J.go i W.H ∧ ∀ x H', J.yld i W.H x H' → ∃ W', W'.H = H' ∧ Go W W' ∧ Wok K W' ∧ W'.g = W.g ∧ Rp K W'.F W'.R x d
  stop : ∀ (i : Nat) (W : Wd M), Gs Ws W → Wok K W → P W.g → ds[i]? = none → J.stop i W.H
abbrev IWp (M : Ghost) := DEnv → M.G → (List D → (M.G → Prop) → M.G → Prop) → Prop
structure DIp (C : Ct M) (tg iter : Expr) (w : IWp M) : Prop where
  run : ∀ (σ : L2.St) (ρ : DEnv) (W : Wd M) (R : It → Hp → Prop) (q : List D → (M.G → Prop) → M.G → Prop), Sat C σ ρ W → (∀ J ds P W', Go W W' → Wok C.X.K W' → WKp C.X.K W' J ds P → q ds P W'.g → R J W'.H) → w ρ W.g q → iOf C.X tg iter σ W.H R
def forWp (gw : GW) (wb : SW M) (P : M.G → Prop) : List D → SW M
  | [], k => fun ρ g => P g ∧ k.nx ρ g
  | d :: ds, k => fun ρ g => P g ∧ gw d ρ fun ρ' => wb { nx := forWp gw wb P ds k, rt := k.rt, bk := k.nx, ct := forWp gw wb P ds k } ρ' g
@[simp] def wForP (wi : IWp M) (gw : GW) (wb : SW M) : SW M := fun k ρ g => wi ρ g fun ds P g' => forWp gw wb P ds k ρ g'
theorem ds_forP {tg iter : Expr} {body : List Stmt} {is : List Nat} {wi : IWp M} {gw : GW} {wb : SW M} (hp : PassesOwn (model C.X.prog C.X.w) C.X.A C.X.env C.X.xe) (hc : C.X.calm = true) (hi : DIp C tg iter wi) (hg : DG C is tg gw) (hb : DSs C body wb)
    (hs : ∀ x, foldedSetIterable iter C.X.env x = pure x := by intro _; rfl) : DS C (.For tg iter body [] pos) (wForP wi gw wb) := ⟨fun σ ρ W k E S l h => by
  refine tsOf_of (ps_for hp hc pi_tOf pg_tOf pss_tOf hs) (hi.run σ ρ W _ _ S (fun J ds P W1 g1 k1 wk q1 => ?_) h)
  refine ⟨fun i m σ H => ∃ (ρ : DEnv) (W2 : Wd M), W2.H = H ∧ Sat C σ ρ W2 ∧ Gs W1 W2 ∧ m = ds.length - i ∧ forWp gw wb P (ds.drop i) k ρ W2.g, ⟨ds.length, ρ, W1, rfl, S.step g1 k1, Gs.refl _, rfl, q1⟩, ?_⟩
  rintro i m σ2 H2 ⟨ρ2, W2, rfl, S2, g2, rfl, q2⟩
  cases hd : ds[i]? with
  | none =>
    have e : ds.drop i = [] := List.drop_eq_nil_of_le (List.getElem?_eq_none_iff.mp hd)
    rw [e] at q2
    exact .inl ⟨wk.stop i W2 g2 S2.ok q2.1 hd, l.nx σ2 ρ2 W2 (g1.s.trans g2) S2 q2.2⟩
  | some d =>
    obtain ⟨hlt, hd'⟩ := List.getElem?_eq_some_iff.mp hd
    have e : ds.drop i = d :: ds.drop (i + 1) := by rw [List.drop_eq_getElem_cons hlt, hd']
    rw [e] at q2
    obtain ⟨pq, q2⟩ := q2
    obtain ⟨go, yld⟩ := wk.go i W2 d g2 S2.ok pq hd
    refine .inr ⟨go, fun σ H => ∃ (ρ : DEnv) (W3 : Wd M), W3.H = H ∧ Sat C σ ρ W3 ∧ Gs W1 W3 ∧ forWp gw wb P (ds.drop (i + 1)) k ρ W3.g, ?_, fun x H' y => ?_⟩
    · rintro σ' H' ⟨ρ3, W3, e3, S3, g3, q3⟩
      exact ⟨ds.length - (i + 1), by omega, ρ3, W3, e3, S3, g3, rfl, q3⟩
    · obtain ⟨W3, rfl, g3, k3, e3, r3⟩ := yld x H' y
      rw [← e3] at q2
      refine hg.run σ2 ρ2 W3 x d _ _ (S2.step g3 k3) r3 (fun σ4 ρ4 S4 _ _ q4 => ?_) q2
      have g13 : Gs W1 W3 := g2.trans g3.s
      have nx : ∀ σ' ρ' W', Gs W3 W' → Sat C σ' ρ' W' → forWp gw wb P (ds.drop (i + 1)) k ρ' W'.g → ∃ (ρ : DEnv) (W4 : Wd M), W4.H = W'.H ∧ Sat C σ' ρ W4 ∧ Gs W1 W4 ∧ forWp gw wb P (ds.drop (i + 1)) k ρ W4.g :=
        fun σ' ρ' W' g S' q => ⟨ρ', W', rfl, S', g13.trans g, q⟩
      exact hb.run σ4 ρ4 W3 { nx := forWp gw wb P (ds.drop (i + 1)) k, rt := k.rt, bk := k.nx, ct := forWp gw wb P (ds.drop (i + 1)) k } _ S4 ⟨nx, l.rt, fun σ' ρ' W' g S' q => l.nx σ' ρ' W' ((g1.s.trans g13).trans g) S' q, nx⟩ q4⟩
end
section
variable {C : Ct stq} {W W1 : Wd stq} {pos p : Pos} {a b c : Expr} {wa wb wc : EW stq}
end
end DL
set_option Elab.async false
set_option linter.all false
set_option maxRecDepth 100000
set_option maxHeartbeats 4000000
namespace DL
open PySem L2 PySem.W
section
variable {W W0 : Wd stq}
abbrev Wd.rg (W : Wd stq) (p : Addr) (o : Ob) : Wd stq := ⟨W.F, W.H, W.R ++ [p], ⟨W.g.n, W.g.S ++ [o]⟩⟩
theorem Go.rg (g : Go W0 W) {p : Addr} {o : Ob} (hp : W0.H p = none) : Go W0 (W.rg p o) := by
  obtain ⟨new, e, q⟩ := g.reg
  refine ⟨g.sub, g.keep, g.live, g.young, new ++ [p], by show W.R ++ [p] = _; rw [e, List.append_assoc], fun c hc => ?_⟩
  rcases List.mem_append.mp hc with z | z
  · exact q c z
  · rw [List.mem_singleton.mp z]; exact hp
end
section
variable {C : Ct stq} {W : Wd stq} {σ : L2.St} {ρ : DEnv} {a b e : Expr} {w : NW stq} {we wa wb : EW stq} {p pos : Pos}
end

mutual
/-- nothing of the store within -/
def nob : D → Bool
  | .ob _ => false
  | .lst xs => nobA xs
  | .tup xs => nobA xs
  | .tx xs => nobA xs
  | .dic kvs => nobK kvs
  | .exn _ _ ds => nobA ds
  | _ => true
def nobA : List D → Bool
  | [] => true
  | d :: ds => nob d && nobA ds
def nobK : List (Key × D) → Bool
  | [] => true
  | (_, d) :: ds => nob d && nobK ds
end
section
variable {K : Frag} {F F' : Hp} {R R' : List Addr}
mutual
theorem Rp.nobs (e : Same F F') : ∀ {v : V} {d : D}, Rp K F R v d → nob d = true → Rp K F' R' v d
  | _, _, .non, _ => .non
  | _, _, .bl b, _ => .bl b
  | _, _, .int i, _ => .int i
  | _, _, .str z x h, _ => .str z x h
  | _, _, .lst h q, n => .lst (e _ _ h) (RpA.nobs e q n)
  | _, _, .tup h q, n => .tup (same_tup e h) (RpA.nobs e q n)
  | _, _, .dic h q, n => .dic (e _ _ h) (RpK.nobs e q n)
  | _, _, .ob h, n => by cases n
  | _, _, .exn0 h1 h2 h3 h4, _ => .exn0 h1 (e _ _ h2) h3 h4
  | _, _, .exn h1 h2 h3 h4 h5 h6 q, n => .exn h1 (e _ _ h2) h3 h4 (e _ _ h5) h6 (RpA.nobs e q n)
  | _, _, .tx h1 h2 h3 q, n => .tx (e _ _ h1) h2 h3 (RpA.nobs e q n)
  | _, _, .cl h, _ => .cl h
theorem RpA.nobs (e : Same F F') : ∀ {v : List V} {d : List D}, RpA K F R v d → nobA d = true → RpA K F' R' v d
  | _, _, .nil, _ => .nil
  | _, _, .cons h q, n => by
    have n2 := Bool.and_eq_true_iff.mp n
    exact .cons (Rp.nobs e h n2.1) (RpA.nobs e q n2.2)
theorem RpK.nobs (e : Same F F') : ∀ {v : List (Key × V)} {d : List (Key × D)}, RpK K F R v d → nobK d = true → RpK K F' R' v d
  | _, _, .nil, _ => .nil
  | _, _, .cons h q, n => by
    have n2 := Bool.and_eq_true_iff.mp n
    exact .cons (Rp.nobs e h n2.1) (RpK.nobs e q n2.2)
end
end
mutual
/-- a datum with the lists of the store written out -/
inductive Rsv (S : List Ob) : D → D → Prop
  | im {d : D} : nob d = true → Rsv S d d
  | ob {k : Nat} {ds es : List D} : S[k]? = some (.lst ds) → RsvA S ds es → Rsv S (.ob k) (.lst es)
  | lst {ds es : List D} : RsvA S ds es → Rsv S (.lst ds) (.lst es)
inductive RsvA (S : List Ob) : List D → List D → Prop
  | nil : RsvA S [] []
  | cons {d e : D} {ds es : List D} : Rsv S d e → RsvA S ds es → RsvA S (d :: ds) (e :: es)
end
mutual
theorem Rsv.rp {K : Frag} {W : Wd stq} (w : Wok K W) : ∀ {d e : D}, Rsv W.g.S d e → ∀ {v : V}, Rp K W.F W.R v d → Rp K W.H [] v e
  | _, _, .im n, _, r => r.nobs w.sub n
  | _, _, .ob h q, _, r => by
    cases r with
    | ob e =>
      obtain ⟨vs, h1, h2⟩ := w.gh.ob _ _ _ e h
      exact .lst h1 (RsvA.rp w q h2)
  | _, _, .lst q, _, r => by
    cases r with
    | lst h1 h2 => exact .lst (w.sub _ _ h1) (RsvA.rp w q h2)
theorem RsvA.rp {K : Frag} {W : Wd stq} (w : Wok K W) : ∀ {ds es : List D}, RsvA W.g.S ds es → ∀ {vs : List V}, RpA K W.F W.R vs ds → RpA K W.H [] vs es
  | _, _, .nil, _, r => by
    cases r
    exact .nil
  | _, _, .cons h q, _, r => by
    cases r with
    | cons r1 r2 => exact .cons (Rsv.rp w h r1) (RsvA.rp w q r2)
end
theorem Rsv.rd {K : Frag} {W : Wd stq} (w : Wok K W) {d e : D} (h : Rsv W.g.S d e) {v : V} (r : RdP K W v d) : Rp K W.H [] v e := by
  rcases r with r | ⟨p, vs, ds, rfl, rfl, hp, np, r⟩
  · exact h.rp w r
  · cases h with
    | im n => exact .lst hp (r.nobs w.sub n)
    | lst q => exact .lst hp (q.rp w r)
/-- a world where nothing is written -/
@[reducible] def stn : Ghost where
  G := Unit
  ok := fun _ _ _ _ _ => True
  keep := fun _ _ _ => trivial
abbrev Ct.sn (C : Ct stq) : Ct stn := ⟨C.X, ⟨fun _ => none, fun _ => none, [], ()⟩, fun _ _ _ => False, ⟨fun _ => none, fun _ => none, [], ()⟩⟩
section
variable {C : Ct stq} {W : Wd stq} {σ : L2.St} {ρ : DEnv} {a b : Expr} {wa wb : EW stq} {pos : Pos} {r : D → D → (D → Prop) → Prop}
end

section
variable {C : Ct stq} {W : Wd stq} {σ : L2.St} {ρ : DEnv} {e iter : Expr} {we : EW stq} {p p2 pos pos2 : Pos}
end
end DL
set_option Elab.async false
set_option linter.all false
set_option maxRecDepth 100000
set_option maxHeartbeats 4000000
namespace DL
open PySem L2 PySem.W
theorem heap_top (h : Heap) (o : Obj) (f : Obj → Obj) : (h.push o).update h.objs.size f = h.push (f o) := by
  obtain ⟨objs, l⟩ := h
  have e : (objs.push o).modify objs.size f = objs.push (f o) := by
    apply Array.ext
    · simp
    · intro i h1 h2
      rw [Array.getElem_modify]
      by_cases c : objs.size = i
      · subst c
        simp
      · have hi : i < objs.size := by simp at h2; omega
        rw [if_neg c, Array.getElem_push_lt hi, Array.getElem_push_lt hi]
  show (⟨(objs.push o).modify objs.size f, l⟩ : Heap) = ⟨objs.push (f o), l⟩
  rw [e]
section
variable {prog : Program} {w : World} {A : Around} {E : Value → Shared → Prop}
theorem kw_step {h0 : Heap} {s : Shared} {es : List DictEntry} {n : Nat} {k : Str} {v : Value} {Q : Unit → Shared → Prop} (e0 : s.heap = h0.push (dictOf es n)) (hs : ∀ e ∈ es, e.key.isStr k = false) (hr : ∀ e ∈ es, e.refKey = false)
    (h : Q () { s with heap := h0.push (dictOf (es ++ [⟨PyData.keyHash w.params k, .str k s.toks, v⟩]) (n + 1)), toks := s.toks + 1 }) : wpAny (model prog w) A (nsSet h0.objs.size k v) Q E s := by
  have e1 : es.any (·.key.isStr k) = false := by
    cases q : es.any (·.key.isStr k) with
    | false => rfl
    | true => obtain ⟨e, he, z⟩ := List.any_eq_true.mp q; rw [hs e he] at z; cases z
  have e2 : es.any (·.refKey) = false := by
    cases q : es.any (·.refKey) with
    | false => rfl
    | true => obtain ⟨e, he, z⟩ := List.any_eq_true.mp q; rw [hr e he] at z; cases z
  have e : Obj.putName k (PyData.keyHash w.params k) (.str k s.toks) v (dictOf es n) = dictOf (es ++ [⟨PyData.keyHash w.params k, .str k s.toks, v⟩]) (n + 1) := by
    rw [putName_dict, putL_new hs]
    show dictOf _ (if es.any (·.key.isStr k) then n else n + 1) = _
    rw [e1, if_neg Bool.false_ne_true]
  have D : s.heap.get? h0.objs.size = some (dictOf es n) := by rw [e0]; exact Heap.get?_push_size _ rfl
  have c : aRefKeyMayBeTheName k es.toArray = false := by
    rw [aRefKeyMayBeTheName_at, ← Array.any_toList, ← Array.any_toList]
    show (!es.any (·.key.isStr k) && es.any (·.refKey)) = false
    rw [e2, Bool.and_false]
  unfold nsSet
  refine wpAny_bind (wpAny_bind (wpAny_askSetting (wpAny_pure (wpAny_bind (wpAny_mkText (wpAny_bind (wpAny_loadPart D ?_)))))))
  dsimp only
  rw [c]
  refine wpAny_updatePart D ?_
  show Q () { s with heap := s.heap.update h0.objs.size (Obj.putName k (PyData.keyHash w.params k) (.str k s.toks) v), toks := s.toks + 1 }
  rw [e0, heap_top, e]
  exact h
theorem kw_fill {h0 : Heap} {Q : PUnit → Shared → Prop} : ∀ (ex : List (Str × Value)) (s : Shared) (es : List DictEntry) (n : Nat), s.heap = h0.push (dictOf es n) →
    (∀ e ∈ es, ∀ x ∈ ex, e.key.isStr x.1 = false) → (∀ e ∈ es, e.refKey = false) → (ex.map (·.1)).Nodup →
    Q ⟨⟩ { s with heap := h0.push (dictOf (es ++ kwEs w.params s.toks ex) (n + ex.length)), toks := s.toks + ex.length } →
    wpAny (model prog w) A (forIn ex PUnit.unit fun x _ => (nsSet h0.objs.size x.1 x.2 >>= fun _ => pure (ForInStep.yield PUnit.unit))) Q E s
  | [], s, es, n, e0, _, _, _, h => by
    rw [List.forIn_nil]
    refine wpAny_pure ?_
    have h : Q ⟨⟩ { s with heap := h0.push (dictOf (es ++ []) n), toks := s.toks } := h
    rw [List.append_nil, ← e0] at h
    exact h
  | x :: r, s, es, n, e0, hs, hr, hn, h => by
    obtain ⟨hn1, hn2⟩ := List.nodup_cons.mp (show (x.1 :: r.map (·.1)).Nodup from hn)
    rw [List.forIn_cons]
    refine wpAny_bind (wpAny_bind (kw_step e0 (fun e he => hs e he x (.head _)) hr (wpAny_pure ?_)))
    show wpAny (model prog w) A (forIn r PUnit.unit fun x _ => (nsSet h0.objs.size x.1 x.2 >>= fun _ => pure (ForInStep.yield PUnit.unit))) Q E _
    refine kw_fill r _ (es ++ [⟨PyData.keyHash w.params x.1, .str x.1 s.toks, x.2⟩]) (n + 1) rfl (fun e he y hy => ?_) (fun e he => ?_) hn2 ?_
    · rcases List.mem_append.mp he with he | he
      · exact hs e he y (.tail _ hy)
      · obtain rfl := List.mem_singleton.mp he
        show (x.1 == y.1) = false
        exact beq_eq_false_iff_ne.mpr fun q => hn1 (by rw [q]; exact List.mem_map_of_mem hy)
    · rcases List.mem_append.mp he with he | he
      · exact hr e he
      · obtain rfl := List.mem_singleton.mp he
        rfl
    · have t1 : s.toks + 1 + r.length = s.toks + (r.length + 1) := by omega
      have t2 : n + 1 + r.length = n + (r.length + 1) := by omega
      show Q ⟨⟩ { s with heap := h0.push (dictOf ((es ++ [⟨PyData.keyHash w.params x.1, .str x.1 s.toks, x.2⟩]) ++ kwEs w.params (s.toks + 1) r) (n + 1 + r.length)), toks := s.toks + 1 + r.length }
      rw [t1, t2, List.append_assoc]
      exact h
end
section
variable {P : Program} {w : World} {K : Frag} {mg : Str → Option Value} {base : Heap}
/-- the def's binding, for these names -/
def KwB (fd : FuncData) (x nm : Str) (ks : List Str) : Prop := ∀ (u : Value) (vs : List Value), vs.length = ks.length →
  bindArgs fd ⟨[u], ks.zip vs⟩ = (alloc (dictOf [] 0) >>= fun d => forIn (ks.zip vs) PUnit.unit (fun x _ => (nsSet d x.1 x.2 >>= fun _ => pure (ForInStep.yield PUnit.unit))) >>= fun _ => pure [(x, u), (nm, Value.ref d)])
theorem kwB_of {x qual px nm : Str} {st : Stmt} {f : Addr} {fd : FuncData} {ks : List Str} (F : Fun K x qual st f fd)
    (h : ∀ (kV doc pm : Value) (an : Option Addr) (cdv ct : Value) (u : Value) (vs : List Value), vs.length = ks.length → bindArgs (PySem.W.fnOf x qual (defArgs st) (defBody st) (defScope st) .none kV doc pm an cdv ct) ⟨[u], ks.zip vs⟩ = (alloc (dictOf [] 0) >>= fun d => forIn (ks.zip vs) PUnit.unit (fun x _ => (nsSet d x.1 x.2 >>= fun _ => pure (ForInStep.yield PUnit.unit))) >>= fun _ => pure [(px, u), (nm, Value.ref d)])) : KwB fd px nm ks := by
  obtain ⟨_, _, kV, doc, pm, an, cdv, ct, _, rfl, _, _⟩ := F.ex
  exact fun u vs hl => h kV doc pm an cdv ct u vs hl
abbrev DKw := D → List (Key × D) → Gq → (D → Gq → Prop) → (Exn → Gq → Prop) → Prop
def FnKwR (P : Program) (w : World) (K : Frag) (mg : Str → Option Value) (base : Heap) (k : Nat) (f : Addr) (KS : List (List Str)) (sp : List Str → Sp) : Prop :=
  ∀ (A : Around) (fr : List Env) (s : Shared) (H : Hp) (ks : List Str) (us : List Value) (xs : List V) (u : Value) (x : V) (Q : VK) (E : XK), ks ∈ KS → Room k A → A.guards = some [] →
    Env0 P w K mg base A fr s H → RelV x u → Vals xs us → us.length = ks.length → sp ks (x :: xs) H Q E → codeAny (model P w) A (.call (.ref f) ⟨[u], ks.zip us⟩) (CR (L2N.CX P w) fr P w H s Q E) s
def liftKw (K : Frag) (sp : DKw) : List Str → Sp := fun ks vs H Q E => ∃ (W : Wd stq) (d : D) (ds : List D) (q : D → Gq → Prop) (ex : Exn → Gq → Prop), W.H = H ∧ Wok K W ∧ RpA K W.F W.R vs (d :: ds) ∧ ds.length = ks.length ∧ sp d ((ks.map Sum.inr).zip ds) W.g q ex ∧
  (∀ v d W', Go W W' → Wok K W' → Rp K W'.F W'.R v d → q d W'.g → Q v W'.H) ∧ ∀ cls d H', EXk K W ex cls d H' → E cls d H'
theorem kwEs_mix : ∀ (ks : List Str) (us : List Value) (t : Tok), Pairs (mixKind P w) (kwEs w.params t (ks.zip us)) ((ks.map Sum.inr).zip us)
  | [], _, _ => Pairs.nil
  | _ :: _, [], _ => Pairs.nil
  | k :: ks, u :: us, t => Pairs.cons (strKind_is P w k t) rfl (kwEs_mix ks us (t + 1))
theorem zip_fst {α β : Type} : ∀ {as : List α} {bs : List β}, bs.length = as.length → (as.zip bs).map (·.1) = as
  | [], _, _ => rfl
  | a :: as, [], h => by cases h
  | a :: as, b :: bs, h => by
    show a :: (as.zip bs).map (·.1) = _
    rw [zip_fst (Nat.succ.inj h)]
theorem kw_dict {h : Heap} {d : Addr} {ks : List Str} {us : List Value} {t : Tok} {n : Nat} (hg : h.get? d = some (dictOf (kwEs w.params t (ks.zip us)) n)) (hn : ks.Nodup) (hl : us.length = ks.length) : h.DictOf (mixKind P w) d ((ks.map Sum.inr).zip us) :=
  ⟨_, (kwEs w.params t (ks.zip us)).toArray, n, hg, ⟨rfl, rfl, rfl⟩, rfl, fun e he => by
    obtain ⟨k, u, hk, hh⟩ := kwEs_key (ks.zip us) t e (List.mem_toArray.mp he)
    exact ⟨.inr k, by rw [hk]; exact strKind_is P w k u, hh.trans rfl⟩, kwEs_mix ks us t, by
    rw [zip_fst (by rw [List.length_map]; exact hl)]
    exact List.Pairwise.map Sum.inr (fun a b h z => h (Sum.inr.inj z)) hn⟩
theorem kw_kv : ∀ {ks : List Str} {xs : List V} {us : List Value}, Vals xs us → KV ((ks.map (Sum.inr : Str → Key)).zip xs) ((ks.map Sum.inr).zip us)
  | [], _, _, _ => .nil
  | k :: ks, _, _, .nil => .nil
  | k :: ks, _, _, .cons r rr => .cons ⟨rfl, r⟩ (kw_kv rr)
theorem kw_rp {F : Hp} {R : List Addr} : ∀ {ks : List Str} {xs : List V} {ds : List D}, RpA K F R xs ds → RpK K F R ((ks.map (Sum.inr : Str → Key)).zip xs) ((ks.map Sum.inr).zip ds)
  | [], _, _, _ => .nil
  | k :: ks, _, _, .nil => .nil
  | k :: ks, _, _, .cons r rr => .cons r (kw_rp rr)
theorem Wok.rgK {W : Wd stq} (w : Wok K W) {p : Addr} {o : Obj} {kvs : List (Key × V)} {kds : List (Key × D)} (hp : W.H p = some (.frz o (.dK kvs))) (hf : W.F p = none) (nR : p ∉ W.R) (r : RpK K W.F W.R kvs kds) : Wok K (W.rg p (.kw o kvs kds)) := by
  have g := w.gh
  refine ⟨w.sub, ⟨by rw [List.length_append, List.length_append, g.len]; rfl, ?_, ix_app g.r0, ix_app g.r1, fun hn => (g.str hn).mono (Nat.le_refl _) (Same.refl _) fun j b hj e => ⟨ix_app e, rfl⟩, fun j b o e1 e2 => ?_, fun j cls fs e => ?_⟩, fun c hc => ?_, fun c hc => ?_⟩
  · rw [List.nodup_append]
    exact ⟨g.nd, by simp, fun c hc d hd e => nR (by rw [List.mem_singleton.mp hd] at e; exact e ▸ hc)⟩
  · by_cases hj : j < W.R.length
    · rw [List.getElem?_append_left hj] at e1
      rw [List.getElem?_append_left (by rw [← g.len]; exact hj)] at e2
      exact (g.ob j b o e1 e2).mono (Same.refl _) (fun _ _ z => ix_app z) rfl fun cls fs dx ep ed => rfl
    · rw [List.getElem?_append_right (by omega)] at e1
      rw [List.getElem?_append_right (by rw [← g.len]; omega), ← g.len] at e2
      obtain ⟨l, e1'⟩ := List.getElem?_eq_some_iff.mp e1
      have hz : j - W.R.length = 0 := by simp at l; omega
      rw [hz] at e1 e2
      cases e1
      cases e2
      exact ⟨hp, r.mono (Same.refl _) fun _ _ z => ix_app z⟩
  · by_cases hj : j < W.g.S.length
    · rw [List.getElem?_append_left hj] at e
      exact ix_app (g.aux j cls fs e)
    · rw [List.getElem?_append_right (by omega)] at e
      obtain ⟨l, e'⟩ := List.getElem?_eq_some_iff.mp e
      have hz : j - W.g.S.length = 0 := by simp at l; omega
      rw [hz] at e
      cases e
  · rcases List.mem_append.mp hc with hc | hc
    · exact w.rf c hc
    · rw [List.mem_singleton.mp hc]; exact hf
  · show W.H c ≠ none
    rcases List.mem_append.mp hc with hc | hc
    · exact w.rh c hc
    · rw [List.mem_singleton.mp hc, hp]; simp
theorem fnKw_of {x qual px nm : Str} {st : Stmt} {f : Addr} {fd : FuncData} {N : List Str} {k : Nat} {KS : List (List Str)} {sp : DKw} {wb : (Exn → stq.G → Prop) → SW stq} (F : Fun K x qual st f fd) (Sc : FnScope N [px, nm] (defScope st))
    (hb : ∀ ks ∈ KS, KwB fd px nm ks) (hks : ∀ ks ∈ KS, ks.Nodup ∧ ks.length ≤ 1000)
    (hbody : ∀ (cdv : Value) (A : Around) (outer : List Env) (s : Shared) (H : Hp) (E : XK) (W0 : Wd stq) (EX : Exn → stq.G → Prop), Room k (A.deeper (PyProof.Rows.envOfC qual (defScope st) s.heap.objs.size f cdv)) → A.guards = some [] →
      TakesD (M := stq) ⟨cxOf (L2N.CX P w) P w K mg base N qual (defScope st) f cdv A outer s H E, W0, xk EX, W0⟩ → DSs (M := stq) ⟨cxOf (L2N.CX P w) P w K mg base N qual (defScope st) f cdv A outer s H E, W0, xk EX, W0⟩ (defBody st) (wb EX))
    (hpure : ∀ (d : D) (o : Obj) (kvs : List (Key × V)) (kds : List (Key × D)) (g : Gq) (q : D → Gq → Prop) (ex : Exn → Gq → Prop), sp d kds g q ex → wb ex (kEndQ q) (startD N [d, .ob g.S.length]) ⟨g.n, g.S ++ [.kw o kvs kds]⟩) :
    FnKwR P w K mg base (k + 1) f KS (liftKw K sp) := by
  obtain ⟨oc, od, kV, doc, pm, an, cdv, ct, osl, rfl, lk, hcd⟩ := F.ex
  intro A outer s H ks us xs u x Q E hks1 hr hgd e0 rx rv hul hsp
  obtain ⟨W, d, ds, q, ex, rfl, ok, rp, hl, hsp, hQ, hE⟩ := hsp
  obtain ⟨nd, hlen⟩ := hks ks hks1
  have hn : W.H s.heap.objs.size = none := e0.hok.fresh (Nat.le_refl _)
  refine StX.run_bnd (ps := [px, nm]) (G := fun ys H2 => ∃ p o, W.H p = none ∧ ys = [x, V.ref p] ∧ H2 = upd W.H p (.frz o (.dK ((ks.map Sum.inr).zip xs)))) lk hcd Sc hr e0 (fun A' Ex Q' z => ?_) fun s2 H2 ys hx hr' => ?_
  · rw [hb ks hks1 u us hul]
    refine wpAny_bind (wpAny_alloc ?_)
    have nd2 : ((ks.zip us).map (·.1)).Nodup := by rw [zip_fst hul]; exact nd
    refine wpAny_bind (kw_fill (h0 := s.heap) (ks.zip us) { s with heap := s.heap.push (dictOf [] 0) } [] 0 rfl (fun _ he => nomatch he) (fun _ he => nomatch he) nd2 (wpAny_pure ?_))
    let o : Obj := dictOf ([] ++ kwEs w.params s.toks (ks.zip us)) (0 + (ks.zip us).length)
    have hg : (s.heap.push o).get? s.heap.objs.size = some o := Heap.get?_push_size _ rfl
    have nw : ObjOk P w (upd W.H s.heap.objs.size (.frz o (.dK ((ks.map Sum.inr).zip xs)))) (s.heap.push o) s.heap.objs.size (.frz o (.dK ((ks.map Sum.inr).zip xs))) := by
      refine ⟨hg, ?_, ?_, (ks.map Sum.inr).zip us, kw_kv rv, kw_dict hg nd hul⟩
      · rw [List.length_zip, List.length_map]
        exact Nat.le_trans (Nat.min_le_left _ _) (Nat.le_trans hlen (by rw [sizeLine_eq]; decide))
      · have := StX.env0_big e0
        exact beq_eq_false_iff_ne.mpr (fun z => by rw [z] at this; exact Nat.lt_irrefl _ this)
    have un := StX.un_laid (fs := frs outer) (s := s) (o := o) (u := .frz o (.dK ((ks.map Sum.inr).zip xs))) hn
    have e1 := StX.env0_laid e0 nw
    exact z { s with heap := s.heap.push o, toks := s.toks + (ks.zip us).length } _ [x, V.ref _] [u, Value.ref _] ⟨e1.frames, e1.mod, e1.bs, e1.bsz, e1.funs, e1.frf, e1.hok, e1.bare⟩ un rfl (fun e s' => cxUpN outer s _ _ _ E e s' un (fun b o h => Heap.get?_push_of_some _ h) rfl) (.cons rx (.cons rfl .nil)) rfl ⟨_, o, hn, rfl, rfl⟩
  · obtain ⟨p, o, hp, rfl, rfl⟩ := hx
    cases rp with
    | cons r0 rr =>
      have k1 := ok.new (o := .frz o (.dK ((ks.map Sum.inr).zip xs))) hp
      have g1 : Go W (W.new p (.frz o (.dK ((ks.map Sum.inr).zip xs)))) := Go.new ok hp
      have k2 := k1.rgK (p := p) upd_same (ok.noF hp) (ok.noR hp) (kw_rp (ks := ks) rr)
      have g2 := Go.rg (p := p) (o := .kw o ((ks.map Sum.inr).zip xs) ((ks.map Sum.inr).zip ds)) g1 hp
      have tk : TakesD (M := stq) ⟨cxOf (L2N.CX P w) P w K mg base N qual (defScope st) f cdv A outer s2 (upd W.H p (.frz o (.dK ((ks.map Sum.inr).zip xs)))) E, (W.new p (.frz o (.dK ((ks.map Sum.inr).zip xs)))).rg p (.kw o ((ks.map Sum.inr).zip xs) ((ks.map Sum.inr).zip ds)), xk ex, (W.new p (.frz o (.dK ((ks.map Sum.inr).zip xs)))).rg p (.kw o ((ks.map Sum.inr).zip xs) ((ks.map Sum.inr).zip ds))⟩ := fun u s' x =>
        L2N.takes_of (X := cxOf (L2N.CX P w) P w K mg base N qual (defScope st) f cdv A outer s2 (upd W.H p (.frz o (.dK ((ks.map Sum.inr).zip xs)))) E) rfl rfl rfl rfl u s' (by
          obtain ⟨a, B, sI, pins, σ, H, cls, d, e, I, nb, up, sky, na, os, ag, x, ρ, W', z1, z2, z3, z4⟩ := x
          exact ⟨a, B, sI, pins, σ, H, cls, d, e, I, nb, up, sky, na, os, ag, hE _ _ _ ⟨x, W', z1, g2.trans z2.go, z2.ok, z3, z4⟩⟩)
      refine ⟨_, pss_tOf, ?_⟩
      refine (hbody cdv A outer s2 _ E _ ex hr' hgd tk).run _ _ _ (kEndQ q) _ (sat_start k2 rfl rfl (.cons (r0.mono (Same.refl _) fun _ _ z => ix_app z) (.cons (.ob ?_) .nil))) ⟨fun σ' ρ' W' g S' h => ?_, fun v d W' g k r h => ?_, fun _ _ _ _ _ h => h.elim, fun _ _ _ _ _ h => h.elim⟩ (hpure d o ((ks.map Sum.inr).zip xs) ((ks.map Sum.inr).zip ds) W.g q ex hsp)
      · show (W.R ++ [p])[W.g.S.length]? = some p
        rw [← ok.gh.len, List.getElem?_append_right (Nat.le_refl _), Nat.sub_self]
        rfl
      · obtain ⟨n, hn, h⟩ := h
        exact hQ .non .non ({ W' with g := ⟨n, W'.g.S⟩ } : Wd stq) ((g2.trans S'.go).trans (go_moreQ (n := n))) (wok_moreQ S'.ok hn) .non h
      · obtain ⟨n, hn, h⟩ := h
        exact hQ v d ({ W' with g := ⟨n, W'.g.S⟩ } : Wd stq) ((g2.trans g).trans (go_moreQ (n := n))) (wok_moreQ k hn) r h
end
structure FnKwB (P : Program) (w : World) (K : Frag) (mg : Str → Option Value) (base : Heap) (k : Nat) (x : Str) (KS : List (List Str)) (sp : List Str → Sp) : Prop where
  ex : ∃ f : Addr, FnKwR P w K mg base k f KS sp ∧ mg x = some (.ref f) ∧ keepIn K (.ref f) = true
theorem fnKwB_of {P : Program} {w : World} {K : Frag} {mg : Str → Option Value} {base : Heap} {x qual : Str} {st : Stmt} {f : Addr} {fd : FuncData} {k : Nat} {KS : List (List Str)} {sp : List Str → Sp} (F : Fun K x qual st f fd) (g : mg x = some (.ref f)) (G : FnKwR P w K mg base k f KS sp) : FnKwB P w K mg base k x KS sp := ⟨f, G, g, F.kp⟩
structure DKk (C : Ct stq) (kws : List Keyword) (w : AW stq) : Prop where
  run : ∃ t, PK C.X kws t ∧ ∀ (σ : L2.St) (ρ : DEnv) (W : Wd stq) (Q : List V → Hp → Prop) (q : List D → Gq → Prop), Sat C σ ρ W → (∀ vs ds W', Go W W' → Wok C.X.K W' → RpA C.X.K W'.F W'.R vs ds → q ds W'.g → Q vs W'.H) → w ρ W.g q → t σ W.H Q
section
variable {C : Ct stq} {W W1 W2 W' : Wd stq} {σ : L2.St} {ρ : DEnv} {e e2 : Expr} {es : List Expr} {we : EW stq} {pos p kpos apos cpos : Pos} {wa wk : AW stq} {kws : List Keyword} {nm : Option Str}
theorem dkk_nil : DKk C [] wANil := ⟨tNil, pk_nil, fun σ ρ W Q q S hQ h => hQ [] [] W (Go.refl W) S.ok .nil h⟩
theorem dkk_cons (he : DE C e we) (h : DKk C kws wk) : DKk C (⟨nm, e, kpos⟩ :: kws) (wACons we wk) := by
  obtain ⟨t, h1, h2⟩ := h.run
  refine ⟨_, pk_cons pe_tOf h1, fun σ ρ W Q q S hQ hw => ?_⟩
  refine he.run σ ρ W _ _ S (fun v d W1 g1 k1 r1 q1 => ?_) hw
  refine h2 σ ρ W1 _ _ (S.step g1 k1) (fun vs ds W2 g2 k2 r2 q2 => ?_) q1
  exact hQ (v :: vs) (d :: ds) W2 (g1.trans g2) k2 (.cons (r1.step g2) r2) q2
@[simp] def wCallKw (sp : DKw) (ks : List Str) (we : EW stq) (wk : AW stq) (EX : Exn → DEnv → stq.G → Prop) : EW stq := fun ρ g q => we ρ g fun d g1 => wk ρ g1 fun ds g2 => ds.length = ks.length ∧ sp d ((ks.map Sum.inr).zip ds) g2 q fun x g3 => EX x ρ g3
theorem de_callKw {k : Nat} {KS : List (List Str)} {sp : DKw} {x : Str} {ks : List Str} (F : FnKwB C.X.prog C.X.w C.X.K C.X.mg C.X.base k x KS (liftKw C.X.K sp)) (hks : ks ∈ KS) (hgd : C.X.A.guards = some []) (hr : Room k C.X.A) (tk : TakesD C) (he : DE C e we) (hk : DKk C kws wk)
    (hg : Gl C.X x := by rfl) (hdb : (x == ("__debug__" : Str)) = false := by decide) (hall : (backToKw pos (keywordEach kws C.X.env)).all (·.1.isSome) = true := by rfl) (hnm : (backToKw pos (keywordEach kws C.X.env)).filterMap (·.1) = ks := by rfl)
    (hst : starEach [e] C.X.env = (false, eval e C.X.env) :: starEach [] C.X.env := by rfl) (hpl : ((backTo pos (starEach [e] C.X.env)).any (·.1) || (backToKw pos (keywordEach kws C.X.env)).any (·.1.isNone)) = false := by rfl) :
    DE C (.Call (.Name x p) [e] kws pos) (wCallKw sp ks we wk C.EX) := ⟨fun σ ρ W Q q S hQ hw pins s I => by
  obtain ⟨f, F, hm, hkp⟩ := F.ex
  obtain ⟨t, hk1, hk2⟩ := hk.run
  have ha : DA C [e] (wACons we wANil) := da_cons he da_nil hst
  refine wpAny_Call_Name_kw (ld_glob I hg hm ?_ hdb)
  refine callWith_KW (first := []) (h₀ := C.X.base) I.ok.mod.kin hkp hall (thn (pa_tOf.run pos pins s σ _ (fun vs H2 => ∃ v, vs = [v] ∧ t σ H2 fun zs H3 => zs.length = ks.length ∧ liftKw C.X.K sp ks (v :: zs) H3 Q (EXs C σ)) I
    (ha.run σ ρ W _ (fun ds g1 => match ds with
      | [d] => wk ρ g1 fun es g2 => es.length = ks.length ∧ sp d ((ks.map Sum.inr).zip es) g2 q fun x g3 => C.EX x ρ g3
      | _ => False) S (fun us ds W2 g2 k2 r2 q2 => ?_) hw)) fun us s2 ⟨vs, H2, I2, rv, v, ev, q2⟩ => thn (hk1.run pos pins s2 σ H2 _ I2 q2) fun ws s3 ⟨zs, H3, I3, rz, l2, q3⟩ => ⟨I3.kIn, ?_⟩) hpl hst
  · obtain ⟨v, d, rfl, rfl, r0, q2⟩ : ∃ v d, us = [v] ∧ ds = [d] ∧ Rp C.X.K W2.F W2.R v d ∧ wk ρ W2.g fun es g2 => es.length = ks.length ∧ sp d ((ks.map Sum.inr).zip es) g2 q fun x g3 => C.EX x ρ g3 := by
      cases r2 with
      | nil => exact q2.elim
      | cons r0 rr =>
        cases rr with
        | nil => exact ⟨_, _, rfl, rfl, r0, q2⟩
        | cons _ _ => exact q2.elim
    · refine ⟨v, rfl, hk2 σ ρ W2 _ _ (S.step g2 k2) (fun zs es W3 g3 k3 r3 q3 => ?_) q2⟩
      exact ⟨by rw [r3.length]; exact q3.1, W3, d, es, q, fun x g => C.EX x ρ g, rfl, k3, .cons (r0.step g3) r3, q3.1, q3.2, fun v d W4 g4 k4 r4 q4 => hQ v d W4 ((g2.trans g3).trans g4) k4 r4 q4, fun cls d H' h => exs_of (S.step (g2.trans g3) k3) (fun _ _ z => z) h⟩
  · subst ev
    rw [hnm]
    obtain ⟨u, rfl, r0⟩ : ∃ u, us = [u] ∧ RelV v u := by
      cases rv with
      | cons r rr => cases rr; exact ⟨_, rfl, r⟩
    · refine wpAny_call (codeAny_mono (F C.X.A C.X.stack s3 H3 ks ws zs u v Q (EXs C σ) hks hr hgd I3.env0 r0 rz (rz.length.symm.trans l2) q3) fun r s4 hq => ?_)
      match r, hq with
      | .error er, hq => exact L2N.passAt tk σ _ _ s3 er s4 I3 hq
      | .ok (.ret u), hq => exact I3.after hq
      | .ok .next, hq => exact False.elim hq
      | .ok .brk, hq => exact False.elim hq
      | .ok .cont, hq => exact False.elim hq⟩
end
def keyD : Key → D
  | .inl i => .int i
  | .inr x => .str x.cps.toList
theorem keyD_rp {K : Frag} {F : Hp} {R : List Addr} (k : Key) : Rp K F R (kV k) (keyD k) := by
  cases k with
  | inl i => exact .int i
  | inr x => exact .str x _ rfl
theorem rpk_len {K : Frag} {F : Hp} {R : List Addr} : ∀ {kvs : List (Key × V)} {kds : List (Key × D)}, RpK K F R kvs kds → kvs.length = kds.length
  | _, _, .nil => rfl
  | _, _, .cons _ rr => congrArg (· + 1) (rpk_len rr)
theorem rpk_get {K : Frag} {F : Hp} {R : List Addr} : ∀ {kvs : List (Key × V)} {kds : List (Key × D)} {i : Nat} {k : Key} {v : V}, RpK K F R kvs kds → kvs[i]? = some (k, v) → ∃ d, kds[i]? = some (k, d) ∧ Rp K F R v d
  | _, _, _, _, _, .nil, h => by simp at h
  | _, _, 0, _, _, .cons r _, h => by
    simp at h
    obtain ⟨rfl, rfl⟩ := h
    exact ⟨_, rfl, r⟩
  | _, _, i + 1, _, _, .cons _ rr, h => by
    obtain ⟨d, h1, h2⟩ := rpk_get (i := i) rr (by simpa using h)
    exact ⟨d, by simpa using h1, h2⟩
section
variable {C : Ct stq} {W : Wd stq} {e : Expr} {we : EW stq} {tg : Expr} {apos cpos : Pos}
theorem kw_at {K : Frag} {W : Wd stq} (w : Wok K W) {k : Nat} {a : Addr} {o : Obj} {kvs : List (Key × V)} {kds : List (Key × D)} (hR : W.R[k]? = some a) (hS : W.g.S[k]? = some (.kw o kvs kds)) : W.H a = some (.frz o (.dK kvs)) ∧ RpK K W.F W.R kvs kds := w.gh.ob k a _ hR hS
@[simp] def wKwKeys (we : EW stq) : IWp stq := fun ρ g q => we ρ g fun d g1 => ∃ (k : Nat) (o : Obj) (kvs : List (Key × V)) (kds : List (Key × D)), d = .ob k ∧ g1.S[k]? = some (.kw o kvs kds) ∧ q (kds.map fun p => keyD p.1) (fun g => g.S[k]? = some (.kw o kvs kds)) g1
theorem di_kwKeys (he : DE C e we) : DIp C tg e (wKwKeys we) := ⟨fun σ ρ W R q S hR hw => iOf_of (pi_keys pe_tOf) (he.run σ ρ W _ _ S (fun v d W1 g1 k1 r1 q1 => by
  obtain ⟨k, o, kvs, kds, rfl, hS, q1⟩ := q1
  cases r1 with
  | ob hA =>
    rename_i a
    obtain ⟨hH, rk⟩ := kw_at k1 hA hS
    refine ⟨a, o, rfl, .inl ⟨kvs, hH, hR _ _ _ W1 g1 k1 ⟨fun i W2 d gs k2 pg e => ?_, fun i W2 gs k2 pg e => ?_⟩ q1⟩⟩
    · obtain ⟨hH2, rk2⟩ := kw_at k2 (gs.ix _ _ hA) pg
      have hl := rpk_len rk2
      have hi : i < kvs.length := by
        have := (List.getElem?_eq_some_iff.mp e).1
        rw [List.length_map] at this
        omega
      refine ⟨⟨hH2, hi⟩, fun x H' y => ?_⟩
      obtain ⟨rfl, k, v, hk, rfl⟩ := y
      obtain ⟨d2, hd, _⟩ := rpk_get rk2 hk
      rw [List.getElem?_map, hd] at e
      cases e
      exact ⟨W2, rfl, Go.refl _, k2, rfl, keyD_rp k⟩
    · obtain ⟨hH2, rk2⟩ := kw_at k2 (gs.ix _ _ hA) pg
      have hl := rpk_len rk2
      have := List.getElem?_eq_none_iff.mp e
      rw [List.length_map] at this
      exact ⟨hH2, by omega⟩) hw)⟩
@[simp] def wKwItems (we : EW stq) : IWp stq := fun ρ g q => we ρ g fun d g1 => ∃ (k : Nat) (o : Obj) (kvs : List (Key × V)) (kds : List (Key × D)), d = .ob k ∧ g1.S[k]? = some (.kw o kvs kds) ∧ q (kds.map fun p => .tup [keyD p.1, p.2]) (fun g => g.S[k]? = some (.kw o kvs kds)) g1
theorem di_kwItems {elts : List Expr} {kk : Nat} {tpos : Pos} (he : DE C e we) (hbase : attributeBase e "items" C.X.env (eval e C.X.env) = eval e C.X.env := by rfl) (hline : (apos.endLine == cpos.line) = true := by rfl) : DIp C (.Tuple elts kk tpos) (.Call (.Attribute e "items" apos) [] [] cpos) (wKwItems we) := ⟨fun σ ρ W R q S hR hw => iOf_of (pi_items pe_tOf hbase hline) (he.run σ ρ W _ _ S (fun v d W1 g1 k1 r1 q1 => by
  obtain ⟨k, o, kvs, kds, rfl, hS, q1⟩ := q1
  cases r1 with
  | ob hA =>
    rename_i a
    obtain ⟨hH, rk⟩ := kw_at k1 hA hS
    refine ⟨a, o, kvs, rfl, hH, hR _ _ _ W1 g1 k1 ⟨fun i W2 d gs k2 pg e => ?_, fun i W2 gs k2 pg e => ?_⟩ q1⟩
    · obtain ⟨hH2, rk2⟩ := kw_at k2 (gs.ix _ _ hA) pg
      have hl := rpk_len rk2
      have hi : i < kvs.length := by
        have := (List.getElem?_eq_some_iff.mp e).1
        rw [List.length_map] at this
        omega
      refine ⟨⟨hH2, hi⟩, fun x H' y => ?_⟩
      obtain ⟨T, k, v, hk, rfl, hT, rfl⟩ := y
      obtain ⟨d2, hd, rd⟩ := rpk_get rk2 hk
      rw [List.getElem?_map, hd] at e
      cases e
      exact ⟨W2.lay T (.tup [kV k, v]), rfl, Go.lay k2 hT, k2.lay hT, rfl, .tup (.of upd_same) (.cons (keyD_rp k) (.cons (rd.mono (same_new (k2.noF hT)) fun _ _ z => z) .nil))⟩
    · obtain ⟨hH2, rk2⟩ := kw_at k2 (gs.ix _ _ hA) pg
      have hl := rpk_len rk2
      have := List.getElem?_eq_none_iff.mp e
      rw [List.length_map] at this
      exact ⟨hH2, by omega⟩) hw)⟩
end
end DL
set_option Elab.async false
set_option linter.all false
set_option maxRecDepth 100000
set_option maxHeartbeats 1000000
namespace DL
open PySem L2
section
variable {X : Cx} {o : Expr} {f : Str} {pos : Pos} {ta : TE}
end
abbrev GQ := D → DEnv → Gq → (DEnv → Gq → Prop) → Prop
abbrev GQs := List D → DEnv → Gq → (DEnv → Gq → Prop) → Prop
section
variable {C : Ct stq} {W W1 W2 W' : Wd stq} {σ : L2.St} {ρ : DEnv} {e e2 tg : Expr} {es tgs : List Expr} {we : EW stq} {wa : AW stq} {pos p : Pos} {gw : GQ} {gs : GQs}
end

section
variable {X : Cx} {k : Nat} {f : Addr} {fd : FuncData} {ps : List Str} {sp : Sp} {E : L2.St → XK} {x : Str} {p pos : Pos} {e : Expr} {es : List Expr} {t : TA}
end
section
variable {M : Ghost} {C : Ct M} {W W1 : Wd M} {σ : L2.St} {ρ : DEnv} {e : Expr} {es : List Expr} {we : EW M} {pos p : Pos} {wa : AW M}
end
end DL
set_option Elab.async false
set_option linter.all false
set_option maxRecDepth 100000
set_option maxHeartbeats 1000000
namespace DL
open PySem PySem.Spec PyProof.Rows L2
@[simp] def kLawQ : K3 stq := { nx := fun _ _ => False, rt := fun d _ => d = .bl true, bk := fun _ _ => False, ct := fun _ _ => False }
theorem law_ofQ {P : Program} {w : World} {K : PySem.W.Frag} {mg : Str → Option Value} {base : Heap} {x qual scr : Str} {st st0 : Stmt} {rest : List Stmt} {f : Addr} {fd : FuncData} {N : List Str} {k i : Nat} {wr : SW stq} (F : Fun K x qual st f fd) (Sc : FnScope N [scr] (defScope st)) (hi : 0 < i)
    (hst : defBody st = st0 :: rest)
    (h0 : ∀ (cdv : Value) (A : Around) (outer : List Env) (s : Shared) (H : Hp) (E : XK), Room k (A.deeper (envOfC qual (defScope st) s.heap.objs.size f cdv)) → A.guards = some [] →
      PS (cxOf (L2N.CX P w) P w K mg base N qual (defScope st) f cdv A outer s H E) st0 (tAsg (tCallG (spStream K) (fun _ => E0) (tCons (tVar 0) tNil)) (gName i)))
    (hbody : ∀ (cdv : Value) (A : Around) (outer : List Env) (s : Shared) (H : Hp) (E : XK) (W0 : Wd stq), Room k (A.deeper (envOfC qual (defScope st) s.heap.objs.size f cdv)) → A.guards = some [] →
      TakesD (M := stq) ⟨cxOf (L2N.CX P w) P w K mg base N qual (defScope st) f cdv A outer s H E, W0, xno, W0⟩ → DSs (M := stq) ⟨cxOf (L2N.CX P w) P w K mg base N qual (defScope st) f cdv A outer s H E, W0, xno, W0⟩ rest wr)
    (hpure : wr kLawQ (rhoLaw N.length i) ⟨0, [.raw, .raw]⟩) : FnG P w K mg base (k + 1) f fd [scr] (spLaw K) := by
  refine fng_of F Sc (fun vs H Q E h => ?_) (fun cdv A outer s H vs Q E hr hgd h => ?_)
  · obtain ⟨a, ns, rfl, _⟩ := h
    rfl
  · obtain ⟨a, ns, rfl, hS, hlen, hQ⟩ := h
    rw [hst]
    refine ⟨_, pss_cons (h0 cdv A outer s H E hr hgd) pss_tOf, ?_⟩
    have hN : 0 < N.length := by
      have := congrArg List.length Sc.pre
      rw [List.length_take] at this
      simp at this
      omega
    refine ⟨.ref a, ?_, a, ns, rfl, hS, hlen, fun H1 p b c L cs sm np nb nc pb pc bc hp hb hc hcs => ?_⟩
    · unfold L2.start
      rw [List.map_cons, List.cons_append]
      rfl
    have none1 : ∀ {q r : Addr} {o : HO}, q ≠ r → upd (fun _ => none) r o q = none := fun h => upd_ne h
    have sub1 : Same (upd (fun _ => none) c (.lst (cs.map V.int))) H1 := fun q o e => by
      by_cases z : q = c
      · subst z; rw [upd_same] at e; cases e; exact hc
      · rw [none1 z] at e; cases e
    generalize hW1 : ({ F := upd (fun _ => none) c (.lst (cs.map V.int)), H := H1, R := [p, b], g := ⟨0, [.raw, .raw]⟩ } : Wd stq) = W1
    have ok1 : Wok K W1 := by
      subst hW1
      refine ⟨sub1, ⟨rfl, ?_, rfl, rfl, fun _ => ⟨p, b, c, L, cs, 0, rfl, rfl, pb, hp, hb, upd_same (H := fun _ => none) (a := c) (o := .lst (cs.map V.int)), Int.le_refl _, Int.le_refl _, hcs⟩, fun k a o _ e => ?_, fun k cls fs e => ?_⟩, fun q hq => ?_, fun q hq => ?_⟩
      · exact List.nodup_cons.mpr ⟨fun z => pb (List.mem_singleton.mp z), by simp⟩
      · match k, e with
        | 0, e => cases e; trivial
        | 1, e => cases e; trivial
        | _ + 2, e => cases e
      · match k, e with
        | 0, e => cases e
        | 1, e => cases e
        | _ + 2, e => cases e
      · rcases List.mem_cons.mp hq with rfl | hq
        · exact none1 pc
        · rw [List.mem_singleton.mp hq]; exact none1 bc
      · rcases List.mem_cons.mp hq with rfl | hq
        · show H1 q ≠ none; rw [hp]; simp
        · rw [List.mem_singleton.mp hq]; show H1 b ≠ none; rw [hb]; simp
    have eH : W1.H = H1 := by subst hW1; rfl
    have eg : W1.g = (⟨0, [.raw, .raw]⟩ : Gq) := by subst hW1; rfl
    have eR : W1.R = [p, b] := by subst hW1; rfl
    have sat : Sat (M := stq) ⟨cxOf (L2N.CX P w) P w K mg base N qual (defScope st) f cdv A outer s H E, W1, xno, W1⟩ ((L2.start N [.ref a]).set i (some (.ref p))) (rhoLaw N.length i) W1 := by
      refine ⟨ok1, Go.refl _, ?_, fun j t e => ?_, fun j l s1 s2 q e1 _ w1 _ _ _ => ?_, Gs.refl _⟩
      · unfold rhoLaw L2.start
        simp
        omega
      · unfold rhoLaw at e
        have hj : j < N.length := by
          have := (List.getElem?_eq_some_iff.mp e).1
          simpa using this
        have hs : (L2.start N [.ref a]).length = N.length := by
          unfold L2.start
          simp
          omega
        by_cases z : i = j
        · subst z
          rw [List.getElem?_set_self (by simpa using hj)] at e
          cases e
          exact ⟨_, List.getElem?_set_self (by rw [hs]; exact hj), .ref p, rfl, .ob (by rw [eR]; rfl)⟩
        · rw [List.getElem?_set_ne z, List.getElem?_replicate, if_pos hj] at e
          cases e
          exact ⟨_, List.getElem?_eq_getElem (by rw [List.length_set, hs]; exact hj), trivial⟩
      · unfold rhoLaw at e1
        by_cases z : i = j
        · subst z
          have hj := (List.getElem?_eq_some_iff.mp e1).1
          rw [List.length_set] at hj
          rw [List.getElem?_set_self hj] at e1
          cases e1
          cases w1
        · rw [List.getElem?_set_ne z, List.getElem?_replicate] at e1
          split at e1 <;> cases e1
          cases w1
    show tssOf _ rest _ _ H1
    rw [← eH]
    refine (hbody cdv A outer s H E W1 hr hgd takes_none).run _ _ W1 kLawQ _ sat ⟨fun _ _ _ _ _ z => z.elim, fun v d W' _ _ r z => ?_, fun _ _ _ _ _ z => z.elim, fun _ _ _ _ _ z => z.elim⟩ (by rw [eg]; exact hpure)
    have z' : d = .bl true := z
    subst z'
    rw [r.bl_inv]
    exact hQ _
end DL
set_option Elab.async false
set_option linter.all false
set_option maxRecDepth 100000
set_option maxHeartbeats 1000000
namespace DL
open PySem L2
def tD (T : List (List Nat × D)) : List (Key × D) := T.map fun p => (.inr (S p.1), p.2)
theorem S_inj {x y : List Nat} (h : S x = S y) : x = y := by
  have := congrArg (fun z : Str => z.cps.toList) h
  simpa [S] using this
theorem valD_tD (y : List Nat) : ∀ T : List (List Nat × D), valD (tD T) (.inr (S y)) = T.lookup y
  | [] => rfl
  | (k, d) :: T => by
    have ih := valD_tD y T
    unfold valD tD at ih ⊢
    rw [List.map_cons, List.lookup_cons]
    by_cases c : y = k
    · subst c
      rw [List.find?_cons_of_pos (by simp), beq_self_eq_true]
      rfl
    · rw [List.find?_cons_of_neg (by simpa using fun z => c (S_inj z).symm), beq_eq_false_iff_ne.mpr c]
      exact ih
theorem putK_new {kvs : List (Key × V)} {k : Key} {v : V} (h : k ∉ kvs.map (·.1)) : putK kvs k v = kvs ++ [(k, v)] := by
  unfold putK
  rw [if_neg]
  rw [List.any_eq_true]
  rintro ⟨kv, h1, h2⟩
  exact h (List.mem_map.mpr ⟨kv, h1, of_decide_eq_true h2⟩)
theorem mergeK_new : ∀ (more kvs : List (Key × V)), ((kvs ++ more).map (·.1)).Nodup → mergeK kvs more = kvs ++ more
  | [], kvs, _ => by simp [mergeK]
  | (k, v) :: more, kvs, h => by
    have hk : k ∉ kvs.map (·.1) := fun z => by
      rw [List.map_append, List.nodup_append] at h
      exact h.2.2 k z k (by simp) rfl
    have : mergeK kvs ((k, v) :: more) = mergeK (putK kvs k v) more := rfl
    rw [this, putK_new hk, mergeK_new more _ (by simpa using h), List.append_assoc]
    rfl
theorem rpK_of {K : PySem.W.Frag} {F : Hp} {R : List Addr} : ∀ {kvs : List (Key × V)} {T : List (List Nat × D)}, kvs.map (·.1) = T.map (fun p => Sum.inr (S p.1)) → RpA K F R (kvs.map (·.2)) (T.map (·.2)) → RpK K F R kvs (tD T)
  | [], [], _, _ => .nil
  | [], _ :: _, h, _ => by cases h
  | _ :: _, [], h, _ => by cases h
  | (k, v) :: kvs, (y, d) :: T, h, r => by
    have h1 : k = Sum.inr (S y) := (List.cons.inj h).1
    subst h1
    cases r with
    | cons r t => exact .cons r (rpK_of (List.cons.inj h).2 t)
section
variable {M : Ghost} {C : Ct M} {W W1 W2 W' : Wd M} {σ : L2.St} {ρ : DEnv} {o e f : Expr} {wo we wf : EW M} {pos apos : Pos}
theorem de_dicT {keys : List (Option Expr)} {vals : List Expr} {trs : List (TE × TE)} (T : List (List Nat × D)) (kvs : List (Key × V)) (h : PPs C.X pos keys vals trs)
    (hq : ∀ σ H Q, Q (kvs.map fun kv => (kV kv.1, kv.2)) H → tPairs trs σ H Q) (r : ∀ F R, RpA C.X.K F R (kvs.map (·.2)) (T.map (·.2))) (hk : kvs.map (·.1) = T.map (fun p => Sum.inr (S p.1)) := by decide +kernel) (nd : (kvs.map (·.1)).Nodup := by decide +kernel)
    (hall : keys.all (·.isSome) = true := by rfl) (hl : keys.length = vals.length := by rfl) (h0 : keys ≠ [] := by exact fun z => by cases z) (h15 : keys.length ≤ 15 := by simp) (hk15 : kvs.length ≤ 15 := by simp) :
    DE C (.Dict keys vals pos) (wC (.dic (tD T))) := ⟨fun σ ρ W Q q S hQ hw =>
  tOf_of (pe_disp h hall hl h0 h15) (fun d hd => hq _ _ _ ⟨upd_same, kvs, rfl, hk15, by
    rw [upd_upd, mergeK_new kvs [] (by simpa using nd), List.nil_append]
    exact hQ _ _ (W.lay d (.dK kvs)) (Go.lay S.ok hd) (S.ok.lay hd) (.dic upd_same (rpK_of hk (r _ _))) hw⟩)⟩
end
end DL
set_option Elab.async false
set_option linter.all false
set_option maxRecDepth 100000
set_option maxHeartbeats 1000000
namespace DL
open PySem L2
section
variable {M : Ghost} {C : Ct M} {W W1 W2 W' : Wd M} {σ : L2.St} {ρ : DEnv} {o e : Expr} {wo we : EW M} {pos apos : Pos}
@[simp] def wDIx (wo we : EW M) : EW M := fun ρ g q => wo ρ g fun d g1 => ∃ T, d = .dic (tD T) ∧ we ρ g1 fun y g2 => ∃ z x, y = .str z ∧ T.lookup z = some x ∧ q x g2
theorem de_dix (hu : C.X.A.units + 64 < cLine) (ho : DE C o wo) (he : DE C e we) (hs : NoSl e) : DE C (.Subscript o e pos) (wDIx wo we) := ⟨fun σ ρ W Q q Sa hQ hw => by
  refine tOf_of (pe_dget (by omega) pe_tOf pe_tOf hs) (ho.run σ ρ W _ _ Sa (fun v d W1 g1 k1 r1 q1 => ?_) hw)
  obtain ⟨T, rfl, q1⟩ := q1
  cases r1 with
  | dic hF rk =>
    rename_i a kvs
    refine he.run σ ρ W1 _ _ (Sa.step g1 k1) (fun u y W2 g2 k2 r2 q2 => ?_) q1
    obtain ⟨z, x, rfl, hx, q2⟩ := q2
    cases r2 with
    | str b _ hb =>
      have hF2 : W2.F a = some (.dK kvs) := g2.sub _ _ hF
      have rk2 : RpK C.X.K W2.F W2.R kvs (tD T) := rk.mono g2.sub g2.ix
      have hb' : b = S z := by rw [← hb, S_of]
      have hv := valD_tD z T
      rw [← hb', hx] at hv
      obtain ⟨v, e1, rv⟩ := rpK_val rk2 hv
      refine ⟨a, v, rfl, ?_, hQ _ _ W2 (g1.trans g2) k2 rv q2⟩
      have := DGet.k (k := .inr b) (k2.sub _ _ hF2)
      rw [e1] at this
      exact this⟩
end
end DL
set_option Elab.async false
set_option linter.all false
set_option maxRecDepth 100000
set_option maxHeartbeats 1000000
namespace DL
open PySem L2
abbrev d_l_draw : DSp stg := dDraw
/-- one of the items -/
def d_l_pick : DSp stg := fun ds (g : Nat) q _ => ∃ c xs, ds = [.ob 0, c] ∧ itemsOf c = some xs ∧ xs ≠ [] ∧ xs.length ≤ 16777216 ∧ g + 1 ≤ 2 ^ 60 ∧ ∀ d ∈ xs, q d (g + 1)
/-- a word: letters a to z -/
def Lets (w : List Nat) : Prop := ∀ c ∈ w, 97 ≤ c ∧ c < 123
/-- a drawn word of at most so many letters -/
def d_l_drawn : DSp stg := fun ds (g : Nat) q _ => ∃ most : Nat, ds = [.ob 0, .int most] ∧ 1 ≤ most ∧ most ≤ 30 ∧ g + 40 ≤ 2 ^ 60 ∧ ∀ w : List Nat, 1 ≤ w.length → w.length ≤ most → Lets w → q (.str w) (g + 40)
/-- the tail at i is less than the tail at j -/
def tlt (w : List Nat) (i j : Nat) : Bool := decide (w.drop i < w.drop j)
/-- the places in the order of their tails -/
def tOrd (w : List Nat) : List Nat := (List.range w.length).mergeSort fun i j => !tlt w j i
def nats (xs : List Nat) : List D := xs.map fun (i : Nat) => D.int (i : Int)
def d_tail_order : DSp stg := fun ds g q _ => ∃ w : List Nat, ds = [.str w] ∧ w.length ≤ 1000 ∧ q (.tup (nats (tOrd w))) g
def isPerm (o : List Nat) : Prop := o.Perm (List.range o.length)
/-- the place of each number in a row of different ones -/
def inv (o : List Nat) : List Nat := (List.range o.length).map fun p => o.idxOf p
def d_ranks_in : DSp stg := fun ds g q _ => ∃ o : List Nat, ds = [.tup (nats o)] ∧ isPerm o ∧ o.length ≤ 1000 ∧ q (.tup (nats (inv o))) g
def d_tail_ranks : DSp stg := fun ds g q _ => ∃ w : List Nat, ds = [.str w] ∧ w.length ≤ 1000 ∧ q (.tup (nats (inv (tOrd w)))) g
/-- the rank of a place of an order, -1 for the place behind the last one -/
def rkE (o : List Nat) (p : Nat) : Int := (((inv o).map fun (i : Nat) => (i : Int)) ++ [-1]).getD p 0
/-- the indexes of the strict steps -/
def stpW (o : List Nat) : List Nat := ((List.range (o.length - 1)).filter fun i => decide (rkE o (o.getD (i + 1) 0 + 1) < rkE o (o.getD i 0 + 1))).map (· + 1)
def d_strict_steps : DSp stg := fun ds g q _ => ∃ o : List Nat, ds = [.tup (nats o)] ∧ isPerm o ∧ o.length ≤ 1000 ∧ q (.tup (nats (stpW o))) g
end DL
set_option Elab.async false
set_option linter.all false
set_option maxRecDepth 100000
set_option maxHeartbeats 1000000
namespace DL
open PySem L2
/-- a value whose type is known -/
def okD (d : D) : Prop := ∃ t, tyN d = some t
def natD : D → Nat
  | .int i => i.toNat
  | _ => 0
/-- values of many kinds -/
def oddL : List D := [.non, .bl true, .bl false, .int (-1), .int 0, .int 1, .int 2, .int 23, .int 24, .int (10 ^ 29), .str [], .str [48], .str [65], .str [97], .str [97, 66], .tup [], .lst [], .dic [], .tup [.int 0], .lst [.int 0], .tup [.bl true], .tup [.str [97]], .dic [(.inr (S [97]), .int 1)], .str [97, 98], .str [97, 32, 98]]
def d_l_odd : DSp stg := fun ds (g : Nat) q _ => ds = [.ob 0] ∧ g + 1 ≤ 2 ^ 60 ∧ ∀ v ∈ oddL, q v (g + 1)
def isLt (c : Nat) : Bool := decide (97 ≤ c) && decide (c < 123)
/-- a text is not too long for the machine -/
def szD (n : Nat) : D → Prop
  | .str x => x.length ≤ n
  | _ => True
def isLetD : D → Bool
  | .str [c] => isLt c
  | _ => false
def d_ranks_of : DSp stg := d_ranks_in
def tups (xs : List (List Nat)) : List D := xs.map fun o => .tup (nats o)
abbrev abcW : List Nat := [97, 98, 99, 100, 101, 102, 103, 104, 105, 106, 107, 108, 109, 110, 111, 112, 113, 114, 115, 116, 117, 118, 119, 120, 121, 122]
/-- the places of a rank below all before -/
def fplW (r : List Nat) : List Nat := (List.range r.length).filter fun p => (List.range p).all fun q => decide (r.getD p 0 < r.getD q 0)
def d_factor_places : DSp stg := fun ds g q _ => ∃ o : List Nat, ds = [.tup (nats o)] ∧ isPerm o ∧ o.length ≤ 1000 ∧ q (.tup (nats (fplW (inv o)))) g
def cutV (v : D) : Prop := okD v ∧ ∀ xs, v = .tup xs → xs.length ≤ 100 ∧ ∀ d ∈ xs, okD d ∧ ∀ x, d = .str x → x.length ≤ 100
def isI (d : D) : Bool := match d with
  | .int _ => true
  | _ => false
def d_is_whole : DSp stg := fun ds g q _ => ∃ v : D, ds = [v] ∧ okD v ∧ q (.bl (isI v)) g
end DL
set_option Elab.async false
set_option linter.all false
set_option maxRecDepth 100000
set_option maxHeartbeats 1000000
namespace DL
open PySem L2
section
variable {M : Ghost} {gw : GW} {wt : TW M} {we : EW M} {ρ : DEnv} {g : M.G} {q : List D → M.G → Prop}
/-- a comprehension that draws nothing -/
theorem lcW_map {α : Type} (e f : α → D) (p : α → Bool) : ∀ (xs : List α) {q : List D → M.G → Prop}, (∀ x ∈ xs, ∀ (k1 : D → M.G → Prop) (k0 : M.G → Prop), (if p x = true then k1 (f x) g else k0 g) → gw (e x) ρ fun ρ' => wt ρ' g fun b g1 => if b = true then we ρ' g1 k1 else k0 g1) →
    q ((xs.filter p).map f) g → lcW gw wt we ρ (xs.map e) g q
  | [], _, _, h => h
  | x :: xs, q, hs, h => by
    have ih := fun {q} => lcW_map e f p xs (q := q) (fun y hy => hs y (List.mem_cons_of_mem _ hy))
    refine hs x List.mem_cons_self _ _ ?_
    by_cases hp : p x = true
    · rw [if_pos hp]
      rw [List.filter_cons_of_pos hp] at h
      exact ih h
    · rw [if_neg hp]
      rw [List.filter_cons_of_neg hp] at h
      exact ih h
theorem lcW_all {α : Type} (e f : α → D) (xs : List α) {q : List D → M.G → Prop} (hs : ∀ x ∈ xs, ∀ (k1 : D → M.G → Prop) (k0 : M.G → Prop), k1 (f x) g → gw (e x) ρ fun ρ' => wt ρ' g fun b g1 => if b = true then we ρ' g1 k1 else k0 g1)
    (h : q (xs.map f) g) : lcW gw wt we ρ (xs.map e) g q :=
  lcW_map e f (fun _ => true) xs (fun x hx k1 k0 z => hs x hx k1 k0 (by simpa using z)) (by rw [List.filter_eq_self.mpr (fun _ _ => rfl)]; exact h)
end
/-- a comprehension that draws: c numbers each at most -/
theorem lcW_draw {gw : GW} {wt : TW stg} {we : EW stg} {ρ : DEnv} {α : Type} (e : α → D) (P : α → D → Prop) (c N : Nat) : ∀ (xs : List α) {g : Nat} {q : List D → Nat → Prop}, g + c * xs.length ≤ N →
    (∀ x ∈ xs, ∀ (g : Nat) (k1 : D → Nat → Prop) (k0 : Nat → Prop), g + c ≤ N → (∀ d, P x d → k1 d (g + c)) → gw (e x) ρ fun ρ' => wt ρ' g fun b g1 => if b = true then we ρ' g1 k1 else k0 g1) →
    (∀ ys : List D, Paired P xs ys → q ys (g + c * xs.length)) → lcW (M := stg) gw wt we ρ (xs.map e) g q
  | [], g, q, _, _, h => h [] .nil
  | x :: xs, g, q, hN, hs, h => by
    rw [List.length_cons] at hN
    have e1 : g + c * (xs.length + 1) = (g + c) + c * xs.length := by rw [Nat.mul_add, Nat.mul_one]; omega
    refine hs x List.mem_cons_self g _ _ (by omega) fun d hd => ?_
    refine lcW_draw e P c N xs (by omega) (fun y hy => hs y (List.mem_cons_of_mem _ hy)) fun ys hy => ?_
    have := h (d :: ys) (.cons hd hy)
    rw [List.length_cons, e1] at this
    exact this
section
variable {M : Ghost} {gw : GW} {wb : SW M} {k : K3 M}
/-- a for by its word -/
theorem forW_inv (I : Nat → DEnv → M.G → Prop) : ∀ (ds : List D) (n : Nat) {ρ : DEnv} {g : M.G}, (∀ (i : Nat) d ρ g (K : DEnv → M.G → Prop), ds[i]? = some d → I (n + i) ρ g → (∀ ρ g, I (n + i + 1) ρ g → K ρ g) → gw d ρ fun ρ' => wb { nx := K, rt := k.rt, bk := k.nx, ct := K } ρ' g) →
    (∀ ρ g, I (n + ds.length) ρ g → k.nx ρ g) → I n ρ g → forW gw wb ds k ρ g
  | [], n, ρ, g, _, he, h => he ρ g h
  | d :: ds, n, ρ, g, hs, he, h => by
    refine hs 0 d ρ g _ rfl h fun ρ g h' => ?_
    refine forW_inv I ds (n + 1) (fun i d ρ g K e h K1 => hs (i + 1) d ρ g K (by simpa using e) (by rw [show n + (i + 1) = n + 1 + i by omega]; exact h) (by rw [show n + (i + 1) + 1 = n + 1 + i + 1 by omega]; exact K1)) (fun ρ g h => he ρ g (by rw [List.length_cons, show n + (ds.length + 1) = n + 1 + ds.length by omega]; exact h)) h'
theorem forW_word (I : Nat → DEnv → M.G → Prop) (ds : List D) {ρ : DEnv} {g : M.G} (h0 : I 0 ρ g) (hs : ∀ (i : Nat) d ρ g (K : DEnv → M.G → Prop), ds[i]? = some d → I i ρ g → (∀ ρ g, I (i + 1) ρ g → K ρ g) → gw d ρ fun ρ' => wb { nx := K, rt := k.rt, bk := k.nx, ct := K } ρ' g)
    (he : ∀ ρ g, I ds.length ρ g → k.nx ρ g) : forW gw wb ds k ρ g :=
  forW_inv I ds 0 (fun i d ρ g K e h K1 => hs i d ρ g K e (by rw [Nat.zero_add] at h; exact h) (by rw [Nat.zero_add] at K1; exact K1)) (fun ρ g h => he ρ g (by rw [Nat.zero_add] at h; exact h)) h0
end
theorem rngL_0 (n : Nat) : rngL 0 (n : Int) = (List.range n).map fun (i : Nat) => D.int (i : Int) := by
  unfold rngL
  simp
theorem rngL_get (lo hi : Int) (i : Nat) (d : D) (h : (rngL lo hi)[i]? = some d) : (i : Int) < hi - lo ∧ d = .int (lo + i) := by
  unfold rngL at h
  rw [List.getElem?_map] at h
  by_cases hi' : i < (hi - lo).toNat
  · rw [List.getElem?_range hi'] at h
    cases h
    exact ⟨by omega, rfl⟩
  · rw [List.getElem?_eq_none (by simpa using hi')] at h
    cases h
theorem rngL_len (lo hi : Int) : (rngL lo hi).length = (hi - lo).toNat := by unfold rngL; simp
theorem small_line {n : Nat} (h : n ≤ 16777216) : n ≤ sizeLine := by rw [sizeLine_eq]; exact h
theorem lt_line {n : Nat} (h : n < 16777216) : n < sizeLine := by rw [sizeLine_eq]; exact h
theorem atI_ofNat {α : Type} {xs : List α} {j : Nat} {v : α} (h : xs[j]? = some v) : atI xs (j : Int) = some v := atI_nat h
theorem ixN_ofNat {n j : Nat} (h : j < n) : ixN n (j : Int) = some j := by
  unfold ixN
  rw [if_pos (by omega), if_pos (by omega)]
  simp
theorem cut_from {α : Type} (xs : List α) (i : Nat) : cutL xs (some (i : Int)) none = xs.drop i := by
  unfold cutL
  rw [HT.sIx_nat, HT.sIx_none]
  by_cases h : i ≤ xs.length
  · rw [Nat.min_eq_left h, List.take_of_length_le (by rw [List.length_drop]; omega)]
  · rw [Nat.min_eq_right (by omega), List.drop_length, List.drop_eq_nil_of_le (by omega)]
    simp
end DL
set_option Elab.async false
set_option linter.all false
set_option maxRecDepth 100000
set_option maxHeartbeats 1000000
namespace DL
open PySem L2
section
variable {q : D → Prop} {qn : List D → Prop} {i j : Int} {x y : List Nat} {ds es : List D} {b c : Bool} {d e : D}
@[simp] theorem sm_add1 : (oAdd (.int i) (.int j) q) = (q (.int (i + j))) := rfl
@[simp] theorem sm_add2 : (oAdd (.str x) (.str y) q) = (x.length + y.length ≤ sizeLine ∧ q (.str (x ++ y))) := rfl
@[simp] theorem sm_add3 : (oAdd (.tup ds) (.tup es) q) = (ds.length + es.length ≤ sizeLine ∧ q (.tup (ds ++ es))) := rfl
@[simp] theorem sm_cat : (oCat (.lst ds) (.lst es) qn) = (ds.length + es.length ≤ sizeLine ∧ qn (ds ++ es)) := rfl
@[simp] theorem sm_sub : (oSub (.int i) (.int j) q) = (q (.int (i - j))) := rfl
@[simp] theorem sm_mul1 : (oMul (.int i) (.int j) q) = (CMul i j ∧ q (.int (i * j))) := rfl
@[simp] theorem sm_mul2 : (oMul (.str x) (.int j) q) = (0 ≤ j ∧ x.length * j.toNat ≤ sizeLine ∧ j ≤ 2 ^ 32 ∧ q (.str (List.replicate j.toNat x).flatten)) := rfl
@[simp] theorem sm_rep : (oRep (.lst ds) (.int j) qn) = (-(2 ^ 63) ≤ j ∧ j < 2 ^ 63 ∧ ds.length * j.toNat ≤ sizeLine ∧ qn (List.replicate j.toNat ds).flatten) := rfl
@[simp] theorem sm_div : (oDiv (.int i) (.int j) q) = (CDiv i j ∧ q (.int (i / j))) := rfl
@[simp] theorem sm_mod : (oMod (.int i) (.int j) q) = (0 < j ∧ q (.int (i % j))) := rfl
@[simp] theorem sm_pow : (oPow (.int i) (.int j) q) = (CPow i j ∧ q (.int (i ^ j.toNat))) := rfl
@[simp] theorem sm_lt1 : (oLt (.int i) (.int j) q) = (q (.bl (decide (i < j)))) := rfl
@[simp] theorem sm_lt2 : (oLt (.str x) (.str y) q) = (q (.bl (decide (x < y)))) := rfl
@[simp] theorem sm_le1 : (oLe (.int i) (.int j) q) = (q (.bl (decide (i ≤ j)))) := rfl
@[simp] theorem sm_le2 : (oLe (.str x) (.str y) q) = (q (.bl (!decide (y < x)))) := rfl
@[simp] theorem sm_gt1 : (oGt (.int i) (.int j) q) = (q (.bl (decide (j < i)))) := rfl
@[simp] theorem sm_gt2 : (oGt (.str x) (.str y) q) = (q (.bl (decide (y < x)))) := rfl
@[simp] theorem sm_ge1 : (oGe (.int i) (.int j) q) = (q (.bl (decide (j ≤ i)))) := rfl
@[simp] theorem sm_ge2 : (oGe (.str x) (.str y) q) = (q (.bl (!decide (x < y)))) := rfl
@[simp] theorem sm_eq1 : (oEq (.int i) (.int j) q) = (q (.bl (decide (i = j)))) := rfl
@[simp] theorem sm_eq2 : (oEq (.str x) (.str y) q) = (q (.bl (decide (x = y)))) := rfl
@[simp] theorem sm_eq3 : (oEq (.bl b) (.bl c) q) = (q (.bl (decide (b = c)))) := rfl
@[simp] theorem sm_eql : (oEq (.lst ds) e q) = (shp (.lst ds) = true ∧ shp e = true ∧ q (.bl (deq (.lst ds) e))) := rfl
@[simp] theorem sm_eqt : (oEq (.tup ds) e q) = (shp (.tup ds) = true ∧ shp e = true ∧ q (.bl (deq (.tup ds) e))) := rfl
@[simp] theorem sm_eqn : (oEq (.non) e q) = (shp (.non) = true ∧ shp e = true ∧ q (.bl (deq (.non) e))) := rfl
@[simp] theorem sm_eqli : (oEq (.int i) (.lst es) q) = (shp (.int i) = true ∧ shp (.lst es) = true ∧ q (.bl (deq (.int i) (.lst es)))) := rfl
@[simp] theorem sm_eqls : (oEq (.str x) (.lst es) q) = (shp (.str x) = true ∧ shp (.lst es) = true ∧ q (.bl (deq (.str x) (.lst es)))) := rfl
@[simp] theorem sm_eqlb : (oEq (.bl b) (.lst es) q) = (shp (.bl b) = true ∧ shp (.lst es) = true ∧ q (.bl (deq (.bl b) (.lst es)))) := rfl
@[simp] theorem sm_eqti : (oEq (.int i) (.tup es) q) = (shp (.int i) = true ∧ shp (.tup es) = true ∧ q (.bl (deq (.int i) (.tup es)))) := rfl
@[simp] theorem sm_eqts : (oEq (.str x) (.tup es) q) = (shp (.str x) = true ∧ shp (.tup es) = true ∧ q (.bl (deq (.str x) (.tup es)))) := rfl
@[simp] theorem sm_eqtb : (oEq (.bl b) (.tup es) q) = (shp (.bl b) = true ∧ shp (.tup es) = true ∧ q (.bl (deq (.bl b) (.tup es)))) := rfl
@[simp] theorem sm_eqni : (oEq (.int i) (.non) q) = (shp (.int i) = true ∧ shp (.non) = true ∧ q (.bl (deq (.int i) (.non)))) := rfl
@[simp] theorem sm_eqns : (oEq (.str x) (.non) q) = (shp (.str x) = true ∧ shp (.non) = true ∧ q (.bl (deq (.str x) (.non)))) := rfl
@[simp] theorem sm_eqnb : (oEq (.bl b) (.non) q) = (shp (.bl b) = true ∧ shp (.non) = true ∧ q (.bl (deq (.bl b) (.non)))) := rfl
@[simp] theorem sm_eqis : (oEq (.int i) (.str x) q) = (shp (.int i) = true ∧ shp (.str x) = true ∧ q (.bl (deq (.int i) (.str x)))) := rfl
@[simp] theorem sm_eqsi : (oEq (.str x) (.int i) q) = (shp (.str x) = true ∧ shp (.int i) = true ∧ q (.bl (deq (.str x) (.int i)))) := rfl
@[simp] theorem sm_eqib : (oEq (.int i) (.bl b) q) = (shp (.int i) = true ∧ shp (.bl b) = true ∧ q (.bl (deq (.int i) (.bl b)))) := rfl
@[simp] theorem sm_eqbi : (oEq (.bl b) (.int i) q) = (shp (.bl b) = true ∧ shp (.int i) = true ∧ q (.bl (deq (.bl b) (.int i)))) := rfl
@[simp] theorem sm_eqsb : (oEq (.str x) (.bl b) q) = (shp (.str x) = true ∧ shp (.bl b) = true ∧ q (.bl (deq (.str x) (.bl b)))) := rfl
@[simp] theorem sm_eqbs : (oEq (.bl b) (.str x) q) = (shp (.bl b) = true ∧ shp (.str x) = true ∧ q (.bl (deq (.bl b) (.str x)))) := rfl
@[simp] theorem sm_ne1 : (oNe (.int i) (.int j) q) = (q (.bl (!decide (i = j)))) := rfl
@[simp] theorem sm_ne2 : (oNe (.str x) (.str y) q) = (q (.bl (!decide (x = y)))) := rfl
@[simp] theorem sm_ne3 : (oNe (.bl b) (.bl c) q) = (q (.bl (!decide (b = c)))) := rfl
@[simp] theorem sm_nel : (oNe (.lst ds) e q) = (shp (.lst ds) = true ∧ shp e = true ∧ q (.bl (!deq (.lst ds) e))) := rfl
@[simp] theorem sm_net : (oNe (.tup ds) e q) = (shp (.tup ds) = true ∧ shp e = true ∧ q (.bl (!deq (.tup ds) e))) := rfl
@[simp] theorem sm_nen : (oNe (.non) e q) = (shp (.non) = true ∧ shp e = true ∧ q (.bl (!deq (.non) e))) := rfl
@[simp] theorem sm_neli : (oNe (.int i) (.lst es) q) = (shp (.int i) = true ∧ shp (.lst es) = true ∧ q (.bl (!deq (.int i) (.lst es)))) := rfl
@[simp] theorem sm_nels : (oNe (.str x) (.lst es) q) = (shp (.str x) = true ∧ shp (.lst es) = true ∧ q (.bl (!deq (.str x) (.lst es)))) := rfl
@[simp] theorem sm_nelb : (oNe (.bl b) (.lst es) q) = (shp (.bl b) = true ∧ shp (.lst es) = true ∧ q (.bl (!deq (.bl b) (.lst es)))) := rfl
@[simp] theorem sm_neti : (oNe (.int i) (.tup es) q) = (shp (.int i) = true ∧ shp (.tup es) = true ∧ q (.bl (!deq (.int i) (.tup es)))) := rfl
@[simp] theorem sm_nets : (oNe (.str x) (.tup es) q) = (shp (.str x) = true ∧ shp (.tup es) = true ∧ q (.bl (!deq (.str x) (.tup es)))) := rfl
@[simp] theorem sm_netb : (oNe (.bl b) (.tup es) q) = (shp (.bl b) = true ∧ shp (.tup es) = true ∧ q (.bl (!deq (.bl b) (.tup es)))) := rfl
@[simp] theorem sm_neni : (oNe (.int i) (.non) q) = (shp (.int i) = true ∧ shp (.non) = true ∧ q (.bl (!deq (.int i) (.non)))) := rfl
@[simp] theorem sm_nens : (oNe (.str x) (.non) q) = (shp (.str x) = true ∧ shp (.non) = true ∧ q (.bl (!deq (.str x) (.non)))) := rfl
@[simp] theorem sm_nenb : (oNe (.bl b) (.non) q) = (shp (.bl b) = true ∧ shp (.non) = true ∧ q (.bl (!deq (.bl b) (.non)))) := rfl
@[simp] theorem sm_neis : (oNe (.int i) (.str x) q) = (shp (.int i) = true ∧ shp (.str x) = true ∧ q (.bl (!deq (.int i) (.str x)))) := rfl
@[simp] theorem sm_nesi : (oNe (.str x) (.int i) q) = (shp (.str x) = true ∧ shp (.int i) = true ∧ q (.bl (!deq (.str x) (.int i)))) := rfl
@[simp] theorem sm_neib : (oNe (.int i) (.bl b) q) = (shp (.int i) = true ∧ shp (.bl b) = true ∧ q (.bl (!deq (.int i) (.bl b)))) := rfl
@[simp] theorem sm_nebi : (oNe (.bl b) (.int i) q) = (shp (.bl b) = true ∧ shp (.int i) = true ∧ q (.bl (!deq (.bl b) (.int i)))) := rfl
@[simp] theorem sm_nesb : (oNe (.str x) (.bl b) q) = (shp (.str x) = true ∧ shp (.bl b) = true ∧ q (.bl (!deq (.str x) (.bl b)))) := rfl
@[simp] theorem sm_nebs : (oNe (.bl b) (.str x) q) = (shp (.bl b) = true ∧ shp (.str x) = true ∧ q (.bl (!deq (.bl b) (.str x)))) := rfl
@[simp] theorem sm_isn : (oIsN d .non q) = (q (.bl (isN d))) := rfl
@[simp] theorem sm_notn : (oNotN d .non q) = (q (.bl (!isN d))) := rfl
@[simp] theorem sm_isN_non : (isN (.non)) = (true) := rfl
@[simp] theorem sm_isN_int : (isN (.int i)) = (false) := rfl
@[simp] theorem sm_isN_str : (isN (.str x)) = (false) := rfl
@[simp] theorem sm_isN_bl : (isN (.bl b)) = (false) := rfl
@[simp] theorem sm_isN_lst : (isN (.lst ds)) = (false) := rfl
@[simp] theorem sm_isN_tup : (isN (.tup ds)) = (false) := rfl
@[simp] theorem sm_ix1 : (oIx (.lst ds) (.int i) q) = (∃ d, atI ds i = some d ∧ q d) := rfl
@[simp] theorem sm_ix2 : (oIx (.tup ds) (.int i) q) = (∃ d, atI ds i = some d ∧ q d) := rfl
@[simp] theorem sm_ix3 : (oIx (.str x) (.int i) q) = (x.length ≤ sizeLine ∧ ∃ c, atI x i = some c ∧ q (.str [c])) := rfl
variable {lo hi : Option Int}
@[simp] theorem sm_sl1 : (oSl (.str x) lo hi q) = (x.length ≤ sizeLine ∧ q (.str (cutL x lo hi))) := rfl
@[simp] theorem sm_sl2 : (oSl (.tup ds) lo hi q) = (q (.tup (cutL ds lo hi))) := rfl
@[simp] theorem sm_sl3 : (oSl (.lst ds) lo hi q) = (q (.lst (cutL ds lo hi))) := rfl
@[simp] theorem sm_sl4 : (oSlN (.lst ds) lo hi qn) = (qn (cutL ds lo hi)) := rfl
@[simp] theorem sm_len1 : (cLen [.str x] q) = (x.length ≤ sizeLine ∧ q (.int x.length)) := rfl
@[simp] theorem sm_len2 : (cLen [.lst ds] q) = (q (.int ds.length)) := rfl
@[simp] theorem sm_len3 : (cLen [.tup ds] q) = (q (.int ds.length)) := rfl
@[simp] theorem sm_tup1 : (cTuple [.lst ds] q) = (q (.tup ds)) := rfl
@[simp] theorem sm_tup2 : (cTuple [.tup ds] q) = (q (.tup ds)) := rfl
@[simp] theorem sm_list1 : (cList [.lst ds] qn) = (qn ds) := rfl
@[simp] theorem sm_list2 : (cList [.tup ds] qn) = (qn ds) := rfl
@[simp] theorem sm_min2 : (cMin2 [.int i, .int j] q) = (q (.int (if j < i then j else i))) := rfl
@[simp] theorem sm_max2 : (cMax2 [.int i, .int j] q) = (q (.int (if j > i then j else i))) := rfl
@[simp] theorem sm_int1 : (cInt [.int i] q) = (q (.int i)) := rfl
@[simp] theorem sm_int2 : (cInt [.bl b] q) = (q (.int (if b then 1 else 0))) := rfl
@[simp] theorem sm_str1 : (cStr [.int i] q) = (i.natAbs.log2 < 1920 ∧ q (.str (dec i))) := rfl
@[simp] theorem sm_rev1 : (oRev (.lst ds) q) = (q (.lst ds.reverse)) := rfl
@[simp] theorem sm_rev2 : (oRev (.tup ds) q) = (q (.tup ds.reverse)) := rfl
@[simp] theorem sm_rev3 : (oRevN (.lst ds) qn) = (qn ds.reverse) := rfl
theorem in_seqL {f : Bool → Bool} : (oInB f d (.lst ds) q) = (flatD d = true ∧ ds.all flatD = true ∧ q (.bl (f (ds.any fun y => eqF y d)))) := by
  cases d with
  | str x => cases x with
    | nil => rfl
    | cons a t => cases t <;> rfl
  | _ => rfl
theorem in_seqT {f : Bool → Bool} : (oInB f d (.tup ds) q) = (flatD d = true ∧ ds.all flatD = true ∧ q (.bl (f (ds.any fun y => eqF y d)))) := by
  cases d with
  | str x => cases x with
    | nil => rfl
    | cons a t => cases t <;> rfl
  | _ => rfl
@[simp] theorem sm_in1 : (oIn d (.lst ds) q) = (flatD d = true ∧ ds.all flatD = true ∧ q (.bl (ds.any fun y => eqF y d))) := in_seqL
@[simp] theorem sm_in2 : (oIn d (.tup ds) q) = (flatD d = true ∧ ds.all flatD = true ∧ q (.bl (ds.any fun y => eqF y d))) := in_seqT
@[simp] theorem sm_in3 {c : Nat} : (oIn (.str [c]) (.str x) q) = (q (.bl (decide (c ∈ x)))) := rfl
@[simp] theorem sm_nin1 : (oNotIn d (.lst ds) q) = (flatD d = true ∧ ds.all flatD = true ∧ q (.bl (!ds.any fun y => eqF y d))) := in_seqL
@[simp] theorem sm_nin2 : (oNotIn d (.tup ds) q) = (flatD d = true ∧ ds.all flatD = true ∧ q (.bl (!ds.any fun y => eqF y d))) := in_seqT
@[simp] theorem sm_nin3 {c : Nat} : (oNotIn (.str [c]) (.str x) q) = (q (.bl (!decide (c ∈ x)))) := rfl
@[simp] theorem sm_flat1 : flatD (.int i) = true := rfl
@[simp] theorem sm_flat2 : flatD (.str x) = true := rfl
@[simp] theorem sm_flat3 : flatD (.bl b) = true := rfl
@[simp] theorem sm_isi1 {T : String} : (isiD T (.int i) q) = (q (.bl (isTyp "int" T))) := by
  unfold isiD
  exact propext ⟨fun ⟨t, h1, h2⟩ => by cases h1; exact h2, fun h => ⟨_, rfl, h⟩⟩
@[simp] theorem sm_isi2 {T : String} : (isiD T (.str x) q) = (q (.bl (isTyp "str" T))) := by
  unfold isiD
  exact propext ⟨fun ⟨t, h1, h2⟩ => by cases h1; exact h2, fun h => ⟨_, rfl, h⟩⟩
@[simp] theorem sm_isi3 {T : String} : (isiD T (.bl b) q) = (q (.bl (isTyp "bool" T))) := by
  unfold isiD
  exact propext ⟨fun ⟨t, h1, h2⟩ => by cases h1; exact h2, fun h => ⟨_, rfl, h⟩⟩
@[simp] theorem sm_isi4 {T : String} : (isiD T .non q) = (q (.bl (isTyp "NoneType" T))) := by
  unfold isiD
  exact propext ⟨fun ⟨t, h1, h2⟩ => by cases h1; exact h2, fun h => ⟨_, rfl, h⟩⟩
@[simp] theorem sm_isi5 {T : String} : (isiD T (.lst ds) q) = (q (.bl (isTyp "list" T))) := by
  unfold isiD
  exact propext ⟨fun ⟨t, h1, h2⟩ => by cases h1; exact h2, fun h => ⟨_, rfl, h⟩⟩
@[simp] theorem sm_isi6 {T : String} : (isiD T (.tup ds) q) = (q (.bl (isTyp "tuple" T))) := by
  unfold isiD
  exact propext ⟨fun ⟨t, h1, h2⟩ => by cases h1; exact h2, fun h => ⟨_, rfl, h⟩⟩
variable {qb : Bool → Prop} {qi : Int → Prop} {qs : List Nat → Prop}
@[simp] theorem sm_isB : (isB (.bl b) qb) = (qb b) := rfl
@[simp] theorem sm_asI : (asI (.int i) qi) = (qi i) := rfl
@[simp] theorem sm_asS : (asS (.str x) qs) = (qs x) := rfl
@[simp] theorem sm_it1 : (itemsOf (.lst ds)) = (some ds) := rfl
@[simp] theorem sm_it2 : (itemsOf (.tup ds)) = (some ds) := rfl
@[simp] theorem sm_it3 : (itemsOf (.str x)) = (some (x.map fun c => D.str [c])) := rfl
end
theorem draw_n {n g : Nat} {Q : D → Nat → Prop} {ex : Exn → Nat → Prop} (h0 : 0 < n) (h1 : n < 1152921504606846976) (hg : g + 1 ≤ 2 ^ 60) (h : ∀ v : Nat, v < n → Q (.int v) (g + 1)) : dDraw [.ob 0, .int n] g Q ex :=
  ⟨n, rfl, by omega, by omega, hg, fun v hv hv2 => by
    obtain ⟨m, rfl⟩ := Int.eq_ofNat_of_zero_le hv
    exact h m (by omega)⟩
theorem draw_l {k g : Nat} {Q : D → Nat → Prop} {ex : Exn → Nat → Prop} (hg : g + 1 ≤ 2 ^ 60) (h : ∀ v : Nat, v < k → Q (.int v) (g + 1)) (h0 : 0 < k := by decide) (h1 : k < 1152921504606846976 := by decide) {j : Int} (e : j = k := by rfl) : dDraw [.ob 0, .int j] g Q ex := by
  subst e
  exact draw_n h0 h1 hg h
theorem pick_of {g : Nat} {c : D} {xs : List D} {Q : D → Nat → Prop} {ex : Exn → Nat → Prop} (hg : g + 1 ≤ 2 ^ 60) (hc : itemsOf c = some xs) (h0 : xs ≠ []) (h1 : xs.length ≤ 16777216) (h : ∀ d ∈ xs, Q d (g + 1)) : d_l_pick [.ob 0, c] g Q ex := ⟨c, xs, rfl, hc, h0, h1, hg, h⟩
end DL
set_option Elab.async false
set_option linter.all false
set_option maxRecDepth 100000
set_option maxHeartbeats 1000000
namespace DL
open PySem L2
theorem perm_strict_eq {α : Type} {R : α → α → Prop} (as : ∀ a b, R a b → R b a → False) : ∀ {l1 l2 : List α}, l1.Perm l2 → l1.Pairwise R → l2.Pairwise R → l1 = l2
  | [], l2, p, _, _ => by rw [List.nil_perm.mp p]
  | a :: r, [], p, _, _ => by cases List.perm_nil.mp p
  | a :: r, b :: t, p, h1, h2 => by
    rw [List.pairwise_cons] at h1 h2
    have e : a = b := by
      rcases List.mem_cons.mp (p.mem_iff.mp List.mem_cons_self) with e | ha
      · exact e
      · rcases List.mem_cons.mp (p.symm.mem_iff.mp (List.mem_cons_self (a := b) (l := t))) with e | hb
        · exact e.symm
        · exact (as a b (h1.1 b hb) (h2.1 a ha)).elim
    subst e
    rw [perm_strict_eq as (List.Perm.cons_inv p) h1.2 h2.2]
/-- the tails stand in their order -/
def IsTO (w : List Nat) (o : List Nat) : Prop := o.Perm (List.range w.length) ∧ o.Pairwise fun i j => w.drop i < w.drop j
theorem lt_asymmL {a b : List Nat} (h : a < b) (h' : b < a) : False := List.lt_irrefl a (List.lt_trans h h')
theorem IsTO.uniq {w o o' : List Nat} (h : IsTO w o) (h' : IsTO w o') : o = o' := perm_strict_eq (fun _ _ a b => lt_asymmL a b) (h.1.trans h'.1.symm) h.2 h'.2
theorem drop_inj {w : List Nat} {i j : Nat} (hi : i < w.length) (hj : j < w.length) (e : w.drop i = w.drop j) : i = j := by
  have := congrArg List.length e
  rw [List.length_drop, List.length_drop] at this
  omega
theorem isTO_of_le {w o : List Nat} (p : o.Perm (List.range w.length)) (h : o.Pairwise fun i j => ¬ w.drop j < w.drop i) : IsTO w o := by
  refine ⟨p, ?_⟩
  have nd : o.Nodup := p.nodup_iff.mpr List.nodup_range
  have both := h.and nd
  refine both.imp_of_mem fun {i j} hi hj hij => ?_
  have hi' := List.mem_range.mp (p.mem_iff.mp hi)
  have hj' := List.mem_range.mp (p.mem_iff.mp hj)
  have le := List.not_lt.mp hij.1
  rcases Classical.em (w.drop i < w.drop j) with h | h
  · exact h
  · exact absurd (drop_inj hi' hj' (List.le_antisymm le (List.not_lt.mp h))) hij.2
theorem tOrd_is (w : List Nat) : IsTO w (tOrd w) := by
  refine isTO_of_le (List.mergeSort_perm _ _) ?_
  have tr : ∀ a b c : Nat, (!tlt w b a) = true → (!tlt w c b) = true → (!tlt w c a) = true := fun a b c h1 h2 => by
    simp only [tlt, Bool.not_eq_true', decide_eq_false_iff_not] at *
    exact List.not_lt.mpr (List.le_trans (List.not_lt.mp h1) (List.not_lt.mp h2))
  have to : ∀ a b : Nat, ((!tlt w b a) || (!tlt w a b)) = true := fun a b => by
    simp only [tlt, Bool.or_eq_true, Bool.not_eq_true', decide_eq_false_iff_not]
    rcases Classical.em (w.drop b < w.drop a) with h | h
    · exact .inr fun h' => lt_asymmL h h'
    · exact .inl h
  refine (List.pairwise_mergeSort (le := fun i j => !tlt w j i) tr to (List.range w.length)).imp fun {i j} h => ?_
  simp only [tlt, Bool.not_eq_true', decide_eq_false_iff_not] at h
  exact h
theorem IsTO.eq {w o : List Nat} (h : IsTO w o) : o = tOrd w := h.uniq (tOrd_is w)
theorem tOrd_len (w : List Nat) : (tOrd w).length = w.length := by rw [(tOrd_is w).1.length_eq, List.length_range]
/-- how many tails are less -/
def rk (w : List Nat) (p : Nat) : Nat := ((List.range w.length).filter fun o => decide (w.drop o < w.drop p)).length
theorem IsTO.rk {w o : List Nat} (h : IsTO w o) {k : Nat} (hk : k < o.length) : DL.rk w o[k] = k := by
  unfold DL.rk
  rw [← List.countP_eq_length_filter, ← h.1.countP_eq]
  have e : o = o.take k ++ o[k] :: o.drop (k + 1) := by rw [List.getElem_cons_drop, List.take_append_drop]
  have hp := h.2
  rw [e, List.pairwise_append] at hp
  obtain ⟨_, h2, h3⟩ := hp
  rw [List.pairwise_cons] at h2
  have c1 : (o.take k).countP (fun x => decide (w.drop x < w.drop o[k])) = (o.take k).length := List.countP_eq_length.mpr fun x hx => decide_eq_true (h3 x hx _ List.mem_cons_self)
  have c2 : (o.drop (k + 1)).countP (fun x => decide (w.drop x < w.drop o[k])) = 0 := List.countP_eq_zero.mpr fun x hx => by
    rw [decide_eq_true_eq]
    exact fun h => lt_asymmL h (h2.1 x hx)
  have c3 : List.countP (fun x => decide (w.drop x < w.drop o[k])) (o.take k ++ o[k] :: o.drop (k + 1)) = k := by
    rw [List.countP_append, List.countP_cons, c1, c2, List.length_take, if_neg (by rw [decide_eq_true_eq]; exact List.lt_irrefl _)]
    omega
  rw [← e] at c3
  exact c3
/-- the sorted pairs give the tail order -/
theorem sorted_TO {w : List Nat} {ys : List (List Nat × Int)} (hp : ys.Perm ((List.range w.length).map fun i : Nat => (w.drop i, (i : Int)))) (hs : ys.Pairwise leTI) : ys.map (fun y => D.int y.2) = nats (tOrd w) := by
  obtain ⟨o, ho, rfl⟩ := perm_map_inv (f := fun i : Nat => (w.drop i, (i : Int))) hp _ rfl
  rw [List.pairwise_map] at hs
  have := isTO_of_le ho (hs.imp fun {i j} h => by
    rcases h with h | ⟨h, _⟩
    · exact fun h' => lt_asymmL h h'
    · intro h'
      have e : w.drop i = w.drop j := h
      rw [e] at h'
      exact List.lt_irrefl _ h')
  rw [← this.eq, List.map_map]
  rfl
theorem inv_len (o : List Nat) : (inv o).length = o.length := by unfold inv; rw [List.length_map, List.length_range]
theorem isPerm.nodup {o : List Nat} (h : isPerm o) : o.Nodup := List.Perm.nodup_iff h |>.mpr List.nodup_range
theorem isPerm.lt {o : List Nat} (h : isPerm o) {i : Nat} (hi : i ∈ o) : i < o.length := List.mem_range.mp (List.Perm.mem_iff h |>.mp hi)
theorem isPerm.mem {o : List Nat} (h : isPerm o) {i : Nat} (hi : i < o.length) : i ∈ o := List.Perm.mem_iff h |>.mpr (List.mem_range.mpr hi)
theorem inv_get {o : List Nat} {p : Nat} (hp : p < o.length) : (inv o)[p]? = some (o.idxOf p) := by
  unfold inv
  rw [List.getElem?_map, List.getElem?_range hp]
  rfl
theorem idx_of_get {o : List Nat} (h : o.Nodup) {j p : Nat} (e : o[j]? = some p) : o.idxOf p = j := by
  obtain ⟨hj, rfl⟩ := List.getElem?_eq_some_iff.mp e
  exact h.idxOf_getElem j hj
theorem get_idx {o : List Nat} {p : Nat} (h : p ∈ o) : o[o.idxOf p]? = some p := by
  have := List.idxOf_lt_length_of_mem h
  rw [List.getElem?_eq_getElem this, List.getElem_idxOf]
/-- ranks filled in by their places -/
theorem filled_inv {o : List Nat} {F : List D} (ho : isPerm o) (hl : F.length = o.length) (h : ∀ (j p : Nat), o[j]? = some p → F[p]? = some (.int j)) : F = nats (inv o) := by
  refine List.ext_getElem? fun p => ?_
  by_cases hp : p < o.length
  · unfold nats
    rw [List.getElem?_map, inv_get hp, h _ _ (get_idx (ho.mem hp))]
    rfl
  · rw [List.getElem?_eq_none (by omega), List.getElem?_eq_none (by unfold nats; rw [List.length_map, inv_len]; omega)]
theorem tOrd_perm (w : List Nat) : isPerm (tOrd w) := by
  unfold isPerm
  rw [tOrd_len]
  exact (tOrd_is w).1
theorem nats_get {o : List Nat} {i : Nat} {d : D} (h : (nats o)[i]? = some d) : ∃ p : Nat, o[i]? = some p ∧ d = .int p := by
  unfold nats at h
  rw [List.getElem?_map] at h
  cases hp : o[i]? with
  | none => rw [hp] at h; cases h
  | some p => rw [hp] at h; cases h; exact ⟨p, rfl, rfl⟩
theorem nats_len (o : List Nat) : (nats o).length = o.length := by unfold nats; rw [List.length_map]
theorem en_get {ds : List D} {i : Nat} {d : D} (h : (enL 0 ds)[i]? = some d) : ∃ e, ds[i]? = some e ∧ d = .tup [.int (i : Nat), e] := by
  rw [enL_get, Nat.zero_add] at h
  cases hp : ds[i]? with
  | none => rw [hp] at h; cases h
  | some p => rw [hp] at h; cases h; exact ⟨p, rfl, rfl⟩
theorem enL_len : ∀ (ds : List D) (n : Nat), (enL n ds).length = ds.length
  | [], _ => rfl
  | d :: ds, n => by show (enL (n + 1) ds).length + 1 = _; rw [enL_len ds (n + 1)]; rfl
end DL
set_option Elab.async false
set_option linter.all false
set_option maxRecDepth 100000
set_option maxHeartbeats 1000000
namespace DL
open PySem L2
/-- shown in at most n signs, nested at most k levels -/
structure RB (n k : Nat) (d : D) : Prop where
  show_ : (py d).showable = true
  pl : pln d = true
  dep : (py d).depth ≤ k
  len : (py d).shown.length ≤ n
theorem RB.mono {n m k l : Nat} {d : D} (h : RB n k d) (a : n ≤ m) (b : k ≤ l) : RB m l d := ⟨h.1, h.2, Nat.le_trans h.3 b, Nat.le_trans h.4 a⟩
theorem RB.ok {n k : Nat} {d : D} (h : RB n k d) (a : n ≤ 16777216) (b : k ≤ 60) : repOk d := ⟨h.1, h.2, Nat.le_trans h.3 b, by rw [sizeLine_eq]; exact Nat.le_trans h.4 a⟩
theorem rb_non : RB 4 0 .non := ⟨rfl, rfl, Nat.le_refl _, by decide⟩
theorem rb_bl (b : Bool) : RB 5 0 (.bl b) := by cases b <;> exact ⟨rfl, rfl, Nat.le_refl _, by decide⟩
theorem rb_int {i : Int} {k : Nat} (hk : 0 < k) (h : i.natAbs < 10 ^ k) (hk2 : k ≤ 400) : RB (k + 1) 0 (.int i) := by
  refine ⟨?_, rfl, Nat.le_refl _, ?_⟩
  · refine decide_eq_true ?_
    by_cases h0 : i.natAbs = 0
    · rw [h0]; decide
    · have e : 10 ^ k ≤ 2 ^ (4 * k) := by
        rw [Nat.pow_mul]
        exact Nat.pow_le_pow_left (by decide) k
      have : i.natAbs.log2 < 4 * k := (Nat.log2_lt h0).mpr (Nat.lt_of_lt_of_le h e)
      omega
  · show (Str.ofString (toString i)).length ≤ k + 1
    rw [PySem.ofString_length]
    exact PySem.int_text_length_le10 hk h
theorem rb_nat {i : Nat} (h : i < 1000) : RB 4 0 (.int (i : Int)) := rb_int (k := 3) (by decide) (by simpa using h) (by decide)
theorem rb_str {x : List Nat} (h : ∀ c ∈ x, c < 1114112) : RB (10 * x.length + 2) 0 (.str x) := by
  refine ⟨rfl, rfl, Nat.le_refl _, ?_⟩
  have := PySem.StrLaws.reprText_len (S x) (by
    rw [S_list]
    intro c hc
    exact Nat.lt_of_lt_of_le (h c hc) (by decide))
  rw [str_len (S x), S_list] at this
  exact this
theorem textFrom_le : ∀ (ts : List Str) (k : Nat) (acc : Str), (textFrom k acc ts).length ≤ acc.length + piled ts
  | [], k, acc => Nat.le_refl _
  | t :: r, k, acc => by
    have ih := textFrom_le r (k + 1) (acc ++ (if k > 0 then ", " else "" : String) ++ t)
    show (textFrom (k + 1) _ r).length ≤ _
    refine Nat.le_trans ih ?_
    rw [strLen_append, strLen_append, piled_cons]
    have : ((if k > 0 then ", " else "" : String) : Str).length ≤ 2 := by split <;> decide
    omega
theorem list_le (ts : List Str) : (listText ts).length ≤ piled ts + 2 := by
  unfold listText
  rw [strLen_append]
  have := textFrom_le ts 0 "["
  have e : (("[" : String) : Str).length = 1 := rfl
  have e2 : (("]" : String) : Str).length = 1 := rfl
  omega
theorem tuple_le (ts : List Str) : (tupleText ts).length ≤ piled ts + 3 := by
  unfold tupleText
  rw [strLen_append, strLen_append]
  have e : (("(" : String) : Str).length = 1 := rfl
  have e2 : ((if ts.length == 1 then ",)" else ")" : String) : Str).length ≤ 2 := by split <;> decide
  by_cases h : ts = []
  · subst h
    have : (Str.join ", " []).length = 0 := rfl
    omega
  · have := join_length_add ts h
    omega
theorem rbA {n k : Nat} : ∀ {ds : List D}, (∀ d ∈ ds, RB n k d) → PyData.showableAll (pyA ds) = true ∧ plnA ds = true ∧ PyData.depthAll (pyA ds) ≤ k ∧ piled (PyData.shownAll (pyA ds)) ≤ (n + 2) * ds.length
  | [], _ => ⟨rfl, rfl, Nat.zero_le _, Nat.zero_le _⟩
  | d :: ds, h => by
    obtain ⟨h1, h3, h4, h5⟩ := rbA fun x hx => h x (List.mem_cons_of_mem _ hx)
    have q := h d List.mem_cons_self
    refine ⟨?_, ?_, ?_, ?_⟩
    · simp [pyA, PyData.showableAll, q.1, h1]
    · simp [plnA, q.2, h3]
    · simp only [pyA, PyData.depthAll]
      exact Nat.max_le.mpr ⟨q.3, h4⟩
    · simp only [pyA, PyData.shownAll, piled_cons, List.length_cons]
      have := q.4
      rw [Nat.mul_add]
      omega
theorem rb_lst {n k : Nat} {ds : List D} (h : ∀ d ∈ ds, RB n k d) : RB ((n + 2) * ds.length + 2) (k + 1) (.lst ds) := by
  obtain ⟨h1, h3, h4, h5⟩ := rbA h
  refine ⟨by simpa [py, PyData.showable] using h1, by simpa [pln] using h3, ?_, ?_⟩
  · simp only [py, PyData.depth]; omega
  · simp only [py, PyData.shown]
    have := list_le (PyData.shownAll (pyA ds))
    omega
theorem rb_tup {n k : Nat} {ds : List D} (h : ∀ d ∈ ds, RB n k d) : RB ((n + 2) * ds.length + 3) (k + 1) (.tup ds) := by
  obtain ⟨h1, h3, h4, h5⟩ := rbA h
  refine ⟨by simpa [py, PyData.showable] using h1, by simpa [pln] using h3, ?_, ?_⟩
  · simp only [py, PyData.depth]; omega
  · simp only [py, PyData.shown]
    have := tuple_le (PyData.shownAll (pyA ds))
    omega
theorem rb_dic0 : RB 2 1 (.dic []) := ⟨rfl, rfl, by decide, by decide⟩
theorem rb_dic1 : RB 8 1 (.dic [(.inr (S [97]), .int 1)]) := ⟨by decide +kernel, rfl, by decide +kernel, by decide +kernel⟩
/-- a call of repr -/
theorem rep_call {d : D} {q : D → Prop} {n k : Nat} (h : RB n k d) (a : n ≤ 16777216) (b : k ≤ 60) (hq : q (.str (rep d))) : cRepr [d] q := ⟨d, rfl, h.ok a b, hq⟩
end DL
set_option Elab.async false
set_option linter.all false
set_option maxRecDepth 100000
set_option maxHeartbeats 1000000
namespace DL
open PySem L2
theorem jn_ones : ∀ xs : List Nat, jn [] (xs.map fun c => [c]) = xs
  | [] => rfl
  | [a] => rfl
  | a :: b :: r => by
    have := jn_ones (b :: r)
    show [a] ++ ([] ++ TL.joinL [] ((b :: r).map fun c => [c])) = _
    rw [show TL.joinL [] ((b :: r).map fun c => [c]) = b :: r from this]
    rfl
theorem ones_sum (xs : List Nat) : ((xs.map fun c => [c]).map (·.length)).sum = xs.length := by
  induction xs with
  | nil => rfl
  | cons a r ih => simp at ih ⊢; omega
/-- a letter as a text -/
def IsL (d : D) : Prop := ∃ c, d = .str [c] ∧ 97 ≤ c ∧ c < 123
theorem isL_all : ∀ {ys : List D}, (∀ d ∈ ys, IsL d) → ∃ cs : List Nat, ys = cs.map (fun c => D.str [c]) ∧ Lets cs ∧ cs.length = ys.length
  | [], _ => ⟨[], rfl, (fun _ h => by cases h), rfl⟩
  | y :: ys, h => by
    obtain ⟨cs, e, l, hl⟩ := isL_all fun d hd => h d (List.mem_cons_of_mem _ hd)
    obtain ⟨c, rfl, h1, h2⟩ := h y List.mem_cons_self
    refine ⟨c :: cs, by rw [e]; rfl, fun x hx => ?_, by rw [List.length_cons, List.length_cons, hl]⟩
    rcases List.mem_cons.mp hx with rfl | hx
    · exact ⟨h1, h2⟩
    · exact l x hx
theorem paired_all {α : Type} {P : D → Prop} : ∀ {xs : List α} {ys : List D}, Paired (fun _ d => P d) xs ys → (∀ d ∈ ys, P d) ∧ ys.length = xs.length
  | _, _, .nil => ⟨(fun _ h => by cases h), rfl⟩
  | _, _, .cons h t => by
    obtain ⟨h1, h2⟩ := paired_all t
    refine ⟨fun d hd => ?_, by rw [List.length_cons, List.length_cons, h2]⟩
    rcases List.mem_cons.mp hd with rfl | hd
    · exact h
    · exact h1 d hd
end DL
set_option Elab.async false
set_option linter.all false
set_option maxRecDepth 100000
set_option maxHeartbeats 1000000
namespace DL
open PySem L2
/-- may be compared: nested at most k levels -/
structure Sh (k : Nat) (d : D) : Prop where
  lay : (py d).canLay0 = true
  dep : (py d).depth ≤ k
  pl : pln d = true
theorem Sh.mono {k l : Nat} {d : D} (h : Sh k d) (a : k ≤ l) : Sh l d := ⟨h.1, Nat.le_trans h.2 a, h.3⟩
theorem Sh.ok {k : Nat} {d : D} (h : Sh k d) (a : k ≤ 64) : shp d = true := by
  unfold shp SeqAt.shaped
  rw [h.1, h.3, decide_eq_true (Nat.le_trans h.2 a)]
  rfl
mutual
def nb : D → Bool
  | .non => true
  | .int _ => true
  | .str _ => true
  | .lst ds => nbA ds
  | .tup ds => nbA ds
  | _ => false
def nbA : List D → Bool
  | [] => true
  | d :: ds => nb d && nbA ds
end
end DL
set_option Elab.async false
set_option linter.all false
set_option maxRecDepth 100000
set_option maxHeartbeats 1000000
namespace DL
open PySem L2
@[simp] theorem natD_int {i : Nat} : natD (.int i) = i := rfl
/-- the odd values have types and can be shown -/
def fineD (v : D) : Prop := okD v ∧ RB 40 3 v
theorem fine_int {i : Int} (h : i.natAbs < 10 ^ 30) : fineD (.int i) := ⟨⟨_, rfl⟩, (rb_int (k := 30) (by decide) h (by decide)).mono (by decide) (by decide)⟩
theorem fine_bl {b : Bool} : fineD (.bl b) := ⟨⟨_, rfl⟩, (rb_bl b).mono (by decide) (by decide)⟩
theorem fine_non : fineD .non := ⟨⟨_, rfl⟩, rb_non.mono (by decide) (by decide)⟩
theorem fine_str {x : List Nat} (h : ∀ c ∈ x, c < 1114112) (hl : x.length ≤ 3) : fineD (.str x) := ⟨⟨_, rfl⟩, (rb_str h).mono (by omega) (by decide)⟩
theorem fine_tup0 : fineD (.tup []) := ⟨⟨_, rfl⟩, (rb_tup (n := 5) (k := 0) (ds := []) fun d hd => nomatch hd).mono (by decide) (by decide)⟩
theorem fine_lst0 : fineD (.lst []) := ⟨⟨_, rfl⟩, (rb_lst (n := 5) (k := 0) (ds := []) fun d hd => nomatch hd).mono (by decide) (by decide)⟩
theorem fine_tup1 {v : D} {n : Nat} (h : RB n 0 v) (hn : n ≤ 20) : fineD (.tup [v]) := ⟨⟨_, rfl⟩, (rb_tup (n := 20) (k := 0) (ds := [v]) fun d hd => by rw [List.mem_singleton.mp hd]; exact h.mono hn (Nat.le_refl _)).mono (by simp) (by decide)⟩
theorem fine_lst1 {v : D} {n : Nat} (h : RB n 0 v) (hn : n ≤ 20) : fineD (.lst [v]) := ⟨⟨_, rfl⟩, (rb_lst (n := 20) (k := 0) (ds := [v]) fun d hd => by rw [List.mem_singleton.mp hd]; exact h.mono hn (Nat.le_refl _)).mono (by simp) (by decide)⟩
theorem all_cons {α : Type} {P : α → Prop} {x : α} {xs : List α} (h : P x) (t : ∀ y ∈ xs, P y) : ∀ y ∈ x :: xs, P y := fun y hy => by
  rcases List.mem_cons.mp hy with rfl | hy
  · exact h
  · exact t y hy
theorem all_nil {α : Type} {P : α → Prop} : ∀ y ∈ ([] : List α), P y := fun y hy => nomatch hy
theorem big29 : ((10 : Int) ^ 29).natAbs < 10 ^ 30 := by
  rw [Int.natAbs_pow]
  exact Nat.pow_lt_pow_right (by decide) (by decide)
theorem odd_fine : ∀ v ∈ oddL, fineD v :=
  all_cons fine_non (all_cons fine_bl (all_cons fine_bl (all_cons (fine_int (by decide)) (all_cons (fine_int (by decide)) (all_cons (fine_int (by decide)) (all_cons (fine_int (by decide)) (all_cons (fine_int (by decide)) (all_cons (fine_int (by decide)) (all_cons (fine_int big29)
  (all_cons (fine_str (by simp) (by decide)) (all_cons (fine_str (by simp) (by decide)) (all_cons (fine_str (by simp) (by decide)) (all_cons (fine_str (by simp) (by decide)) (all_cons (fine_str (by simp) (by decide))
  (all_cons fine_tup0 (all_cons fine_lst0 (all_cons ⟨⟨_, rfl⟩, rb_dic0.mono (by decide) (by decide)⟩ (all_cons (fine_tup1 (rb_nat (i := 0) (by decide)) (by decide)) (all_cons (fine_lst1 (rb_nat (i := 0) (by decide)) (by decide)) (all_cons (fine_tup1 (rb_bl true) (by decide))
  (all_cons (fine_tup1 (rb_str (x := [97]) (by simp)) (by decide)) (all_cons ⟨⟨_, rfl⟩, rb_dic1.mono (by decide) (by decide)⟩ (all_cons (fine_str (by simp) (by decide)) (all_cons (fine_str (by simp) (by decide)) all_nil))))))))))))))))))))))))
theorem abc_mem {c : Nat} : c ∈ abcW ↔ 97 ≤ c ∧ c < 123 := by
  simp only [abcW, List.mem_cons, List.not_mem_nil, or_false]
  omega
theorem abc_in {c : Nat} : decide (c ∈ abcW) = isLt c := by
  rw [Bool.eq_iff_iff, decide_eq_true_iff, abc_mem]
  simp [isLt]
end DL
set_option Elab.async false
set_option linter.all false
set_option maxRecDepth 100000
set_option maxHeartbeats 1000000
namespace DL
open PySem L2
/-- the four properties: letter, rank, factor, strict -/
def prpS : Nat → Str
  | 0 => "letter"
  | 1 => "rank"
  | 2 => "factor"
  | _ => "strict"
def prpN (j : Nat) : List Nat := (prpS j).cps.toList
/-- the value of a property at a place -/
def colD (w : List Nat) (j p : Nat) : D := match j with
  | 0 => .str [w.getD p 0]
  | 1 => .int ((inv (tOrd w)).getD p 0 : Nat)
  | 2 => .bl (decide (p ∈ fplW (inv (tOrd w))))
  | _ => .bl (decide ((inv (tOrd w)).getD p 0 ∈ stpW (tOrd w)))
def isBlD : D → Bool
  | .bl _ => true
  | _ => false
/-- what can be wanted of a property -/
def wishB (j : Nat) (v : D) : Bool := match j with
  | 0 => isLetD v
  | 1 => isI v
  | _ => isBlD v
def d_is_wish : DSp stg := fun ds g q _ => ∃ (j : Nat) (v : D), ds = [.str (prpN j), v] ∧ j < 4 ∧ okD v ∧ szD 100000 v ∧ q (.bl (wishB j v)) g
def d_values_of : DSp stg := fun ds g q _ => ∃ (j : Nat) (w : List Nat), ds = [.str w, .str (prpN j)] ∧ j < 4 ∧ w.length ≤ 900 ∧ q (.lst ((List.range w.length).map (colD w j))) g
/-- the places that have what is wanted -/
def selL (w : List Nat) (js : List (Nat × D)) : List Nat := (List.range w.length).filter fun p => js.all fun x => eqF (colD w x.1 p) x.2
theorem seq_md {M : Ghost} {A B : SW M} {k : K3 M} {ρ : DEnv} {g : M.G} (Mid : DEnv → M.G → Prop) (hB : ∀ ρ g, Mid ρ g → B k ρ g) (hA : ∀ X : DEnv → M.G → Prop, (∀ ρ g, Mid ρ g → X ρ g) → A { k with nx := X } ρ g) : wSeq A B k ρ g := hA _ hB
theorem forWp_at {M : Ghost} {gw : GW} {wb : SW M} {P : M.G → Prop} {k : K3 M} (I : Nat → DEnv → M.G → Prop) : ∀ (ds : List D) (n : Nat) {ρ : DEnv} {g : M.G}, (∀ i ρ g, I i ρ g → P g) →
    (∀ (i : Nat) d ρ g (K : DEnv → M.G → Prop), ds[i]? = some d → I (n + i) ρ g → (∀ ρ g, I (n + i + 1) ρ g → K ρ g) → gw d ρ fun ρ' => wb { nx := K, rt := k.rt, bk := k.nx, ct := K } ρ' g) → (∀ ρ g, I (n + ds.length) ρ g → k.nx ρ g) → I n ρ g → forWp gw wb P ds k ρ g
  | [], n, ρ, g, hP, hs, he, h => ⟨hP _ _ _ h, he _ _ h⟩
  | d :: ds, n, ρ, g, hP, hs, he, h => ⟨hP _ _ _ h, hs 0 d ρ g (forWp gw wb P ds k) rfl h fun ρ g h => forWp_at I ds (n + 1) hP (fun i d ρ g K e h hK => hs (i + 1) d ρ g K e (by rw [show n + (i + 1) = n + 1 + i by omega]; exact h) (by rw [show n + (i + 1) + 1 = n + 1 + i + 1 by omega]; exact hK)) (fun ρ g h => he ρ g (by rw [List.length_cons, show n + (ds.length + 1) = n + 1 + ds.length by omega]; exact h)) h⟩
end DL
set_option Elab.async false
set_option linter.all false
set_option maxRecDepth 100000
set_option maxHeartbeats 1000000
namespace DL
open PySem L2
/-- the name that is no property, by way -/
def badS (n : Nat) : Str := match n with
  | 5 => "colour"
  | 6 => "Rank"
  | 7 => "weight"
  | 8 => "begins"
  | 9 => "place"
  | 10 => "tail"
  | _ => "order"
def badN (n : Nat) : List Nat := (badS n).cps.toList
/-- the properties that a way asks for -/
def kindW (n : Nat) : List Nat := [[0], [1, 0], [3, 1, 2], [2, 0, 3, 1], [1, 3, 0, 2]].getD n []
def argN (n : Nat) : Nat := [1, 2, 3, 4, 4, 1, 2, 3, 3, 1, 2, 2].getD n 0
/-- the first value that cannot be wanted -/
def fstBad : List (Nat × D) → Option D
  | [] => none
  | x :: js => if wishB x.1 x.2 = true then fstBad js else some x.2
def dueS (n : Nat) (vs : List D) : D := if 4 < n then .lst [.str [110, 97, 109, 101], .str (badN n), .bl true] else match fstBad ((kindW n).zip vs) with
  | none => .lst [.str [112, 108, 97, 99, 101, 115]]
  | some v => .lst [.str [119, 105, 115, 104], v, .bl true]
def okW (v : D) : Prop := okD v ∧ szD 100000 v ∧ obsD v = true
def isPrp (k : Key) : Prop := ∃ j < 4, k = .inr (prpS j)
def endS (q : D → Gq → Prop) (ex : Exn → Gq → Prop) (g : Gq) : Option D → Prop
  | none => ∀ (ps : List Nat) (T : List Ob), q (.tup (nats ps)) ⟨g.n, g.S ++ T⟩
  | some v => ∀ T : List Ob, ex ⟨"BadWish", ["value"], [v]⟩ ⟨g.n, g.S ++ T⟩
def d_select55 : DKw := fun d kds g q ex => ∃ w : List Nat, d = .str w ∧ w.length ≤ 900 ∧
  ((∃ (pre : List (Key × D)) (k : Str) (v : D) (post : List (Key × D)), kds = pre ++ (.inr k, v) :: post ∧ (∀ x ∈ pre, isPrp x.1) ∧ (∀ j < 4, k.cps.toList ≠ prpN j) ∧ ∀ T : List Ob, ex ⟨"NoProperty", ["name"], [.str k.cps.toList]⟩ ⟨g.n, g.S ++ T⟩) ∨
   ∃ js : List (Nat × D), kds = (js.map fun x => (Sum.inr (prpS x.1), x.2)) ∧ (∀ x ∈ js, x.1 < 4 ∧ okW x.2) ∧ endS q ex g (fstBad js))
def d_l_called55 : DSp stq := fun ds g q ex => ∃ (w : List Nat) (n : Nat) (vs : List D), ds = [.str w, .int (n : Int), .lst vs] ∧ n < 12 ∧ w.length ≤ 900 ∧ vs.length = argN n ∧ (∀ v ∈ vs, okW v) ∧
  if 4 < n then ∀ T : List Ob, ex ⟨"NoProperty", ["name"], [.str (badN n)]⟩ ⟨g.n, g.S ++ T⟩ else endS q ex g (fstBad ((kindW n).zip vs))
def d_l_told55 : DSp stq := fun ds g q _ => ∃ (w : List Nat) (n : Nat) (vs : List D), ds = [.str w, .int (n : Int), .lst vs] ∧ n < 12 ∧ w.length ≤ 900 ∧ vs.length = argN n ∧ (∀ v ∈ vs, okW v) ∧ ∀ T : List Ob, q (dueS n vs) ⟨g.n, g.S ++ T⟩
def d_l_due55 : DSp stg := fun ds g q _ => ∃ (n : Nat) (vs : List D), ds = [.int (n : Int), .lst vs] ∧ n < 12 ∧ vs.length = argN n ∧ (∀ v ∈ vs, okD v ∧ szD 100000 v) ∧ q (dueS n vs) g
def d_l_alone55 : DSp stg := fun ds g q _ => ∃ (c : Str) (ns : List Str) (vs : List D), ds = [.exn c ns vs] ∧ (c = "NoProperty" ∨ c = "BadWish") ∧ q (.bl true) g
/-- the sign of a kind -/
def kndC : Nat → Nat
  | 0 => 108
  | 1 => 105
  | _ => 98
def d_l_is_right55 : DSp stg := fun ds g q _ => ∃ (j : Nat) (v : D), ds = [.str [kndC j], v] ∧ j < 4 ∧ okD v ∧ szD 100000 v ∧ q (.bl (wishB j v)) g
end DL
set_option Elab.async false
set_option linter.all false
set_option maxRecDepth 100000
set_option maxHeartbeats 1000000
namespace DL
open PySem L2
theorem nats_at {o : List Nat} {i : Nat} (h : i < o.length) : (nats o)[i]? = some (.int (o.getD i 0)) := by
  unfold nats
  rw [List.getElem?_map, List.getElem?_eq_getElem h, List.getD_eq_getElem?_getD, List.getElem?_eq_getElem h]
  rfl
/-- neighbours with their indexes -/
theorem enz_next (o : List Nat) : enL 0 (zipL (nats o) (cutL (nats o) (some 1) none)) = (List.range (o.length - 1)).map fun i => D.tup [.int (i : Nat), .tup [.int (o.getD i 0), .int (o.getD (i + 1) 0)]] := by
  have e : cutL (nats o) (some 1) none = (nats o).drop 1 := cut_from (nats o) 1
  rw [e]
  refine List.ext_getElem? fun i => ?_
  rw [enL_get, Nat.zero_add]
  unfold zipL
  rw [List.getElem?_map, List.getElem?_map]
  by_cases h : i < o.length - 1
  · have h1 := nats_at (o := o) (i := i) (by omega)
    have h2 := nats_at (o := o) (i := i + 1) (by omega)
    have h3 : ((nats o).zip ((nats o).drop 1))[i]? = some (D.int (o.getD i 0), D.int (o.getD (i + 1) 0)) := List.getElem?_zip_eq_some.mpr ⟨h1, by rw [List.getElem?_drop, Nat.add_comm]; exact h2⟩
    rw [List.getElem?_range h, h3]
    rfl
  · have h3 : ((nats o).zip ((nats o).drop 1))[i]? = none := List.getElem?_eq_none (by rw [List.length_zip, List.length_drop, nats_len]; omega)
    have h4 : (List.range (o.length - 1))[i]? = none := List.getElem?_eq_none (by rw [List.length_range]; omega)
    rw [h3, h4]
    rfl
theorem rkE_at {o : List Nat} {p : Nat} (h : p ≤ o.length) : atI (nats (inv o) ++ [.int (-1)]) ((p : Nat) : Int) = some (.int (rkE o p)) := by
  refine atI_ofNat ?_
  unfold rkE
  rw [List.getD_eq_getElem?_getD]
  have e : nats (inv o) ++ [D.int (-1)] = (((inv o).map fun (i : Nat) => (i : Int)) ++ [-1]).map D.int := by
    unfold nats
    rw [List.map_append, List.map_map]
    rfl
  rw [e, List.getElem?_map, List.getElem?_eq_getElem (by rw [List.length_append, List.length_map, inv_len]; simp; omega)]
  rfl
end DL
set_option Elab.async false
set_option linter.all false
set_option maxRecDepth 100000
set_option maxHeartbeats 1000000
namespace DL
open PySem L2
theorem idx_lt {o : List Nat} (ho : isPerm o) {p : Nat} (h : p < o.length) : o.idxOf p < o.length := by
  have := get_idx (o := o) (ho.mem h)
  exact (List.getElem?_eq_some_iff.mp this).1
theorem nats_app {a b : List Nat} : nats a ++ nats b = nats (a ++ b) := by unfold nats; rw [List.map_append]
end DL
set_option Elab.async false
set_option linter.all false
set_option maxRecDepth 100000
set_option maxHeartbeats 1000000
namespace DL
open PySem L2
end DL
set_option Elab.async false
set_option linter.all false
set_option maxRecDepth 100000
set_option maxHeartbeats 1000000
namespace DL
open PySem L2
end DL
set_option Elab.async false
set_option linter.all false
set_option maxRecDepth 100000
set_option maxHeartbeats 1000000
namespace DL
open PySem L2
end DL
set_option Elab.async false
set_option linter.all false
set_option maxRecDepth 100000
set_option maxHeartbeats 1000000
namespace DL
open PySem L2
structure IsNl (r : List Nat) (p E : Nat) : Prop where
  lo : p < E
  hi : E ≤ r.length
  no : ∀ j, p < j → j < E → ¬ r.getD j 0 < r.getD p 0
  at_ : E < r.length → r.getD E 0 < r.getD p 0
theorem IsNl.uniq {r : List Nat} {p E F : Nat} (h : IsNl r p E) (k : IsNl r p F) : E = F := by
  by_cases c : E < F
  · exact absurd (h.at_ (by have := k.hi; omega)) (k.no E h.lo c)
  · by_cases c2 : F < E
    · exact absurd (k.at_ (by have := h.hi; omega)) (h.no F k.lo c2)
    · omega
theorem inv_getD {o : List Nat} {p : Nat} (h : p < o.length) : (inv o).getD p 0 = o.idxOf p := by
  rw [List.getD_eq_getElem?_getD, inv_get h]
  rfl
end DL
set_option Elab.async false
set_option linter.all false
set_option maxRecDepth 100000
set_option maxHeartbeats 1000000
namespace DL
open PySem L2
end DL
set_option Elab.async false
set_option linter.all false
set_option maxRecDepth 100000
set_option maxHeartbeats 4000000
namespace LW
open PySem L2 DL
def topS (i : Nat) : Stmt := PySem.Challenge.pw_tailranks_k55_errors_of_select.main.body.getD i (.Pass ⟨0, 0, 0, 0⟩)
abbrev sStream : Stmt := topS 27
abbrev sDraw : Stmt := topS 28
theorem scStream : FnScope ["_law_script", "_law_cells", "_law_cell"] ["_law_script"] (defScope sStream) := ⟨rfl, rfl, rfl, by decide +kernel, rfl, by decide +kernel, by decide +kernel⟩
section
variable {P : Program} {w : World} {K : PySem.W.Frag} {mg : Str → Option Value} {base : Heap}
theorem ok_stream {f : Addr} {fd : FuncData} (F : Fun K "_law_stream" "_law_stream" sStream f fd) (ml : mg "len" = none) (ma : mg "abs" = none) : FnG P w K mg base 1 f fd ["_law_script"] (spStream K) := by
  refine fng_of F scStream (fun vs H Q E h => ?_) (fun cdv A outer s H vs Q E hr hgd h => ?_)
  · obtain ⟨a, ns, rfl, _⟩ := h
    rfl
  · obtain ⟨a, ns, rfl, hS, hlen, hQ⟩ := h
    refine ⟨_, PSs.nox (pss_cons (ps_setLc (i := 1) (own := [("_law_cell", 2)]) (g := gName 2) (tt := tYes) rfl scStream.nd rfl rfl (sw_true rfl rfl rfl (by decide +kernel)) (pi_list (pv 0))
        (blkOk_by (own := [("_law_cell", 2)]) (N := ["_law_script", "_law_cells", "_law_cell"]) (sc := defScope sStream) (by decide +kernel)) (fun _ _ _ _ _ => pg_name (i := 2) scStream.nd rfl (Or.inl rfl)) (fun _ _ _ _ _ => pts_nil)
        (fun _ _ _ _ _ => pe_callB call_abs (by rfl) ma (by decide +kernel) (pa_cons (pv 2) pa_nil)))
      (pss_one (ps_ret (pe_lst (pa_cons (pe_lc (own := [("_law_cell", 2)]) (g := gName 2) (tt := _) rfl scStream.nd (pi_list (pv 1))
          (blkOk_by (own := [("_law_cell", 2)]) (N := ["_law_script", "_law_cells", "_law_cell"]) (sc := defScope sStream) (by decide +kernel)) (fun _ _ _ _ _ => pg_name (i := 2) scStream.nd rfl (Or.inl rfl))
          (fun _ _ _ _ _ => pts_one (pt_cmpR op_ge (pv 2) (pe_op op_pow pe_int pe_int) (nomark _))) (fun _ _ _ _ _ => pv 2))
        (pa_cons (pe_op op_cat (pv 1) (pe_lst (pa_cons (pe_op op_add (pe_callB call_len_seq (by rfl) ml PySem.boot_len (pa_cons (pv 1) pa_nil)) pe_int) pa_nil))) (pa_cons pe_int pa_nil))))))), ?_⟩
    -- _law_cells
    refine ⟨.ref a, rfl, a, rfl, ⟨_, hS⟩, fun D hD => ?_⟩
    have hAD : ∀ o, H a = some o → a ≠ D := fun o e => ne_of_none e hD
    refine lc_list (K := K) (a := a) (xs := ns.map V.int) (fun i H1 => Same H H1 ∧ H1 D = some (.lst ((ns.take i).map fun n => V.int (if n < 0 then -n else n)))) ⟨same_new hD, upd_same⟩ (fun i H1 _ h => h.1.seq hS) (fun i x H1 hx h => ?_) (fun H1 h => ?_)
    · obtain ⟨j, rfl, hj⟩ := map_int_get hx
      refine ⟨rfl, iteT (B := Same H H1 ∧ H1 D = some (.lst ((ns.take (i + 1)).map fun n => V.int (if n < 0 then -n else n)))) ?_⟩
      refine ⟨.int j, rfl, j, rfl, _, h.2, ?_, ?_, ?_⟩
      · rw [List.length_map, List.length_take]
        exact Nat.lt_of_le_of_lt (Nat.min_le_right _ _) (small1000 (by omega))
      · intro b o e
        rw [upd_ne (show b ≠ D from ne_of_none e hD)]
        exact h.1 _ _ e
      · rw [upd_same, List.take_add_one, hj, List.map_append]
        rfl
    · obtain ⟨sm, hD1⟩ := h
      rw [List.length_map, List.take_length] at hD1
      generalize hcl : ns.map (fun n => if n < 0 then -n else n) = cells at hD1
      have hD2 : H1 D = some (.lst (cells.map V.int)) := by rw [hD1, ← hcl, List.map_map]; rfl
      have clen : cells.length = ns.length := by rw [← hcl, List.length_map]
      -- the large cells
      refine ⟨.ref D, rfl, D, rfl, ⟨_, .of hD2⟩, fun D2 hD3 => ?_⟩
      have dne : D ≠ D2 := ne_of_none hD2 hD3
      refine lc_list (K := K) (a := D) (xs := cells.map V.int) (fun i H2 => Same H1 H2 ∧ ∃ L : List Int, L.length ≤ i ∧ H2 D2 = some (.lst (L.map V.int))) ⟨same_new hD3, [], Nat.le_refl _, upd_same⟩ (fun i H2 _ h => .of (h.1 _ _ hD2)) (fun i x H2 hx h => ?_) (fun H2 h => ?_)
      · obtain ⟨sm2, L, hl, hL⟩ := h
        obtain ⟨j, rfl, hj⟩ := map_int_get hx
        have hi : i < cells.length := (List.getElem?_eq_some_iff.mp hj).1
        refine ⟨rfl, .int j, rfl, 10, 18, rfl, rfl, ⟨by decide, by decide, by decide⟩, j, _, rfl, rfl, _, rfl, ite2 (fun _ => ?_) (fun _ => ?_)⟩
        · refine ⟨.int j, rfl, _, hL, ?_, ?_, L ++ [j], ?_, ?_⟩
          · rw [List.length_map]
            exact small1000 (by omega)
          · intro b o e
            rw [upd_ne (show b ≠ D2 from ne_of_none e hD3)]
            exact sm2 _ _ e
          · rw [List.length_append, List.length_singleton]
            omega
          · rw [upd_same, List.map_append]
            rfl
        · exact ⟨sm2, L, by omega, hL⟩
      · obtain ⟨sm2, L, hl, hL⟩ := h
        have hD4 := sm2 _ _ hD2
        -- all cells
        refine ⟨.ref D, rfl, .ref D, rfl, D, _, rfl, .inl (.of hD4), _, 29, rfl, rfl, by show 1 ≤ sizeLine; decide, fun p np => ?_⟩
        have pD : D ≠ p := ne_of_none hD4 np
        have pD2 : D2 ≠ p := ne_of_none hL np
        refine ⟨D, p, _, _, rfl, rfl, (upd_ne pD).trans hD4, upd_same, ?_, fun c nc => ?_⟩
        · rw [List.length_map, clen]
          exact Nat.le_of_lt (small1000 (by show ns.length + 1 ≤ 1000; omega))
        have cD : D ≠ c := ne_of_none ((upd_ne pD).trans hD4) nc
        have cD2 : D2 ≠ c := ne_of_none ((upd_ne pD2).trans hL) nc
        have cp : p ≠ c := ne_of_none (o := .lst [V.int (((cells.map V.int).length : Nat) + 29)]) upd_same nc
        refine ⟨by show 3 ≤ sizeLine; decide, fun q nq => ?_⟩
        have sm3 := ((sm.trans sm2).trans (same_new (o := .lst [V.int (((cells.map V.int).length : Nat) + 29)]) np)).trans (same_new (o := .lst (cells.map V.int ++ [V.int (((cells.map V.int).length : Nat) + 29)])) nc)
        have hLc := (upd_ne (o := .lst (cells.map V.int ++ [V.int (((cells.map V.int).length : Nat) + 29)])) cD2).trans ((upd_ne (o := .lst [V.int (((cells.map V.int).length : Nat) + 29)]) pD2).trans hL)
        have q2 : D2 ≠ q := ne_of_none hLc nq
        have qc : c ≠ q := ne_of_none (o := .lst (cells.map V.int ++ [V.int (((cells.map V.int).length : Nat) + 29)])) upd_same nq
        refine hQ _ q D2 c L (cells ++ [(((cells.map V.int).length : Nat) : Int) + 29]) (sm3.trans (same_new nq)) (sm3.free nq) (sm.free hD3) ((sm.trans sm2).free ((same_new np).free nc)) (Ne.symm q2) (Ne.symm qc) cD2 upd_same ((upd_ne q2).trans hLc) ((upd_ne qc).trans ?_) (by simp)
        rw [upd_same, List.map_append]
        rfl
end
theorem scDraw : FnScope ["_law_stream_here", "_law_many", "_law_rest", "_law_turn", "_law_cell", "_law_mixed"] ["_law_stream_here", "_law_many"] (defScope sDraw) := ⟨rfl, rfl, rfl, by decide +kernel, rfl, by decide +kernel, by decide +kernel⟩
section
variable {P : Program} {w : World} {K : PySem.W.Frag} {mg : Str → Option Value} {base : Heap}
theorem ok_draw {f : Addr} {fd : FuncData} (F : Fun K "_law_draw" "_law_draw" sDraw f fd) (ml : mg "len" = none) : FnG P w K mg base 1 f fd ["_law_stream_here", "_law_many"] (liftSp K mg 2 dDraw) := by
  refine fng_of F scDraw (fun vs H Q E h => ?_) (fun cdv A outer s H vs Q E hr hgd h => ?_)
  · obtain ⟨W, ds, q, ex, _, _, r, hl, _⟩ := h
    rw [r.length, hl]
    rfl
  · obtain ⟨W, ds, q, ex, rfl, ok, r, hl, ⟨many, rfl, hm0, hm1, hg, hq⟩, hQ, hE⟩ := h
    have hml : many.natAbs.log2 < 9000 := Nat.lt_of_lt_of_le ((Nat.log2_lt (k := 60) (by omega)).mpr (by omega)) (by decide)
    have hu : (A.deeper (PyProof.Rows.envOfC "_law_draw" (defScope sDraw) s.heap.objs.size f cdv)).units + 64 < cLine := hr.units
    refine ⟨_, PSs.nox (pss_cons (ps_while PassesOwn.never (pt_cmpR (op_neD hu) (pe_ix ix_list (pv 0) pe_int (fun _ _ => rfl)) (pe_lst pa_nil) (nomark _))
        (pss_cons (ps_set (i := 2) scDraw.nd rfl (.inl rfl) (pe_ix ix_list (pe_ix ix_list (pv 0) pe_int (fun _ _ => rfl)) pe_int (fun _ _ => rfl)))
        (pss_cons (ps_if (pt_cmpR op_gt (pv 2) pe_int (nomark _))
          (pss_cons (ps_asg (pe_op op_fdivW (pv 2) (pv 1)) (pg_sub (pe_ix ix_list (pv 0) pe_int (fun _ _ => rfl)) pe_int set_list)) (pss_one (ps_ret (pe_op op_mod (pv 2) (pv 1))))) pss_nil)
        (pss_one (ps_expr (pe_bm PySem.F.plainAttrs_list PySem.F.slot_list_pop PySem.F.type_list_pop mt_popAt (pe_ix ix_list (pv 0) pe_int (fun _ _ => rfl)) (pa_cons pe_int pa_nil)))))))
      (pss_cons (ps_set (i := 3) scDraw.nd rfl (.inl rfl) (pe_op op_add (pe_ix ix_list (pv 0) pe_int (fun _ _ => rfl)) pe_int))
      (pss_cons (ps_asg (pv 3) (pg_sub (pv 0) pe_int set_list))
      (pss_cons (ps_set (i := 4) scDraw.nd rfl (.inl rfl) (pe_op op_mod (pe_ix ix_list (pe_ix ix_list (pv 0) pe_int (fun _ _ => rfl)) (pe_op op_mod (pv 3) (pe_callB call_len_seq (by rfl) ml PySem.boot_len (pa_cons (pe_ix ix_list (pv 0) pe_int (fun _ _ => rfl)) pa_nil))) (fun _ _ => rfl)) pe_int))
      (pss_cons (ps_set (i := 5) scDraw.nd rfl (.inl rfl) (pe_op op_mod (pe_op op_add (pe_op op_add (pe_op op_mul (pv 4) (pe_op op_add pe_int (pe_op op_mul pe_int (pv 3)))) (pe_op op_mul (pe_op op_mul pe_int (pv 3)) (pv 3))) pe_int) pe_int))
      (pss_one (ps_ret (pe_op op_mod (pe_op op_fdiv (pe_op op_mod (pe_op op_mul (pv 5) (pv 5)) pe_int) pe_int) (pv 1))))))))), ?_⟩
    obtain ⟨a, b, c, L, cs, m, h1, h2, h3, h4, h5, h6, h7, h8, h9⟩ := ok.gh.2 (Nat.le_trans (Nat.le_succ _) hg)
    obtain ⟨va, vm, rfl, ra, rm⟩ : ∃ va vm, vs = [va, vm] ∧ Rp K W.F W.R va (.ob 0) ∧ Rp K W.F W.R vm (.int many) := by
      cases r with
      | cons x t =>
        cases t with
        | cons y t =>
          cases t
          exact ⟨_, _, rfl, x, y⟩
    cases rm
    obtain rfl : va = .ref a := by
      cases ra with
      | ob e => rw [h1] at e; cases e; rfl
    have d0 : DrawAt K W W a b c L cs m := ⟨Go.refl W, ok, rfl, h1, h2, h3, h4, h5, h6, h7, h8, h9⟩
    refine ⟨fun n σ H => ∃ (W1 : Wd stg) (L : List Int) (y : Option V), W1.H = H ∧ n = L.length ∧ σ = [some (.ref a), some (.int many), y, none, none, none] ∧ DrawAt K W W1 a b c L cs m, ⟨_, W, L, none, rfl, rfl, rfl, d0⟩, ?_⟩
    rintro n σ H ⟨W1, L1, y, rfl, rfl, rfl, d⟩
    -- _law_stream_here[0] != []
    refine ⟨.ref a, rfl, a, _, 0, .ref b, rfl, rfl, .of d.ha, atI_nat (j := 0) rfl, Nat.zero_le _, fun p np => ?_⟩
    have d1 := d.new (o := .lst []) np
    have e1 : Dp K (upd W1.H p (.lst [])) (.ref b) (.list (L1.map PyData.int)) := .lst (.of d1.hb) (by
      clear d1 d
      induction L1 with
      | nil => exact .nil
      | cons x r ih => exact .cons (.int x) ih)
    have sh : SeqAt.shaped (.list (L1.map PyData.int)) = true := by
      have c1 : ∀ L : List Int, PyData.canLayAll0 (L.map PyData.int) = true := fun L => by
        induction L with
        | nil => rfl
        | cons x r ih => simp [PyData.canLayAll0, PyData.canLay0, ih]
      have c2 : ∀ L : List Int, PyData.depthAll (L.map PyData.int) = 0 := fun L => by
        induction L with
        | nil => rfl
        | cons x r ih => simp [PyData.depthAll, PyData.depth, ih]
      simp [SeqAt.shaped, PyData.canLay0, PyData.depth, c1, c2]
    refine ⟨.list (L1.map PyData.int), .list [], e1, .lst (.of upd_same) .nil, sh, by decide, _, rfl, ?_⟩
    cases L1 with
    | nil =>
      refine iteF ?_
      -- _law_turn = _law_stream_here[2] + 1
      refine ⟨.ref a, rfl, a, _, 2, .int m, rfl, rfl, .of d1.ha, atI_nat (j := 2) rfl, m, 1, rfl, rfl, ?_⟩
      -- _law_stream_here[2] = _law_turn
      refine ⟨.int (m + 1), rfl, .ref a, rfl, a, _, 2, 2, rfl, rfl, d1.ha, rfl, ?_⟩
      have hra : a ∈ (W1.new p (.lst [])).R := List.mem_of_getElem? d1.r0
      have hcn : c ≠ a := fun z => by
        have := d1.ok.rf a hra
        rw [← z, d1.hc] at this
        cases this
      have hc1 := d1.ok.sub _ _ d1.hc
      have go2 : Go W ((W1.new p (.lst [])).reg a (.lst [.ref b, .ref c, .int (m + 1)]) (W.g + 1)) := d1.go.trans (Go.reg' hra)
      have ok2 : Wok K ((W1.new p (.lst [])).reg a (.lst [.ref b, .ref c, .int (m + 1)]) (W.g + 1)) := by
        refine d1.ok.reg hra ⟨d1.ok.gh.1, fun hn => ⟨a, b, c, [], cs, m + 1, d1.r0, d1.r1, d1.ne, upd_same, (upd_ne d1.ne.symm).trans d1.hb, d1.hc, by have := d1.m0; omega, ?_, d1.cs0⟩⟩
        show m + 1 ≤ ((W.g : Nat) : Int) + 1
        have := d1.mn
        exact Int.add_le_add_right this 1
      have hA : (upd (upd W1.H p (.lst [])) a (.lst [.ref b, .ref c, .int (m + 1)])) a = some (.lst [.ref b, .ref c, .int (m + 1)]) := upd_same
      have hC : (upd (upd W1.H p (.lst [])) a (.lst [.ref b, .ref c, .int (m + 1)])) c = some (.lst (cs.map V.int)) := (upd_ne hcn).trans hc1
      have hm : m + 1 ≤ 2 ^ 60 := by
        have h1 := d1.mn
        have h2 : ((W.g : Nat) : Int) + 1 ≤ 2 ^ 60 := by
          have : ((W.g + 1 : Nat) : Int) ≤ ((2 ^ 60 : Nat) : Int) := Int.ofNat_le.mpr hg
          exact this
        omega
      have hm0' := d1.m0
      have clen : 0 < ((cs.map V.int).length : Int) := by
        rw [List.length_map]
        cases cs with
        | nil => exact absurd rfl d1.cs0
        | cons x r => rw [List.length_cons]; omega
      have ilt := Int.emod_lt_of_pos (m + 1) clen
      have ige := Int.emod_nonneg (m + 1) (show ((cs.map V.int).length : Int) ≠ 0 by omega)
      obtain ⟨j, hj⟩ := Int.eq_ofNat_of_zero_le ige
      have jlt : j < cs.length := by
        rw [List.length_map] at ilt
        rw [List.length_map] at hj
        omega
      have c0 := Int.emod_nonneg cs[j] (show (2147483587 : Int) ≠ 0 by decide)
      have c1 := Int.emod_lt_of_pos cs[j] (show (0 : Int) < 2147483587 by decide)
      have e64 : (2 : Int) ^ 64 = 18446744073709551616 := by decide
      have e60 : (2 : Int) ^ 60 = 1152921504606846976 := by decide
      have hix : atI (cs.map V.int) ((m + 1) % ((cs.map V.int).length : Int)) = some (.int cs[j]) := by
        rw [hj]
        exact atI_nat (by rw [List.getElem?_map, List.getElem?_eq_getElem jlt]; rfl)
      have c2 : -(2 ^ 64) < cs[j] % 2147483587 ∧ cs[j] % 2147483587 < 2 ^ 64 := ⟨by omega, by omega⟩
      have c3 : -(2 ^ 64) < m + 1 ∧ m + 1 < 2 ^ 64 := ⟨by omega, by omega⟩
      have d64 : ∀ y : Int, -(2 ^ 64) < y % 2147483647 ∧ y % 2147483647 < 2 ^ 64 := fun y => by
        have a1 := Int.emod_nonneg y (show (2147483647 : Int) ≠ 0 by decide)
        have a2 := Int.emod_lt_of_pos y (show (0 : Int) < 2147483647 by decide)
        exact ⟨by omega, by omega⟩
      -- _law_cell
      refine ⟨.ref a, rfl, a, _, 1, .ref c, rfl, rfl, .of hA, atI_nat (j := 1) rfl, .int (m + 1), rfl, .ref a, rfl, a, _, 1, .ref c, rfl, rfl, .of hA, atI_nat (j := 1) rfl, c, cs.map V.int, rfl, .inl (.of hC), ?_⟩
      refine ⟨m + 1, _, rfl, rfl, clen, c, cs.map V.int, _, .int cs[j], rfl, rfl, .of hC, hix, ?_⟩
      refine ⟨cs[j], 2147483587, rfl, rfl, (by decide : (0 : Int) < 2147483587), ?_⟩
      -- _law_mixed
      refine ⟨.int (cs[j] % 2147483587), rfl, .int (m + 1), rfl, _, m + 1, rfl, rfl, .inl ⟨by decide, by decide⟩, _, _, rfl, rfl, cs[j] % 2147483587, _, rfl, rfl, .inl c2, ?_⟩
      refine ⟨.int (m + 1), rfl, _, m + 1, rfl, rfl, .inl ⟨by decide, by decide⟩, .int (m + 1), rfl, _, m + 1, rfl, rfl, .inr c3, _, _, rfl, rfl, _, _, rfl, rfl, _, 2147483647, rfl, rfl, (by decide : (0 : Int) < 2147483647), ?_⟩
      refine ⟨_, rfl, _, rfl, _, _, rfl, rfl, .inl (d64 _), _, 2147483629, rfl, rfl, (by decide : (0 : Int) < 2147483629), _, 16, rfl, rfl, ⟨by decide, by decide⟩, .int many, rfl, _, many, rfl, rfl, hm0, ?_⟩
      exact hQ (.int _) (.int _) _ go2 ok2 (.int _) (hq _ (Int.emod_nonneg _ (by omega)) (Int.emod_lt_of_pos _ hm0))
    | cons x L1 =>
      refine iteT ⟨fun σ H => ∃ (W1 : Wd stg) (y : Option V), W1.H = H ∧ σ = [some (.ref a), some (.int many), y, none, none, none] ∧ DrawAt K W W1 a b c L1 cs m, ?_, ?_⟩
      · rintro σ' H' ⟨W3, y3, e1, e2, e3⟩
        exact ⟨L1.length, by rw [List.length_cons]; omega, W3, L1, y3, e1, rfl, e2, e3⟩
      have ix0 : ixN ((x :: L1).map V.int).length 0 = some 0 := by
        unfold ixN
        rw [if_pos (by decide), if_pos (by rw [List.length_map, List.length_cons]; omega)]
        rfl
      have sx0 := (ixN_seq ix0).1
      -- _law_rest = _law_stream_here[0][0]
      refine ⟨.ref a, rfl, a, _, 0, .ref b, rfl, rfl, .of d1.ha, atI_nat (j := 0) rfl, b, _, 0, .int x, rfl, rfl, .of d1.hb, atI_nat (j := 0) rfl, ?_⟩
      refine ⟨.int x, rfl, x, 0, rfl, rfl, _, rfl, ite2 (fun hx => ?_) (fun hx => ?_)⟩
      · -- _law_stream_here[0][0] = _law_rest // _law_many
        refine ⟨.int x, rfl, .int many, rfl, x, many, rfl, rfl, ⟨hm0, hml⟩, .ref a, rfl, a, _, 0, .ref b, rfl, rfl, .of d1.ha, atI_nat (j := 0) rfl, b, _, 0, 0, rfl, rfl, d1.hb, ix0, ?_⟩
        refine ⟨.int x, rfl, .int many, rfl, x, many, rfl, rfl, hm0, ?_⟩
        have d2 := d1.setB (x / many :: L1)
        have le1 : ((W1.new p (.lst [])).reg b (.lst ((x / many :: L1).map V.int)) (W1.new p (.lst [])).g).g ≤ W.g + 1 := by
          show W1.g ≤ W.g + 1
          rw [show W1.g = W.g from d.g]
          exact Nat.le_succ _
        exact hQ (.int (x % many)) (.int (x % many)) _ (d2.go.trans (go_more (n := W.g + 1))) (wok_more d2.ok le1) (.int _) (hq _ (Int.emod_nonneg _ (by omega)) (Int.emod_lt_of_pos _ hm0))
      · -- _law_stream_here[0].pop(0)
        refine ⟨.ref a, rfl, a, _, 0, .ref b, rfl, rfl, .of d1.ha, atI_nat (j := 0) rfl, .inl ⟨rfl, _, .of d1.hb⟩, b, _, 0, 0, .int x, rfl, rfl, d1.hb, by decide, by decide, sx0, rfl, ?_⟩
        exact ⟨_, some (.int x), rfl, rfl, d1.setB L1⟩
end
abbrev s_tail_order : Stmt := topS 12
abbrev s_ranks_in : Stmt := topS 13
abbrev s_tail_ranks : Stmt := topS 14
abbrev s_ranks_of : Stmt := topS 16
abbrev s_strict_steps : Stmt := topS 17
abbrev s_factor_places : Stmt := topS 19
abbrev s_is_whole : Stmt := topS 22
abbrev s_is_wish : Stmt := topS 23
abbrev s_values_of : Stmt := topS 24
abbrev s_select : Stmt := topS 25
abbrev s_l_pick : Stmt := topS 29
abbrev s_l_odd : Stmt := topS 30
abbrev s_l_drawn : Stmt := topS 31
abbrev s_l_alone : Stmt := topS 32
abbrev s_l_called : Stmt := topS 33
abbrev s_l_told : Stmt := topS 34
abbrev s_l_is_right : Stmt := topS 35
abbrev s_l_due : Stmt := topS 36
abbrev s_law : Stmt := topS 37
theorem sc_tail_order : FnScope ["word", "tail", "place"] ["word"] (defScope s_tail_order) := ⟨rfl, rfl, rfl, by decide +kernel, rfl, by decide +kernel, by decide +kernel⟩
def w_tail_order (ex : Exn → stg.G → Prop) : SW stg :=
  (wRet (wCB cTuple (wACons (wL (wLc (wItems (wL (wCN cSortedTI (wACons (wL (wLc (wRng1 (wCB cLen (wACons (wVar 0) wANil))) (gwN 2) wYes (wTup (wACons (wSl (wVar 0) (wOSome (wVar 2)) wONone) (wACons (wVar 2) wANil))) [2])) wANil)))) (gwT 2 (gwCons (gwN 1) (gwCons (gwN 2) gwNil))) wYes (wVar 2) [1, 2])) wANil)))
theorem ok_tail_order {P : Program} {w : World} {K : PySem.W.Frag} {mg : Str → Option Value} {base : Heap} {f : Addr} {fd : FuncData} (F : Fun K "tail_order" "tail_order" s_tail_order f fd) (g : mg "tail_order" = some (.ref f)) (m_len : mg "len" = none) (m_range : mg "range" = none) (m_sorted : mg "sorted" = none) (m_tuple : mg "tuple" = none)
    (hp : ∀ (ds : List D) (g : Nat) (q : D → Nat → Prop) (ex : Exn → Nat → Prop), ds.length = 1 → d_tail_order ds g q ex → w_tail_order ex (kEndS q) (startD ["word", "tail", "place"] ds) g) : FnB P w K mg base 1 "tail_order" ["word"] (liftSp K mg 1 d_tail_order) :=
  fnB_of F g (fnS_of (wb := w_tail_order) F sc_tail_order (fun cdv A outer s H E W0 ex hr hgd tk => (dss_one (ds_ret (de_callTy calld_tuple (by rfl) m_tuple (by decide +kernel) (dap_cons (DN.p (dn_lc (own := [("tail", 1), ("place", 2)]) rfl sc_tail_order.nd (di_seq (DN.fr (dn_callB calln_sortedTI (by rfl) m_sorted (by decide +kernel) (dap_cons (DN.p (dn_lc (own := [("place", 2)]) rfl sc_tail_order.nd (di_range1 m_range (de_callB calld_len (by rfl) m_len (by decide +kernel) (dap_cons (DE.p (de_var (pv 0))) dap_nil))) (blkOk_by (own := [("place", 2)]) (N := ["word", "tail", "place"]) (sc := defScope s_tail_order) (by decide +kernel)) (by decide) (fun _ _ _ _ _ => (dg_name (pg_name (i := 2) sc_tail_order.nd rfl (Or.inl rfl)))) (fun _ _ _ _ _ => dts_nil) (fun _ _ _ _ _ => (de_tup (da_cons (de_slice (DE.p (de_var (pv 0))) (do_some (de_var (pv 2))) do_none) (da_cons (de_var (pv 2)) da_nil)))))) dap_nil)))) (blkOk_by (own := [("tail", 1), ("place", 2)]) (N := ["word", "tail", "place"]) (sc := defScope s_tail_order) (by decide +kernel)) (by decide) (fun _ _ _ _ _ => (dg_tup rfl (dgs_cons (dg_name (pg_name (i := 1) sc_tail_order.nd rfl (Or.inl rfl))) (dgs_cons (dg_name (pg_name (i := 2) sc_tail_order.nd rfl (Or.inl rfl))) dgs_nil)))) (fun _ _ _ _ _ => dts_nil) (fun _ _ _ _ _ => (de_var (pv 2))))) dap_nil))))) hp) (F.binds (ps := ["word"]) fun _ _ _ _ _ _ us hl => match us, hl with | [_], _ => rfl)
theorem sc_ranks_in : FnScope ["order", "ranks", "rank", "place"] ["order"] (defScope s_ranks_in) := ⟨rfl, rfl, rfl, by decide +kernel, rfl, by decide +kernel, by decide +kernel⟩
def w_ranks_in (ex : Exn → stg.G → Prop) : SW stg :=
  (wSeq (wSet 1 (wO (wBinN oRep (wL (wLst (wACons (wC (.int 0)) wANil))) (wCB cLen (wACons (wVar 0) wANil)))))
    (wSeq (wFor (wEnum (wVar 0)) (gwT 2 (gwCons (gwN 2) (gwCons (gwN 3) gwNil))) (wStore 1 (wVar 2) (wVar 3)))
    (wRet (wCB cTuple (wACons (wPk 1) wANil)))))
theorem ok_ranks_in {P : Program} {w : World} {K : PySem.W.Frag} {mg : Str → Option Value} {base : Heap} {f : Addr} {fd : FuncData} (F : Fun K "ranks_in" "ranks_in" s_ranks_in f fd) (g : mg "ranks_in" = some (.ref f)) (m_enumerate : mg "enumerate" = none) (m_len : mg "len" = none) (m_tuple : mg "tuple" = none)
    (hp : ∀ (ds : List D) (g : Nat) (q : D → Nat → Prop) (ex : Exn → Nat → Prop), ds.length = 1 → d_ranks_in ds g q ex → w_ranks_in ex (kEndS q) (startD ["order", "ranks", "rank", "place"] ds) g) : FnB P w K mg base 1 "ranks_in" ["order"] (liftSp K mg 1 d_ranks_in) :=
  fnB_of F g (fnS_of (wb := w_ranks_in) F sc_ranks_in (fun cdv A outer s H E W0 ex hr hgd tk => (dss_cons (ds_set (i := 1) sc_ranks_in.nd rfl (.inl rfl) (DN.v (dn_op opn_rep (DN.p (dn_lst (da_cons de_int da_nil))) (DE.p (de_callB calld_len (by rfl) m_len (by decide +kernel) (dap_cons (DE.p (de_var (pv 0))) dap_nil))))))
      (dss_cons (ds_for (passes_of rfl) rfl (di_enum m_enumerate (de_var (pv 0))) (dg_tup rfl (dgs_cons (dg_name (pg_name (i := 2) sc_ranks_in.nd rfl (Or.inl rfl))) (dgs_cons (dg_name (pg_name (i := 3) sc_ranks_in.nd rfl (Or.inl rfl))) dgs_nil))) (dss_one (ds_store (i := 1) (pv 1) (de_var (pv 2)) (de_var (pv 3)))))
      (dss_one (ds_ret (de_callTy calld_tuple (by rfl) m_tuple (by decide +kernel) (dap_cons (dp_own (pv 1)) dap_nil))))))) hp) (F.binds (ps := ["order"]) fun _ _ _ _ _ _ us hl => match us, hl with | [_], _ => rfl)
theorem sc_tail_ranks : FnScope ["word"] ["word"] (defScope s_tail_ranks) := ⟨rfl, rfl, rfl, by decide +kernel, rfl, by decide +kernel, by decide +kernel⟩
def w_tail_ranks (ex : Exn → stg.G → Prop) : SW stg :=
  (wRet (wCallB 1 d_ranks_in (wACons (wCallB 1 d_tail_order (wACons (wVar 0) wANil) (xk ex)) wANil) (xk ex)))
theorem ok_tail_ranks {P : Program} {w : World} {K : PySem.W.Frag} {mg : Str → Option Value} {base : Heap} {f : Addr} {fd : FuncData} (F : Fun K "tail_ranks" "tail_ranks" s_tail_ranks f fd) (g : mg "tail_ranks" = some (.ref f)) (F_tail_order : FnB P w K mg base 1 "tail_order" ["word"] (liftSp K mg 1 d_tail_order)) (F_ranks_in : FnB P w K mg base 1 "ranks_in" ["order"] (liftSp K mg 1 d_ranks_in))
    (hp : ∀ (ds : List D) (g : Nat) (q : D → Nat → Prop) (ex : Exn → Nat → Prop), ds.length = 1 → d_tail_ranks ds g q ex → w_tail_ranks ex (kEndS q) (startD ["word"] ds) g) : FnB P w K mg base 2 "tail_ranks" ["word"] (liftSp K mg 1 d_tail_ranks) :=
  fnB_of F g (fnS_of (wb := w_tail_ranks) F sc_tail_ranks (fun cdv A outer s H E W0 ex hr hgd tk => (dss_one (ds_ret (de_callF F_ranks_in hgd hr tk (da_cons (de_callF F_tail_order hgd hr tk (da_cons (de_var (pv 0)) da_nil)) da_nil))))) hp) (F.binds (ps := ["word"]) fun _ _ _ _ _ _ us hl => match us, hl with | [_], _ => rfl)
theorem sc_ranks_of : FnScope ["order"] ["order"] (defScope s_ranks_of) := ⟨rfl, rfl, rfl, by decide +kernel, rfl, by decide +kernel, by decide +kernel⟩
def w_ranks_of (ex : Exn → stg.G → Prop) : SW stg :=
  (wRet (wCallB 1 d_ranks_in (wACons (wVar 0) wANil) (xk ex)))
theorem ok_ranks_of {P : Program} {w : World} {K : PySem.W.Frag} {mg : Str → Option Value} {base : Heap} {f : Addr} {fd : FuncData} (F : Fun K "ranks_of" "ranks_of" s_ranks_of f fd) (g : mg "ranks_of" = some (.ref f)) (F_ranks_in : FnB P w K mg base 1 "ranks_in" ["order"] (liftSp K mg 1 d_ranks_in))
    (hp : ∀ (ds : List D) (g : Nat) (q : D → Nat → Prop) (ex : Exn → Nat → Prop), ds.length = 1 → d_ranks_of ds g q ex → w_ranks_of ex (kEndS q) (startD ["order"] ds) g) : FnB P w K mg base 2 "ranks_of" ["order"] (liftSp K mg 1 d_ranks_of) :=
  fnB_of F g (fnS_of (wb := w_ranks_of) F sc_ranks_of (fun cdv A outer s H E W0 ex hr hgd tk => (dss_one (ds_ret (de_callF F_ranks_in hgd hr tk (da_cons (de_var (pv 0)) da_nil))))) hp) (F.binds (ps := ["order"]) fun _ _ _ _ _ _ us hl => match us, hl with | [_], _ => rfl)
theorem sc_strict_steps : FnScope ["order", "ranks", "steps", "index", "one", "other"] ["order"] (defScope s_strict_steps) := ⟨rfl, rfl, rfl, by decide +kernel, rfl, by decide +kernel, by decide +kernel⟩
def w_strict_steps (ex : Exn → stg.G → Prop) : SW stg :=
  (wSeq (wSet 1 (wI (wTup (wAStar (wCallB 1 d_ranks_in (wACons (wVar 0) wANil) (xk ex)) (wACons (wNeg (wC (.int 1))) wANil)))))
    (wSeq (wSet 2 (wI (wL (wListI (wEnZip (wVar 0) (wSl (wVar 0) (wOSome (wC (.int 1))) wONone))))))
    (wRet (wCB cTuple (wACons (wL (wLc (wItems (wVar 2)) (gwT 2 (gwCons (gwN 3) (gwCons (gwT 2 (gwCons (gwN 4) (gwCons (gwN 5) gwNil))) gwNil))) (wB (wBin oGt (wBin oIx (wVar 1) (wBin oAdd (wVar 4) (wC (.int 1)))) (wBin oIx (wVar 1) (wBin oAdd (wVar 5) (wC (.int 1)))))) (wBin oAdd (wVar 3) (wC (.int 1))) [3, 4, 5])) wANil)))))
theorem ok_strict_steps {P : Program} {w : World} {K : PySem.W.Frag} {mg : Str → Option Value} {base : Heap} {f : Addr} {fd : FuncData} (F : Fun K "strict_steps" "strict_steps" s_strict_steps f fd) (g : mg "strict_steps" = some (.ref f)) (F_ranks_in : FnB P w K mg base 1 "ranks_in" ["order"] (liftSp K mg 1 d_ranks_in)) (m_enumerate : mg "enumerate" = none) (m_list : mg "list" = none) (m_tuple : mg "tuple" = none) (m_zip : mg "zip" = none)
    (hp : ∀ (ds : List D) (g : Nat) (q : D → Nat → Prop) (ex : Exn → Nat → Prop), ds.length = 1 → d_strict_steps ds g q ex → w_strict_steps ex (kEndS q) (startD ["order", "ranks", "steps", "index", "one", "other"] ds) g) : FnB P w K mg base 2 "strict_steps" ["order"] (liftSp K mg 1 d_strict_steps) :=
  fnB_of F g (fnS_of (wb := w_strict_steps) F sc_strict_steps (fun cdv A outer s H E W0 ex hr hgd tk => (dss_cons (ds_set (i := 1) sc_strict_steps.nd rfl (.inr rfl) (DE.v (de_tup (da_star (DE.p (de_callF F_ranks_in hgd hr tk (da_cons (de_var (pv 0)) da_nil))) (da_cons (de_neg de_int) da_nil)))))
      (dss_cons (ds_set (i := 2) sc_strict_steps.nd rfl (.inl rfl) (DE.v (DN.fr (dn_listI rfl m_list (dj_enzip m_enumerate m_zip (de_var (pv 0)) (de_slice (DE.p (de_var (pv 0))) (do_some de_int) do_none))))))
      (dss_one (ds_ret (de_callTy calld_tuple (by rfl) m_tuple (by decide +kernel) (dap_cons (DN.p (dn_lc (own := [("index", 3), ("one", 4), ("other", 5)]) rfl sc_strict_steps.nd (di_seq (de_var (pv 2))) (blkOk_by (own := [("index", 3), ("one", 4), ("other", 5)]) (N := ["order", "ranks", "steps", "index", "one", "other"]) (sc := defScope s_strict_steps) (by decide +kernel)) (by decide) (fun _ _ _ _ _ => (dg_tup rfl (dgs_cons (dg_name (pg_name (i := 3) sc_strict_steps.nd rfl (Or.inl rfl))) (dgs_cons (dg_tup rfl (dgs_cons (dg_name (pg_name (i := 4) sc_strict_steps.nd rfl (Or.inl rfl))) (dgs_cons (dg_name (pg_name (i := 5) sc_strict_steps.nd rfl (Or.inl rfl))) dgs_nil))) dgs_nil)))) (fun _ _ _ _ _ => (dts_one (dt_cmp opd_gt (DE.p (de_ix (DE.p (de_var (pv 1))) (DE.p (de_op opd_add (DE.p (de_var (pv 4))) (DE.p de_int))) (fun _ _ => rfl))) (DE.p (de_ix (DE.p (de_var (pv 1))) (DE.p (de_op opd_add (DE.p (de_var (pv 5))) (DE.p de_int))) (fun _ _ => rfl))) (nomark _)))) (fun _ _ _ _ _ => (de_op opd_add (DE.p (de_var (pv 3))) (DE.p de_int))))) dap_nil))))))) hp) (F.binds (ps := ["order"]) fun _ _ _ _ _ _ us hl => match us, hl with | [_], _ => rfl)
theorem sc_factor_places : FnScope ["order", "found", "least", "place", "rank"] ["order"] (defScope s_factor_places) := ⟨rfl, rfl, rfl, by decide +kernel, rfl, by decide +kernel, by decide +kernel⟩
def w_factor_places (ex : Exn → stg.G → Prop) : SW stg :=
  (wSeq (wPar 1 2 (wO (wLst wANil)) (wI (wCB cLen (wACons (wVar 0) wANil))))
    (wSeq (wFor (wEnum (wCallB 1 d_ranks_of (wACons (wVar 0) wANil) (xk ex))) (gwT 2 (gwCons (gwN 3) (gwCons (gwN 4) gwNil))) (wIfS (wB (wBin oLt (wVar 4) (wVar 2))) (wSeq (wApp 1 (wVar 3))
    (wSet 2 (wI (wVar 4)))) wNext))
    (wRet (wCB cTuple (wACons (wPk 1) wANil)))))
theorem ok_factor_places {P : Program} {w : World} {K : PySem.W.Frag} {mg : Str → Option Value} {base : Heap} {f : Addr} {fd : FuncData} (F : Fun K "factor_places" "factor_places" s_factor_places f fd) (g : mg "factor_places" = some (.ref f)) (F_ranks_of : FnB P w K mg base 2 "ranks_of" ["order"] (liftSp K mg 1 d_ranks_of)) (m_enumerate : mg "enumerate" = none) (m_len : mg "len" = none) (m_tuple : mg "tuple" = none)
    (hp : ∀ (ds : List D) (g : Nat) (q : D → Nat → Prop) (ex : Exn → Nat → Prop), ds.length = 1 → d_factor_places ds g q ex → w_factor_places ex (kEndS q) (startD ["order", "found", "least", "place", "rank"] ds) g) : FnB P w K mg base 3 "factor_places" ["order"] (liftSp K mg 1 d_factor_places) :=
  fnB_of F g (fnS_of (wb := w_factor_places) F sc_factor_places (fun cdv A outer s H E W0 ex hr hgd tk => (dss_cons (ds_par (i := 1) (j := 2) rfl sc_factor_places.nd rfl rfl (by decide) rfl rfl (DN.v (dn_lst da_nil)) (DE.v (de_callB calld_len (by rfl) m_len (by decide +kernel) (dap_cons (DE.p (de_var (pv 0))) dap_nil))))
      (dss_cons (ds_for (passes_of rfl) rfl (di_enum m_enumerate (de_callF F_ranks_of hgd hr tk (da_cons (de_var (pv 0)) da_nil))) (dg_tup rfl (dgs_cons (dg_name (pg_name (i := 3) sc_factor_places.nd rfl (Or.inl rfl))) (dgs_cons (dg_name (pg_name (i := 4) sc_factor_places.nd rfl (Or.inl rfl))) dgs_nil))) (dss_one (ds_if (dt_cmp opd_lt (DE.p (de_var (pv 4))) (DE.p (de_var (pv 2))) (nomark _)) (dss_cons (ds_append (i := 1) (pv 1) (de_var (pv 3)))
      (dss_one (ds_set (i := 2) sc_factor_places.nd rfl (.inl rfl) (DE.v (de_var (pv 4)))))) dss_nil)))
      (dss_one (ds_ret (de_callTy calld_tuple (by rfl) m_tuple (by decide +kernel) (dap_cons (dp_own (pv 1)) dap_nil))))))) hp) (F.binds (ps := ["order"]) fun _ _ _ _ _ _ us hl => match us, hl with | [_], _ => rfl)
theorem sc_is_whole : FnScope ["value"] ["value"] (defScope s_is_whole) := ⟨rfl, rfl, rfl, by decide +kernel, rfl, by decide +kernel, by decide +kernel⟩
def w_is_whole (ex : Exn → stg.G → Prop) : SW stg :=
  (wRet (wAndV (wIsi "int" (wVar 0)) (wNotV (wIsi "bool" (wVar 0)))))
theorem ok_is_whole {P : Program} {w : World} {K : PySem.W.Frag} {mg : Str → Option Value} {base : Heap} {f : Addr} {fd : FuncData} (F : Fun K "is_whole" "is_whole" s_is_whole f fd) (g : mg "is_whole" = some (.ref f)) (m_bool : mg "bool" = none) (m_int : mg "int" = none) (m_isinstance : mg "isinstance" = none)
    (hp : ∀ (ds : List D) (g : Nat) (q : D → Nat → Prop) (ex : Exn → Nat → Prop), ds.length = 1 → d_is_whole ds g q ex → w_is_whole ex (kEndS q) (startD ["value"] ds) g) : FnB P w K mg base 1 "is_whole" ["value"] (liftSp K mg 1 d_is_whole) :=
  fnB_of F g (fnS_of (wb := w_is_whole) F sc_is_whole (fun cdv A outer s H E W0 ex hr hgd tk => (dss_one (ds_ret (de_and (de_isi kit_int (DE.p (de_var (pv 0))) m_isinstance m_int (by decide +kernel)) (de_one (de_not (de_isi kit_bool (DE.p (de_var (pv 0))) m_isinstance m_bool (by decide +kernel)))))))) hp) (F.binds (ps := ["value"]) fun _ _ _ _ _ _ us hl => match us, hl with | [_], _ => rfl)
theorem sc_is_wish : FnScope ["name", "value"] ["name", "value"] (defScope s_is_wish) := ⟨rfl, rfl, rfl, by decide +kernel, rfl, by decide +kernel, by decide +kernel⟩
def w_is_wish (ex : Exn → stg.G → Prop) : SW stg :=
  (wMatch (wVar 0) (wCase [108, 101, 116, 116, 101, 114] (wRet (wAndV (wIsi "str" (wVar 1)) (wAndV (wBin oEq (wCB cLen (wACons (wVar 1) wANil)) (wC (.int 1))) (wBin oIn (wVar 1) (wC (.str [97, 98, 99, 100, 101, 102, 103, 104, 105, 106, 107, 108, 109, 110, 111, 112, 113, 114, 115, 116, 117, 118, 119, 120, 121, 122])))))) (wCase [114, 97, 110, 107] (wRet (wCallB 1 d_is_whole (wACons (wVar 1) wANil) (xk ex))) (fun _ => (wRet (wIsi "bool" (wVar 1)))))))
theorem ok_is_wish {P : Program} {w : World} {K : PySem.W.Frag} {mg : Str → Option Value} {base : Heap} {f : Addr} {fd : FuncData} (F : Fun K "is_wish" "is_wish" s_is_wish f fd) (g : mg "is_wish" = some (.ref f)) (F_is_whole : FnB P w K mg base 1 "is_whole" ["value"] (liftSp K mg 1 d_is_whole)) (m_bool : mg "bool" = none) (m_isinstance : mg "isinstance" = none) (m_len : mg "len" = none) (m_str : mg "str" = none) (c_LETTERS : GlS (mg "LETTERS") [97, 98, 99, 100, 101, 102, 103, 104, 105, 106, 107, 108, 109, 110, 111, 112, 113, 114, 115, 116, 117, 118, 119, 120, 121, 122])
    (hp : ∀ (ds : List D) (g : Nat) (q : D → Nat → Prop) (ex : Exn → Nat → Prop), ds.length = 2 → d_is_wish ds g q ex → w_is_wish ex (kEndS q) (startD ["name", "value"] ds) g) : FnB P w K mg base 2 "is_wish" ["name", "value"] (liftSp K mg 2 d_is_wish) :=
  fnB_of F g (fnS_of (wb := w_is_wish) F sc_is_wish (fun cdv A outer s H E W0 ex hr hgd tk => (dss_one (ds_match (de_var (pv 0)) (dcs_str [108, 101, 116, 116, 101, 114] (dss_one (ds_ret (de_and (de_isi kit_str (DE.p (de_var (pv 1))) m_isinstance m_str (by decide +kernel)) (de_and (de_cmp (opd_eq hr.units) (DE.p (de_callB calld_len (by rfl) m_len (by decide +kernel) (dap_cons (DE.p (de_var (pv 1))) dap_nil))) (DE.p de_int) (nomark _)) (de_one (de_cmp opd_in (DE.p (de_var (pv 1))) (DE.p (de_glS c_LETTERS)) rfl)))))) (dcs_str [114, 97, 110, 107] (dss_one (ds_ret (de_callF F_is_whole hgd hr tk (da_cons (de_var (pv 1)) da_nil)))) (dcs_last (dss_one (ds_ret (de_isi kit_bool (DE.p (de_var (pv 1))) m_isinstance m_bool (by decide +kernel)))))))))) hp) (F.binds (ps := ["name", "value"]) fun _ _ _ _ _ _ us hl => match us, hl with | [_, _], _ => rfl)
theorem sc_values_of : FnScope ["word", "name", "order", "place", "rank"] ["word", "name"] (defScope s_values_of) := ⟨rfl, rfl, rfl, by decide +kernel, rfl, by decide +kernel, by decide +kernel⟩
def w_values_of (ex : Exn → stg.G → Prop) : SW stg :=
  (wSeq (wSet 2 (wI (wCallB 1 d_tail_order (wACons (wVar 0) wANil) (xk ex))))
    (wMatch (wVar 1) (wCase [108, 101, 116, 116, 101, 114] (wRet (wL (wCN cListX (wACons (wVar 0) wANil)))) (wCase [114, 97, 110, 107] (wRet (wL (wCN cListX (wACons (wCallB 1 d_tail_ranks (wACons (wVar 0) wANil) (xk ex)) wANil)))) (wCase [102, 97, 99, 116, 111, 114] (wRet (wL (wLc (wRng1 (wCB cLen (wACons (wVar 0) wANil))) (gwN 3) wYes (wBin oIn (wVar 3) (wCallB 1 d_factor_places (wACons (wVar 2) wANil) xno)) [3]))) (fun _ => (wRet (wL (wLc (wItems (wCallB 1 d_tail_ranks (wACons (wVar 0) wANil) (xk ex))) (gwN 4) wYes (wBin oIn (wVar 4) (wCallB 1 d_strict_steps (wACons (wVar 2) wANil) xno)) [4])))))))))
theorem ok_values_of {P : Program} {w : World} {K : PySem.W.Frag} {mg : Str → Option Value} {base : Heap} {f : Addr} {fd : FuncData} (F : Fun K "values_of" "values_of" s_values_of f fd) (g : mg "values_of" = some (.ref f)) (F_tail_order : FnB P w K mg base 1 "tail_order" ["word"] (liftSp K mg 1 d_tail_order)) (F_tail_ranks : FnB P w K mg base 2 "tail_ranks" ["word"] (liftSp K mg 1 d_tail_ranks)) (F_strict_steps : FnB P w K mg base 2 "strict_steps" ["order"] (liftSp K mg 1 d_strict_steps)) (F_factor_places : FnB P w K mg base 3 "factor_places" ["order"] (liftSp K mg 1 d_factor_places)) (m_len : mg "len" = none) (m_list : mg "list" = none) (m_range : mg "range" = none)
    (hp : ∀ (ds : List D) (g : Nat) (q : D → Nat → Prop) (ex : Exn → Nat → Prop), ds.length = 2 → d_values_of ds g q ex → w_values_of ex (kEndS q) (startD ["word", "name", "order", "place", "rank"] ds) g) : FnB P w K mg base 4 "values_of" ["word", "name"] (liftSp K mg 2 d_values_of) :=
  fnB_of F g (fnS_of (wb := w_values_of) F sc_values_of (fun cdv A outer s H E W0 ex hr hgd tk => (dss_cons (ds_set (i := 2) sc_values_of.nd rfl (.inr rfl) (DE.v (de_callF F_tail_order hgd (hr.mono (by decide)) tk (da_cons (de_var (pv 0)) da_nil))))
      (dss_one (ds_match (de_var (pv 1)) (dcs_str [108, 101, 116, 116, 101, 114] (dss_one (ds_ret (DN.fr (dn_callTy (calln_listX rfl) (by rfl) m_list (by decide +kernel) (dap_cons (DE.p (de_var (pv 0))) dap_nil))))) (dcs_str [114, 97, 110, 107] (dss_one (ds_ret (DN.fr (dn_callTy (calln_listX rfl) (by rfl) m_list (by decide +kernel) (dap_cons (DE.p (de_callF F_tail_ranks hgd (hr.mono (by decide)) tk (da_cons (de_var (pv 0)) da_nil))) dap_nil))))) (dcs_str [102, 97, 99, 116, 111, 114] (dss_one (ds_ret (DN.fr (dn_lc (own := [("place", 3)]) rfl sc_values_of.nd (di_range1 m_range (de_callB calld_len (by rfl) m_len (by decide +kernel) (dap_cons (DE.p (de_var (pv 0))) dap_nil))) (blkOk_by (own := [("place", 3)]) (N := ["word", "name", "order", "place", "rank"]) (sc := defScope s_values_of) (by decide +kernel)) (by decide) (fun _ _ _ _ _ => (dg_name (pg_name (i := 3) sc_values_of.nd rfl (Or.inl rfl)))) (fun _ _ _ _ _ => dts_nil) (fun _ _ _ _ _ => (de_cmp opd_in (DE.p (de_var (pv 3))) (DE.p (de_callF F_factor_places hgd hr takesD_blk (da_cons (de_var (pv 2)) da_nil))) rfl)))))) (dcs_last (dss_one (ds_ret (DN.fr (dn_lc (own := [("rank", 4)]) rfl sc_values_of.nd (di_seq (de_callF F_tail_ranks hgd (hr.mono (by decide)) tk (da_cons (de_var (pv 0)) da_nil))) (blkOk_by (own := [("rank", 4)]) (N := ["word", "name", "order", "place", "rank"]) (sc := defScope s_values_of) (by decide +kernel)) (by decide) (fun _ _ _ _ _ => (dg_name (pg_name (i := 4) sc_values_of.nd rfl (Or.inl rfl)))) (fun _ _ _ _ _ => dts_nil) (fun _ _ _ _ _ => (de_cmp opd_in (DE.p (de_var (pv 4))) (DE.p (de_callF F_strict_steps hgd (hr.mono (by decide)) takesD_blk (da_cons (de_var (pv 2)) da_nil))) rfl)))))))))))))) hp) (F.binds (ps := ["word", "name"]) fun _ _ _ _ _ _ us hl => match us, hl with | [_, _], _ => rfl)
abbrev KS_select : List (List Str) := [["order", "rank"], ["letter"], ["rank", "letter"], ["strict", "rank", "factor"], ["factor", "letter", "strict", "rank"], ["rank", "strict", "letter", "factor"], ["colour"], ["rank", "Rank"], ["weight", "colour", "letter"], ["factor", "begins", "shade"], ["place"], ["letter", "tail"]]
theorem sc_select : FnScope ["word", "wanted", "name", "found", "value", "values", "place"] ["word", "wanted"] (defScope s_select) := ⟨rfl, rfl, rfl, by decide +kernel, rfl, by decide +kernel, by decide +kernel⟩
def w_select (ex : Exn → stq.G → Prop) : SW stq :=
  (wSeq (wForP (wKwKeys (wVar 1)) (gwN 2) (wIfS (wB (wBin oNotIn (wVar 2) (wTup (wACons (wC (.str [108, 101, 116, 116, 101, 114])) (wACons (wC (.str [114, 97, 110, 107])) (wACons (wC (.str [102, 97, 99, 116, 111, 114])) (wACons (wC (.str [115, 116, 114, 105, 99, 116])) wANil))))))) (wRaise "NoProperty" "name" (wVar 2) (xk ex)) wNext))
    (wSeq (wSet 3 (wI (wL (wRgL1 (wCB cLen (wACons (wVar 0) wANil))))))
    (wSeq (wForP (wKwItems (wVar 1)) (gwT 2 (gwCons (gwN 2) (gwCons (gwN 4) gwNil))) (wSeq (wIfS (wNot (wB (wCallB 2 (lq d_is_wish) (wACons (wVar 2) (wACons (wVar 4) wANil)) (xk ex)))) (wRaise "BadWish" "value" (wVar 4) (xk ex)) wNext)
    (wSeq (wSet 5 (wI (wCallB 2 (lq d_values_of) (wACons (wVar 0) (wACons (wVar 2) wANil)) (xk ex))))
    (wSet 3 (wI (wL (wLc (wItems (wVar 3)) (gwN 6) (wB (wBin oEq (wBin oIx (wVar 5) (wVar 6)) (wVar 4))) (wVar 6) [6])))))))
    (wRet (wCB cTuple (wACons (wVar 3) wANil))))))
theorem ok_select {P : Program} {w : World} {K : PySem.W.Frag} {mg : Str → Option Value} {base : Heap} {f : Addr} {fd : FuncData} (F : Fun K "select" "select" s_select f fd) (g : mg "select" = some (.ref f)) (F_is_wish : FnB P w K mg base 2 "is_wish" ["name", "value"] (liftSp K mg 2 (lq d_is_wish))) (F_values_of : FnB P w K mg base 4 "values_of" ["word", "name"] (liftSp K mg 2 (lq d_values_of))) (m_len : mg "len" = none) (m_list : mg "list" = none) (m_range : mg "range" = none) (m_tuple : mg "tuple" = none) (xr_NoProperty : RaisesF K "NoProperty" "name") (xr_BadWish : RaisesF K "BadWish" "value")
    (hp : ∀ (d : D) (o : Obj) (kvs : List (Key × V)) (kds : List (Key × D)) (g : Gq) (q : D → Gq → Prop) (ex : Exn → Gq → Prop), d_select55 d kds g q ex → w_select ex (kEndQ q) (startD ["word", "wanted", "name", "found", "value", "values", "place"] [d, .ob g.S.length]) ⟨g.n, g.S ++ [.kw o kvs kds]⟩) : FnKwB P w K mg base 5 "select" KS_select (liftKw K d_select55) :=
  fnKwB_of F g (fnKw_of (wb := w_select) F sc_select (all_cons (kwB_of F fun _ _ _ _ _ _ u vs hl => match vs, hl with | [_, _], _ => rfl) (all_cons (kwB_of F fun _ _ _ _ _ _ u vs hl => match vs, hl with | [_], _ => rfl) (all_cons (kwB_of F fun _ _ _ _ _ _ u vs hl => match vs, hl with | [_, _], _ => rfl) (all_cons (kwB_of F fun _ _ _ _ _ _ u vs hl => match vs, hl with | [_, _, _], _ => rfl) (all_cons (kwB_of F fun _ _ _ _ _ _ u vs hl => match vs, hl with | [_, _, _, _], _ => rfl) (all_cons (kwB_of F fun _ _ _ _ _ _ u vs hl => match vs, hl with | [_, _, _, _], _ => rfl) (all_cons (kwB_of F fun _ _ _ _ _ _ u vs hl => match vs, hl with | [_], _ => rfl) (all_cons (kwB_of F fun _ _ _ _ _ _ u vs hl => match vs, hl with | [_, _], _ => rfl) (all_cons (kwB_of F fun _ _ _ _ _ _ u vs hl => match vs, hl with | [_, _, _], _ => rfl) (all_cons (kwB_of F fun _ _ _ _ _ _ u vs hl => match vs, hl with | [_, _, _], _ => rfl) (all_cons (kwB_of F fun _ _ _ _ _ _ u vs hl => match vs, hl with | [_], _ => rfl) (all_cons (kwB_of F fun _ _ _ _ _ _ u vs hl => match vs, hl with | [_, _], _ => rfl) all_nil)))))))))))) (by decide) (fun cdv A outer s H E W0 ex hr hgd tk => (dss_cons (ds_forP (passes_of rfl) rfl (di_kwKeys (de_var (pv 1))) (dg_name (pg_name (i := 2) sc_select.nd rfl (Or.inl rfl))) (dss_one (ds_if (dt_cmp opd_notIn (DE.p (de_var (pv 2))) (DE.p (de_tup (da_cons (de_str [108, 101, 116, 116, 101, 114]) (da_cons (de_str [114, 97, 110, 107]) (da_cons (de_str [102, 97, 99, 116, 111, 114]) (da_cons (de_str [115, 116, 114, 105, 99, 116]) da_nil)))))) rfl) (dss_one (ds_raise xr_NoProperty rfl hr tk (de_var (pv 2)))) dss_nil)))
      (dss_cons (ds_set (i := 3) sc_select.nd rfl (.inl rfl) (DE.v (DN.fr (dn_rgL1 rfl m_list m_range (de_callB calld_len (by rfl) m_len (by decide +kernel) (dap_cons (DE.p (de_var (pv 0))) dap_nil))))))
      (dss_cons (ds_forP (passes_of rfl) rfl (di_kwItems (de_var (pv 1))) (dg_tup rfl (dgs_cons (dg_name (pg_name (i := 2) sc_select.nd rfl (Or.inl rfl))) (dgs_cons (dg_name (pg_name (i := 4) sc_select.nd rfl (Or.inr rfl))) dgs_nil))) (dss_cons (ds_if (dt_not (dt_val (de_callF F_is_wish hgd (hr.mono (by decide)) tk (da_cons (de_var (pv 2)) (da_cons (de_var (pv 4)) da_nil))))) (dss_one (ds_raise xr_BadWish rfl hr tk (de_var (pv 4)))) dss_nil)
      (dss_cons (ds_set (i := 5) sc_select.nd rfl (.inr rfl) (DE.v (de_callF F_values_of hgd (hr.mono (by decide)) tk (da_cons (de_var (pv 0)) (da_cons (de_var (pv 2)) da_nil)))))
      (dss_one (ds_setLcI (i := 3) (own := [("place", 6)]) rfl sc_select.nd rfl rfl (sw_true rfl rfl rfl (by decide +kernel)) (di_seq (de_var (pv 3))) (blkOk_by (own := [("place", 6)]) (N := ["word", "wanted", "name", "found", "value", "values", "place"]) (sc := defScope s_select) (by decide +kernel)) (by decide) (fun _ _ _ _ _ => (dg_name (pg_name (i := 6) sc_select.nd rfl (Or.inl rfl)))) (fun _ _ _ _ _ => (dts_one (dt_cmp (opd_eq hr.units) (DE.p (de_ix (DE.p (de_var (pv 5))) (DE.p (de_var (pv 6))) (fun _ _ => rfl))) (DE.p (de_var (pv 4))) (nomark _)))) (fun _ _ _ _ _ => (de_var (pv 6))))))))
      (dss_one (ds_ret (de_callTy calld_tuple (by rfl) m_tuple (by decide +kernel) (dap_cons (DE.p (de_var (pv 3))) dap_nil)))))))) hp)
theorem sc_l_pick : FnScope ["_law_stream_here", "_law_items"] ["_law_stream_here", "_law_items"] (defScope s_l_pick) := ⟨rfl, rfl, rfl, by decide +kernel, rfl, by decide +kernel, by decide +kernel⟩
def w_l_pick (ex : Exn → stg.G → Prop) : SW stg :=
  (wRet (wBin oIx (wVar 1) (wCallB 2 d_l_draw (wACons (wVar 0) (wACons (wCB cLen (wACons (wVar 1) wANil)) wANil)) (xk ex))))
theorem ok_l_pick {P : Program} {w : World} {K : PySem.W.Frag} {mg : Str → Option Value} {base : Heap} {f : Addr} {fd : FuncData} (F : Fun K "_law_pick" "_law_pick" s_l_pick f fd) (g : mg "_law_pick" = some (.ref f)) (F_l_draw : FnB P w K mg base 1 "_law_draw" ["_law_stream_here", "_law_many"] (liftSp K mg 2 d_l_draw)) (m_len : mg "len" = none)
    (hp : ∀ (ds : List D) (g : Nat) (q : D → Nat → Prop) (ex : Exn → Nat → Prop), ds.length = 2 → d_l_pick ds g q ex → w_l_pick ex (kEndS q) (startD ["_law_stream_here", "_law_items"] ds) g) : FnB P w K mg base 2 "_law_pick" ["_law_stream_here", "_law_items"] (liftSp K mg 2 d_l_pick) :=
  fnB_of F g (fnS_of (wb := w_l_pick) F sc_l_pick (fun cdv A outer s H E W0 ex hr hgd tk => (dss_one (ds_ret (de_ix (DE.p (de_var (pv 1))) (DE.p (de_callF F_l_draw hgd hr tk (da_cons (de_var (pv 0)) (da_cons (de_callB calld_len (by rfl) m_len (by decide +kernel) (dap_cons (DE.p (de_var (pv 1))) dap_nil)) da_nil)))) (fun _ _ => rfl))))) hp) (F.binds (ps := ["_law_stream_here", "_law_items"]) fun _ _ _ _ _ _ us hl => match us, hl with | [_, _], _ => rfl)
theorem sc_l_odd : FnScope ["_law_stream_here", "_law_some"] ["_law_stream_here"] (defScope s_l_odd) := ⟨rfl, rfl, rfl, by decide +kernel, rfl, by decide +kernel, by decide +kernel⟩
def w_l_odd (ex : Exn → stg.G → Prop) : SW stg :=
  (wSeq (wSet 1 (wI (wL (wLst (wACons (wC .non) (wACons (wC (.bl true)) (wACons (wC (.bl false)) (wACons (wNeg (wC (.int 1))) (wACons (wC (.int 0)) (wACons (wC (.int 1)) (wACons (wC (.int 2)) (wACons (wC (.int 23)) (wACons (wC (.int 24)) (wACons (wBin oPow (wC (.int 10)) (wC (.int 29))) (wACons (wC (.str [])) (wACons (wC (.str [48])) (wACons (wC (.str [65])) (wACons (wC (.str [97])) (wACons (wC (.str [97, 66])) (wACons (wTup wANil) (wACons (wL (wLst wANil)) (wACons (wC (.dic [])) (wACons (wTup (wACons (wC (.int 0)) wANil)) (wACons (wL (wLst (wACons (wC (.int 0)) wANil))) (wACons (wTup (wACons (wC (.bl true)) wANil)) wANil)))))))))))))))))))))))))
    (wRet (wBin oIx (wL (wBinN oCat (wVar 1) (wL (wLst (wACons (wTup (wACons (wC (.str [97])) wANil)) (wACons (wC (.dic [(.inr (S [97]), .int 1)])) (wACons (wC (.str [97, 98])) (wACons (wC (.str [97, 32, 98])) wANil)))))))) (wCallB 2 d_l_draw (wACons (wVar 0) (wACons (wC (.int 25)) wANil)) (xk ex)))))
theorem ok_l_odd {P : Program} {w : World} {K : PySem.W.Frag} {mg : Str → Option Value} {base : Heap} {f : Addr} {fd : FuncData} (F : Fun K "_law_odd" "_law_odd" s_l_odd f fd) (g : mg "_law_odd" = some (.ref f)) (F_l_draw : FnB P w K mg base 1 "_law_draw" ["_law_stream_here", "_law_many"] (liftSp K mg 2 d_l_draw))
    (hp : ∀ (ds : List D) (g : Nat) (q : D → Nat → Prop) (ex : Exn → Nat → Prop), ds.length = 1 → d_l_odd ds g q ex → w_l_odd ex (kEndS q) (startD ["_law_stream_here", "_law_some"] ds) g) : FnB P w K mg base 2 "_law_odd" ["_law_stream_here"] (liftSp K mg 1 d_l_odd) :=
  fnB_of F g (fnS_of (wb := w_l_odd) F sc_l_odd (fun cdv A outer s H E W0 ex hr hgd tk => (dss_cons (ds_set (i := 1) sc_l_odd.nd rfl (.inl rfl) (DE.v (DN.fr (dn_lst (da_cons de_non (da_cons de_bl (da_cons de_bl (da_cons (de_neg de_int) (da_cons de_int (da_cons de_int (da_cons de_int (da_cons de_int (da_cons de_int (da_cons (de_op opd_pow (DE.p de_int) (DE.p de_int)) (da_cons (de_str []) (da_cons (de_str [48]) (da_cons (de_str [65]) (da_cons (de_str [97]) (da_cons (de_str [97, 66]) (da_cons (de_tup da_nil) (da_cons (DN.fr (dn_lst da_nil)) (da_cons de_dic0 (da_cons (de_tup (da_cons de_int da_nil)) (da_cons (DN.fr (dn_lst (da_cons de_int da_nil))) (da_cons (de_tup (da_cons de_bl da_nil)) da_nil)))))))))))))))))))))))))
      (dss_one (ds_ret (de_ix (DN.p (dn_op opn_cat (DE.p (de_var (pv 1))) (DN.p (dn_lst (da_cons (de_tup (da_cons (de_str [97]) da_nil)) (da_cons (de_dic1 [97]) (da_cons (de_str [97, 98]) (da_cons (de_str [97, 32, 98]) da_nil)))))))) (DE.p (de_callF F_l_draw hgd hr tk (da_cons (de_var (pv 0)) (da_cons de_int da_nil)))) (fun _ _ => rfl)))))) hp) (F.binds (ps := ["_law_stream_here"]) fun _ _ _ _ _ _ us hl => match us, hl with | [_], _ => rfl)
theorem sc_l_drawn : FnScope ["_law_stream_here", "_law_most", "_law_size", "_law_letters", "_law_found", "_law_k", "_law_many"] ["_law_stream_here", "_law_most"] (defScope s_l_drawn) := ⟨rfl, rfl, rfl, by decide +kernel, rfl, by decide +kernel, by decide +kernel⟩
def w_l_drawn (ex : Exn → stg.G → Prop) : SW stg :=
  (wSeq (wSet 2 (wI (wBin oAdd (wC (.int 1)) (wCallB 2 d_l_draw (wACons (wVar 0) (wACons (wVar 1) wANil)) (xk ex)))))
    (wSeq (wSet 3 (wI (wCallB 2 d_l_pick (wACons (wVar 0) (wACons (wL (wLst (wACons (wC (.str [97])) (wACons (wC (.str [97, 98])) (wACons (wC (.str [97, 98, 99])) (wACons (wC (.str [97, 122])) (wACons (wC (.str [97, 97, 98])) (wACons (wC (.str [97, 98, 99, 100, 101, 102, 103, 104, 105, 106, 107, 108, 109, 110, 111, 112, 113, 114, 115, 116, 117, 118, 119, 120, 121, 122])) wANil)))))))) wANil)) (xk ex))))
    (wSeq (wSet 4 (wO (wLc (wRng1 (wVar 2)) (gwN 5) wYes (wCallB 2 d_l_pick (wACons (wVar 0) (wACons (wVar 3) wANil)) xno) [5])))
    (wSeq (wIfS (wB (wBin oEq (wCallB 2 d_l_draw (wACons (wVar 0) (wACons (wC (.int 3)) wANil)) (xk ex)) (wC (.int 0)))) (wSeq (wSet 6 (wI (wBin oAdd (wC (.int 1)) (wCallB 2 d_l_draw (wACons (wVar 0) (wACons (wCB cMin2 (wACons (wVar 2) (wACons (wC (.int 5)) wANil))) wANil)) (xk ex)))))
    (wSeq (wSet 4 (wO (wLc (wRng1 (wVar 2)) (gwN 5) wYes (wBin oIx (wPk 4) (wBin oMod (wVar 5) (wVar 6))) [5])))
    (wIfS (wB (wBin oEq (wCallB 2 d_l_draw (wACons (wVar 0) (wACons (wC (.int 2)) wANil)) (xk ex)) (wC (.int 0)))) (wStore 4 (wCallB 2 d_l_pick (wACons (wVar 0) (wACons (wC (.str [97, 98, 122])) wANil)) (xk ex)) (wCallB 2 d_l_draw (wACons (wVar 0) (wACons (wVar 2) wANil)) (xk ex))) wNext))) wNext)
    (wRet (wJoin (wC (.str [])) (wPk 4)))))))
theorem ok_l_drawn {P : Program} {w : World} {K : PySem.W.Frag} {mg : Str → Option Value} {base : Heap} {f : Addr} {fd : FuncData} (F : Fun K "_law_drawn" "_law_drawn" s_l_drawn f fd) (g : mg "_law_drawn" = some (.ref f)) (F_l_draw : FnB P w K mg base 1 "_law_draw" ["_law_stream_here", "_law_many"] (liftSp K mg 2 d_l_draw)) (F_l_pick : FnB P w K mg base 2 "_law_pick" ["_law_stream_here", "_law_items"] (liftSp K mg 2 d_l_pick)) (m_min : mg "min" = none) (m_range : mg "range" = none)
    (hp : ∀ (ds : List D) (g : Nat) (q : D → Nat → Prop) (ex : Exn → Nat → Prop), ds.length = 2 → d_l_drawn ds g q ex → w_l_drawn ex (kEndS q) (startD ["_law_stream_here", "_law_most", "_law_size", "_law_letters", "_law_found", "_law_k", "_law_many"] ds) g) : FnB P w K mg base 3 "_law_drawn" ["_law_stream_here", "_law_most"] (liftSp K mg 2 d_l_drawn) :=
  fnB_of F g (fnS_of (wb := w_l_drawn) F sc_l_drawn (fun cdv A outer s H E W0 ex hr hgd tk => (dss_cons (ds_set (i := 2) sc_l_drawn.nd rfl (.inl rfl) (DE.v (de_op opd_add (DE.p de_int) (DE.p (de_callF F_l_draw hgd (hr.mono (by decide)) tk (da_cons (de_var (pv 0)) (da_cons (de_var (pv 1)) da_nil)))))))
      (dss_cons (ds_set (i := 3) sc_l_drawn.nd rfl (.inr rfl) (DE.v (de_callF F_l_pick hgd hr tk (da_cons (de_var (pv 0)) (da_cons (DN.fr (dn_lst (da_cons (de_str [97]) (da_cons (de_str [97, 98]) (da_cons (de_str [97, 98, 99]) (da_cons (de_str [97, 122]) (da_cons (de_str [97, 97, 98]) (da_cons (de_str [97, 98, 99, 100, 101, 102, 103, 104, 105, 106, 107, 108, 109, 110, 111, 112, 113, 114, 115, 116, 117, 118, 119, 120, 121, 122]) da_nil)))))))) da_nil)))))
      (dss_cons (ds_set (i := 4) sc_l_drawn.nd rfl (.inr rfl) (DN.v (dn_lc (own := [("_law_k", 5)]) rfl sc_l_drawn.nd (di_range1 m_range (de_var (pv 2))) (blkOk_by (own := [("_law_k", 5)]) (N := ["_law_stream_here", "_law_most", "_law_size", "_law_letters", "_law_found", "_law_k", "_law_many"]) (sc := defScope s_l_drawn) (by decide +kernel)) (by decide) (fun _ _ _ _ _ => (dg_name (pg_name (i := 5) sc_l_drawn.nd rfl (Or.inl rfl)))) (fun _ _ _ _ _ => dts_nil) (fun _ _ _ _ _ => (de_callF F_l_pick hgd hr takesD_blk (da_cons (de_var (pv 0)) (da_cons (de_var (pv 3)) da_nil)))))))
      (dss_cons (ds_if (dt_cmp (opd_eq hr.units) (DE.p (de_callF F_l_draw hgd (hr.mono (by decide)) tk (da_cons (de_var (pv 0)) (da_cons de_int da_nil)))) (DE.p de_int) (nomark _)) (dss_cons (ds_set (i := 6) sc_l_drawn.nd rfl (.inr rfl) (DE.v (de_op opd_add (DE.p de_int) (DE.p (de_callF F_l_draw hgd (hr.mono (by decide)) tk (da_cons (de_var (pv 0)) (da_cons (de_callB (calld_min2 rfl) (by rfl) m_min (by decide +kernel) (dap_cons (DE.p (de_var (pv 2))) (dap_cons (DE.p de_int) dap_nil))) da_nil)))))))
      (dss_cons (ds_set (i := 4) sc_l_drawn.nd rfl (.inr rfl) (DN.v (dn_lc (own := [("_law_k", 5)]) rfl sc_l_drawn.nd (di_range1 m_range (de_var (pv 2))) (blkOk_by (own := [("_law_k", 5)]) (N := ["_law_stream_here", "_law_most", "_law_size", "_law_letters", "_law_found", "_law_k", "_law_many"]) (sc := defScope s_l_drawn) (by decide +kernel)) (by decide) (fun _ _ _ _ _ => (dg_name (pg_name (i := 5) sc_l_drawn.nd rfl (Or.inl rfl)))) (fun _ _ _ _ _ => dts_nil) (fun _ _ _ _ _ => (de_ix (dp_own (pv 4)) (DE.p (de_op opd_mod (DE.p (de_var (pv 5))) (DE.p (de_var (pv 6))))) (fun _ _ => rfl))))))
      (dss_one (ds_if (dt_cmp (opd_eq hr.units) (DE.p (de_callF F_l_draw hgd (hr.mono (by decide)) tk (da_cons (de_var (pv 0)) (da_cons de_int da_nil)))) (DE.p de_int) (nomark _)) (dss_one (ds_store (i := 4) (pv 4) (de_callF F_l_pick hgd hr tk (da_cons (de_var (pv 0)) (da_cons (de_str [97, 98, 122]) da_nil))) (de_callF F_l_draw hgd (hr.mono (by decide)) tk (da_cons (de_var (pv 0)) (da_cons (de_var (pv 2)) da_nil))))) dss_nil)))) dss_nil)
      (dss_one (ds_ret (de_join (de_str []) (dp_own (pv 4)))))))))) hp) (F.binds (ps := ["_law_stream_here", "_law_most"]) fun _ _ _ _ _ _ us hl => match us, hl with | [_, _], _ => rfl)
theorem sc_l_alone : FnScope ["_law_error", "_law_kinds", "_law_is_lookup"] ["_law_error"] (defScope s_l_alone) := ⟨rfl, rfl, rfl, by decide +kernel, rfl, by decide +kernel, by decide +kernel⟩
def w_l_alone (ex : Exn → stg.G → Prop) : SW stg :=
  (wSeq (wSet 1 (wI (wL (wLst (wACons (wIsX [("NoProperty", false), ("BadWish", false)] (wVar 0)) (wACons (wIsX [("NoProperty", false), ("BadWish", false)] (wVar 0)) (wACons (wIsX [("NoProperty", false), ("BadWish", false)] (wVar 0)) wANil)))))))
    (wSeq (wSet 1 (wI (wL (wBinN oCat (wVar 1) (wL (wLst (wACons (wIsX [("NoProperty", true), ("BadWish", false)] (wVar 0)) (wACons (wIsX [("NoProperty", false), ("BadWish", true)] (wVar 0)) (wACons (wIsX [("NoProperty", false), ("BadWish", false)] (wVar 0)) wANil)))))))))
    (wSeq (wSet 1 (wI (wL (wBinN oCat (wVar 1) (wL (wLst (wACons (wIsX [("NoProperty", false), ("BadWish", false)] (wVar 0)) (wACons (wIsX [("NoProperty", false), ("BadWish", false)] (wVar 0)) (wACons (wIsX [("NoProperty", false), ("BadWish", false)] (wVar 0)) wANil)))))))))
    (wSeq (wSet 2 (wI (wAndV (wIsX [("NoProperty", false), ("BadWish", false)] (wVar 0)) (wNotV (wIsX [("NoProperty", true), ("BadWish", true)] (wVar 0))))))
    (wRet (wAndV (wBin oEq (wCount (wVar 1) (wC (.bl true))) (wC (.int 1))) (wOrV (wIsX [("NoProperty", true), ("BadWish", true)] (wVar 0)) (wVar 2))))))))
theorem ok_l_alone {P : Program} {w : World} {K : PySem.W.Frag} {mg : Str → Option Value} {base : Heap} {f : Addr} {fd : FuncData} (F : Fun K "_law_alone" "_law_alone" s_l_alone f fd) (g : mg "_law_alone" = some (.ref f)) (m_isinstance : mg "isinstance" = none) (xs_BadWish_NoVersion : SubT K "BadWish" "NoVersion" false) (xs_NoProperty_NoVersion : SubT K "NoProperty" "NoVersion" false) (xs_BadWish_NoIndex : SubT K "BadWish" "NoIndex" false) (xs_NoProperty_NoIndex : SubT K "NoProperty" "NoIndex" false) (xs_BadWish_NoPlace : SubT K "BadWish" "NoPlace" false) (xs_NoProperty_NoPlace : SubT K "NoProperty" "NoPlace" false) (xs_BadWish_BadWord : SubT K "BadWish" "BadWord" false) (xs_NoProperty_BadWord : SubT K "NoProperty" "BadWord" false) (xs_BadWish_BadWish : SubT K "BadWish" "BadWish" true) (xs_NoProperty_BadWish : SubT K "NoProperty" "BadWish" false) (xs_BadWish_NoProperty : SubT K "BadWish" "NoProperty" false) (xs_NoProperty_NoProperty : SubT K "NoProperty" "NoProperty" true) (xs_BadWish_NoWords : SubT K "BadWish" "NoWords" false) (xs_NoProperty_NoWords : SubT K "NoProperty" "NoWords" false) (xs_BadWish_TooLong : SubT K "BadWish" "TooLong" false) (xs_NoProperty_TooLong : SubT K "NoProperty" "TooLong" false) (xs_BadWish_BadLetter : SubT K "BadWish" "BadLetter" false) (xs_NoProperty_BadLetter : SubT K "NoProperty" "BadLetter" false) (xs_BadWish_LookupError : SubT K "BadWish" "LookupError" false) (xs_NoProperty_LookupError : SubT K "NoProperty" "LookupError" false) (xs_BadWish_ValueError : SubT K "BadWish" "ValueError" true) (xs_BadWish_TailError : SubT K "BadWish" "TailError" true) (xs_NoProperty_ValueError : SubT K "NoProperty" "ValueError" true) (xs_NoProperty_TailError : SubT K "NoProperty" "TailError" true)
    (hp : ∀ (ds : List D) (g : Nat) (q : D → Nat → Prop) (ex : Exn → Nat → Prop), ds.length = 1 → d_l_alone55 ds g q ex → w_l_alone ex (kEndS q) (startD ["_law_error", "_law_kinds", "_law_is_lookup"] ds) g) : FnQB P w K mg base 1 "_law_alone" ["_law_error"] (liftSpH K mg 1 d_l_alone55) :=
  fnQB_of F g (fnQS_of (wb := w_l_alone) F sc_l_alone (fun cdv A outer s H E p W0 ex hr hgd hot tk => (dss_cons (ds_set (i := 1) sc_l_alone.nd rfl (.inl rfl) (DE.v (DN.fr (dn_lst (da_cons (de_isX (tbS_cons xs_NoProperty_NoPlace (tbS_cons xs_BadWish_NoPlace tbS_nil)) (by simp) (DE.p (de_var (pv 0))) m_isinstance) (da_cons (de_isX (tbS_cons xs_NoProperty_NoIndex (tbS_cons xs_BadWish_NoIndex tbS_nil)) (by simp) (DE.p (de_var (pv 0))) m_isinstance) (da_cons (de_isX (tbS_cons xs_NoProperty_NoVersion (tbS_cons xs_BadWish_NoVersion tbS_nil)) (by simp) (DE.p (de_var (pv 0))) m_isinstance) da_nil)))))))
      (dss_cons (ds_set (i := 1) sc_l_alone.nd rfl (.inl rfl) (DE.v (DN.fr (dn_op opn_cat (DE.p (de_var (pv 1))) (DN.p (dn_lst (da_cons (de_isX (tbS_cons xs_NoProperty_NoProperty (tbS_cons xs_BadWish_NoProperty tbS_nil)) (by simp) (DE.p (de_var (pv 0))) m_isinstance) (da_cons (de_isX (tbS_cons xs_NoProperty_BadWish (tbS_cons xs_BadWish_BadWish tbS_nil)) (by simp) (DE.p (de_var (pv 0))) m_isinstance) (da_cons (de_isX (tbS_cons xs_NoProperty_BadWord (tbS_cons xs_BadWish_BadWord tbS_nil)) (by simp) (DE.p (de_var (pv 0))) m_isinstance) da_nil)))))))))
      (dss_cons (ds_set (i := 1) sc_l_alone.nd rfl (.inl rfl) (DE.v (DN.fr (dn_op opn_cat (DE.p (de_var (pv 1))) (DN.p (dn_lst (da_cons (de_isX (tbS_cons xs_NoProperty_BadLetter (tbS_cons xs_BadWish_BadLetter tbS_nil)) (by simp) (DE.p (de_var (pv 0))) m_isinstance) (da_cons (de_isX (tbS_cons xs_NoProperty_TooLong (tbS_cons xs_BadWish_TooLong tbS_nil)) (by simp) (DE.p (de_var (pv 0))) m_isinstance) (da_cons (de_isX (tbS_cons xs_NoProperty_NoWords (tbS_cons xs_BadWish_NoWords tbS_nil)) (by simp) (DE.p (de_var (pv 0))) m_isinstance) da_nil)))))))))
      (dss_cons (ds_set (i := 2) sc_l_alone.nd rfl (.inl rfl) (DE.v (de_and (de_isX (tbS_cons xs_NoProperty_LookupError (tbS_cons xs_BadWish_LookupError tbS_nil)) (by simp) (DE.p (de_var (pv 0))) m_isinstance) (de_one (de_not (de_isXT (tbA_cons (d := true) (subA_cons xs_NoProperty_TailError (subA_one xs_NoProperty_ValueError)) (tbA_cons (d := true) (subA_cons xs_BadWish_TailError (subA_one xs_BadWish_ValueError)) tbA_nil)) (by simp) (by decide) (DE.p (de_var (pv 0))) m_isinstance (clsEs_cons (clsEs_cons .nil))))))))
      (dss_one (ds_ret (de_and (de_cmp (opd_eq hr.units) (DE.p (de_count (DE.p (de_var (pv 1))) de_bl)) (DE.p de_int) (nomark _)) (de_one (de_or (de_isX (tbS_cons xs_NoProperty_TailError (tbS_cons xs_BadWish_TailError tbS_nil)) (by simp) (DE.p (de_var (pv 0))) m_isinstance) (de_one (de_var (pv 2))))))))))))) hp) (F.binds (ps := ["_law_error"]) fun _ _ _ _ _ _ us hl => match us, hl with | [_], _ => rfl)
theorem sc_l_called : FnScope ["_law_word", "_law_way", "_law_some"] ["_law_word", "_law_way", "_law_some"] (defScope s_l_called) := ⟨rfl, rfl, rfl, by decide +kernel, rfl, by decide +kernel, by decide +kernel⟩
def w_l_called (ex : Exn → stq.G → Prop) : SW stq :=
  (wSeq (wIfS (wB (wBin oEq (wVar 1) (wC (.int 0)))) (wRet (wCallKw d_select55 ["letter"] (wVar 0) (wACons (wBin oIx (wVar 2) (wC (.int 0))) wANil) (xk ex))) wNext)
    (wSeq (wIfS (wB (wBin oEq (wVar 1) (wC (.int 1)))) (wRet (wCallKw d_select55 ["rank", "letter"] (wVar 0) (wACons (wBin oIx (wVar 2) (wC (.int 0))) (wACons (wBin oIx (wVar 2) (wC (.int 1))) wANil)) (xk ex))) wNext)
    (wSeq (wIfS (wB (wBin oEq (wVar 1) (wC (.int 2)))) (wRet (wCallKw d_select55 ["strict", "rank", "factor"] (wVar 0) (wACons (wBin oIx (wVar 2) (wC (.int 0))) (wACons (wBin oIx (wVar 2) (wC (.int 1))) (wACons (wBin oIx (wVar 2) (wC (.int 2))) wANil))) (xk ex))) wNext)
    (wSeq (wIfS (wB (wBin oEq (wVar 1) (wC (.int 3)))) (wRet (wCallKw d_select55 ["factor", "letter", "strict", "rank"] (wVar 0) (wACons (wBin oIx (wVar 2) (wC (.int 0))) (wACons (wBin oIx (wVar 2) (wC (.int 1))) (wACons (wBin oIx (wVar 2) (wC (.int 2))) (wACons (wBin oIx (wVar 2) (wC (.int 3))) wANil)))) (xk ex))) wNext)
    (wSeq (wIfS (wB (wBin oEq (wVar 1) (wC (.int 4)))) (wRet (wCallKw d_select55 ["rank", "strict", "letter", "factor"] (wVar 0) (wACons (wBin oIx (wVar 2) (wC (.int 0))) (wACons (wBin oIx (wVar 2) (wC (.int 1))) (wACons (wBin oIx (wVar 2) (wC (.int 2))) (wACons (wBin oIx (wVar 2) (wC (.int 3))) wANil)))) (xk ex))) wNext)
    (wSeq (wIfS (wB (wBin oEq (wVar 1) (wC (.int 5)))) (wRet (wCallKw d_select55 ["colour"] (wVar 0) (wACons (wBin oIx (wVar 2) (wC (.int 0))) wANil) (xk ex))) wNext)
    (wSeq (wIfS (wB (wBin oEq (wVar 1) (wC (.int 6)))) (wRet (wCallKw d_select55 ["rank", "Rank"] (wVar 0) (wACons (wBin oIx (wVar 2) (wC (.int 0))) (wACons (wBin oIx (wVar 2) (wC (.int 1))) wANil)) (xk ex))) wNext)
    (wSeq (wIfS (wB (wBin oEq (wVar 1) (wC (.int 7)))) (wRet (wCallKw d_select55 ["weight", "colour", "letter"] (wVar 0) (wACons (wBin oIx (wVar 2) (wC (.int 0))) (wACons (wBin oIx (wVar 2) (wC (.int 1))) (wACons (wBin oIx (wVar 2) (wC (.int 2))) wANil))) (xk ex))) wNext)
    (wSeq (wIfS (wB (wBin oEq (wVar 1) (wC (.int 8)))) (wRet (wCallKw d_select55 ["factor", "begins", "shade"] (wVar 0) (wACons (wBin oIx (wVar 2) (wC (.int 0))) (wACons (wBin oIx (wVar 2) (wC (.int 1))) (wACons (wBin oIx (wVar 2) (wC (.int 2))) wANil))) (xk ex))) wNext)
    (wSeq (wIfS (wB (wBin oEq (wVar 1) (wC (.int 9)))) (wRet (wCallKw d_select55 ["place"] (wVar 0) (wACons (wBin oIx (wVar 2) (wC (.int 0))) wANil) (xk ex))) wNext)
    (wSeq (wIfS (wB (wBin oEq (wVar 1) (wC (.int 10)))) (wRet (wCallKw d_select55 ["letter", "tail"] (wVar 0) (wACons (wBin oIx (wVar 2) (wC (.int 0))) (wACons (wBin oIx (wVar 2) (wC (.int 1))) wANil)) (xk ex))) wNext)
    (wRet (wCallKw d_select55 ["order", "rank"] (wVar 0) (wACons (wBin oIx (wVar 2) (wC (.int 0))) (wACons (wBin oIx (wVar 2) (wC (.int 1))) wANil)) (xk ex))))))))))))))
theorem ok_l_called {P : Program} {w : World} {K : PySem.W.Frag} {mg : Str → Option Value} {base : Heap} {f : Addr} {fd : FuncData} (F : Fun K "_law_called" "_law_called" s_l_called f fd) (g : mg "_law_called" = some (.ref f)) (F_select : FnKwB P w K mg base 5 "select" KS_select (liftKw K d_select55))
    (hp : ∀ (ds : List D) (g : Gq) (q : D → Gq → Prop) (ex : Exn → Gq → Prop), ds.length = 3 → d_l_called55 ds g q ex → w_l_called ex (kEndQ q) (startD ["_law_word", "_law_way", "_law_some"] ds) g) : FnB P w K mg base 6 "_law_called" ["_law_word", "_law_way", "_law_some"] (liftSp K mg 3 d_l_called55) :=
  fnB_of F g (fnT_of (wb := w_l_called) F sc_l_called (fun cdv A outer s H E W0 ex hr hgd tk => (dss_cons (ds_if (dt_cmp (opd_eq hr.units) (DE.p (de_var (pv 1))) (DE.p de_int) (nomark _)) (dss_one (ds_ret (de_callKw F_select (List.mem_cons_of_mem _ List.mem_cons_self) hgd (hr.mono (by decide)) tk (de_var (pv 0)) (dkk_cons (de_ix (DE.p (de_var (pv 2))) (DE.p de_int) (fun _ _ => rfl)) dkk_nil)))) dss_nil)
      (dss_cons (ds_if (dt_cmp (opd_eq hr.units) (DE.p (de_var (pv 1))) (DE.p de_int) (nomark _)) (dss_one (ds_ret (de_callKw F_select (List.mem_cons_of_mem _ (List.mem_cons_of_mem _ List.mem_cons_self)) hgd (hr.mono (by decide)) tk (de_var (pv 0)) (dkk_cons (de_ix (DE.p (de_var (pv 2))) (DE.p de_int) (fun _ _ => rfl)) (dkk_cons (de_ix (DE.p (de_var (pv 2))) (DE.p de_int) (fun _ _ => rfl)) dkk_nil))))) dss_nil)
      (dss_cons (ds_if (dt_cmp (opd_eq hr.units) (DE.p (de_var (pv 1))) (DE.p de_int) (nomark _)) (dss_one (ds_ret (de_callKw F_select (List.mem_cons_of_mem _ (List.mem_cons_of_mem _ (List.mem_cons_of_mem _ List.mem_cons_self))) hgd (hr.mono (by decide)) tk (de_var (pv 0)) (dkk_cons (de_ix (DE.p (de_var (pv 2))) (DE.p de_int) (fun _ _ => rfl)) (dkk_cons (de_ix (DE.p (de_var (pv 2))) (DE.p de_int) (fun _ _ => rfl)) (dkk_cons (de_ix (DE.p (de_var (pv 2))) (DE.p de_int) (fun _ _ => rfl)) dkk_nil)))))) dss_nil)
      (dss_cons (ds_if (dt_cmp (opd_eq hr.units) (DE.p (de_var (pv 1))) (DE.p de_int) (nomark _)) (dss_one (ds_ret (de_callKw F_select (List.mem_cons_of_mem _ (List.mem_cons_of_mem _ (List.mem_cons_of_mem _ (List.mem_cons_of_mem _ List.mem_cons_self)))) hgd (hr.mono (by decide)) tk (de_var (pv 0)) (dkk_cons (de_ix (DE.p (de_var (pv 2))) (DE.p de_int) (fun _ _ => rfl)) (dkk_cons (de_ix (DE.p (de_var (pv 2))) (DE.p de_int) (fun _ _ => rfl)) (dkk_cons (de_ix (DE.p (de_var (pv 2))) (DE.p de_int) (fun _ _ => rfl)) (dkk_cons (de_ix (DE.p (de_var (pv 2))) (DE.p de_int) (fun _ _ => rfl)) dkk_nil))))))) dss_nil)
      (dss_cons (ds_if (dt_cmp (opd_eq hr.units) (DE.p (de_var (pv 1))) (DE.p de_int) (nomark _)) (dss_one (ds_ret (de_callKw F_select (List.mem_cons_of_mem _ (List.mem_cons_of_mem _ (List.mem_cons_of_mem _ (List.mem_cons_of_mem _ (List.mem_cons_of_mem _ List.mem_cons_self))))) hgd (hr.mono (by decide)) tk (de_var (pv 0)) (dkk_cons (de_ix (DE.p (de_var (pv 2))) (DE.p de_int) (fun _ _ => rfl)) (dkk_cons (de_ix (DE.p (de_var (pv 2))) (DE.p de_int) (fun _ _ => rfl)) (dkk_cons (de_ix (DE.p (de_var (pv 2))) (DE.p de_int) (fun _ _ => rfl)) (dkk_cons (de_ix (DE.p (de_var (pv 2))) (DE.p de_int) (fun _ _ => rfl)) dkk_nil))))))) dss_nil)
      (dss_cons (ds_if (dt_cmp (opd_eq hr.units) (DE.p (de_var (pv 1))) (DE.p de_int) (nomark _)) (dss_one (ds_ret (de_callKw F_select (List.mem_cons_of_mem _ (List.mem_cons_of_mem _ (List.mem_cons_of_mem _ (List.mem_cons_of_mem _ (List.mem_cons_of_mem _ (List.mem_cons_of_mem _ List.mem_cons_self)))))) hgd (hr.mono (by decide)) tk (de_var (pv 0)) (dkk_cons (de_ix (DE.p (de_var (pv 2))) (DE.p de_int) (fun _ _ => rfl)) dkk_nil)))) dss_nil)
      (dss_cons (ds_if (dt_cmp (opd_eq hr.units) (DE.p (de_var (pv 1))) (DE.p de_int) (nomark _)) (dss_one (ds_ret (de_callKw F_select (List.mem_cons_of_mem _ (List.mem_cons_of_mem _ (List.mem_cons_of_mem _ (List.mem_cons_of_mem _ (List.mem_cons_of_mem _ (List.mem_cons_of_mem _ (List.mem_cons_of_mem _ List.mem_cons_self))))))) hgd (hr.mono (by decide)) tk (de_var (pv 0)) (dkk_cons (de_ix (DE.p (de_var (pv 2))) (DE.p de_int) (fun _ _ => rfl)) (dkk_cons (de_ix (DE.p (de_var (pv 2))) (DE.p de_int) (fun _ _ => rfl)) dkk_nil))))) dss_nil)
      (dss_cons (ds_if (dt_cmp (opd_eq hr.units) (DE.p (de_var (pv 1))) (DE.p de_int) (nomark _)) (dss_one (ds_ret (de_callKw F_select (List.mem_cons_of_mem _ (List.mem_cons_of_mem _ (List.mem_cons_of_mem _ (List.mem_cons_of_mem _ (List.mem_cons_of_mem _ (List.mem_cons_of_mem _ (List.mem_cons_of_mem _ (List.mem_cons_of_mem _ List.mem_cons_self)))))))) hgd (hr.mono (by decide)) tk (de_var (pv 0)) (dkk_cons (de_ix (DE.p (de_var (pv 2))) (DE.p de_int) (fun _ _ => rfl)) (dkk_cons (de_ix (DE.p (de_var (pv 2))) (DE.p de_int) (fun _ _ => rfl)) (dkk_cons (de_ix (DE.p (de_var (pv 2))) (DE.p de_int) (fun _ _ => rfl)) dkk_nil)))))) dss_nil)
      (dss_cons (ds_if (dt_cmp (opd_eq hr.units) (DE.p (de_var (pv 1))) (DE.p de_int) (nomark _)) (dss_one (ds_ret (de_callKw F_select (List.mem_cons_of_mem _ (List.mem_cons_of_mem _ (List.mem_cons_of_mem _ (List.mem_cons_of_mem _ (List.mem_cons_of_mem _ (List.mem_cons_of_mem _ (List.mem_cons_of_mem _ (List.mem_cons_of_mem _ (List.mem_cons_of_mem _ List.mem_cons_self))))))))) hgd (hr.mono (by decide)) tk (de_var (pv 0)) (dkk_cons (de_ix (DE.p (de_var (pv 2))) (DE.p de_int) (fun _ _ => rfl)) (dkk_cons (de_ix (DE.p (de_var (pv 2))) (DE.p de_int) (fun _ _ => rfl)) (dkk_cons (de_ix (DE.p (de_var (pv 2))) (DE.p de_int) (fun _ _ => rfl)) dkk_nil)))))) dss_nil)
      (dss_cons (ds_if (dt_cmp (opd_eq hr.units) (DE.p (de_var (pv 1))) (DE.p de_int) (nomark _)) (dss_one (ds_ret (de_callKw F_select (List.mem_cons_of_mem _ (List.mem_cons_of_mem _ (List.mem_cons_of_mem _ (List.mem_cons_of_mem _ (List.mem_cons_of_mem _ (List.mem_cons_of_mem _ (List.mem_cons_of_mem _ (List.mem_cons_of_mem _ (List.mem_cons_of_mem _ (List.mem_cons_of_mem _ List.mem_cons_self)))))))))) hgd (hr.mono (by decide)) tk (de_var (pv 0)) (dkk_cons (de_ix (DE.p (de_var (pv 2))) (DE.p de_int) (fun _ _ => rfl)) dkk_nil)))) dss_nil)
      (dss_cons (ds_if (dt_cmp (opd_eq hr.units) (DE.p (de_var (pv 1))) (DE.p de_int) (nomark _)) (dss_one (ds_ret (de_callKw F_select (List.mem_cons_of_mem _ (List.mem_cons_of_mem _ (List.mem_cons_of_mem _ (List.mem_cons_of_mem _ (List.mem_cons_of_mem _ (List.mem_cons_of_mem _ (List.mem_cons_of_mem _ (List.mem_cons_of_mem _ (List.mem_cons_of_mem _ (List.mem_cons_of_mem _ (List.mem_cons_of_mem _ List.mem_cons_self))))))))))) hgd (hr.mono (by decide)) tk (de_var (pv 0)) (dkk_cons (de_ix (DE.p (de_var (pv 2))) (DE.p de_int) (fun _ _ => rfl)) (dkk_cons (de_ix (DE.p (de_var (pv 2))) (DE.p de_int) (fun _ _ => rfl)) dkk_nil))))) dss_nil)
      (dss_one (ds_ret (de_callKw F_select List.mem_cons_self hgd (hr.mono (by decide)) tk (de_var (pv 0)) (dkk_cons (de_ix (DE.p (de_var (pv 2))) (DE.p de_int) (fun _ _ => rfl)) (dkk_cons (de_ix (DE.p (de_var (pv 2))) (DE.p de_int) (fun _ _ => rfl)) dkk_nil))))))))))))))))) hp) (F.binds (ps := ["_law_word", "_law_way", "_law_some"]) fun _ _ _ _ _ _ us hl => match us, hl with | [_, _, _], _ => rfl)
theorem sc_l_told : FnScope ["_law_word", "_law_way", "_law_some", "_law_error"] ["_law_word", "_law_way", "_law_some"] (defScope s_l_told) := ⟨rfl, rfl, rfl, by decide +kernel, rfl, by decide +kernel, by decide +kernel⟩
def w_l_told (ex : Exn → stq.G → Prop) : SW stq :=
  (wTry (fun EX1 => (wRet (wL (wBinN oRep (wL (wLst (wACons (wC (.str [112, 108, 97, 99, 101, 115])) wANil))) (wCB cInt (wACons (wIsi "tuple" (wCallB 3 d_l_called55 (wACons (wVar 0) (wACons (wVar 1) (wACons (wVar 2) wANil))) EX1)) wANil)))))) [([("NoProperty", true), ("BadWish", true)], 3, (wSeq (wIfS (wB (wIsX [("NoProperty", true), ("BadWish", false)] (wVar 3))) (wRet (wL (wLst (wACons (wC (.str [110, 97, 109, 101])) (wACons (wFldX "name" ["NoProperty"] (wVar 3)) (wACons (wCallB 1 (lq d_l_alone55) (wACons (wVar 3) wANil) xno) wANil)))))) wNext)
    (wRet (wIf (wB (wIsX [("NoProperty", false), ("BadWish", true)] (wVar 3))) (wL (wLst (wACons (wC (.str [119, 105, 115, 104])) (wACons (wFldX "value" ["BadWish"] (wVar 3)) (wACons (wCallB 1 (lq d_l_alone55) (wACons (wVar 3) wANil) xno) wANil))))) (wC (.str [111, 116, 104, 101, 114]))))))] (xk ex))
theorem ok_l_told {P : Program} {w : World} {K : PySem.W.Frag} {mg : Str → Option Value} {base : Heap} {f : Addr} {fd : FuncData} (F : Fun K "_law_told" "_law_told" s_l_told f fd) (g : mg "_law_told" = some (.ref f)) (F_l_called : FnB P w K mg base 6 "_law_called" ["_law_word", "_law_way", "_law_some"] (liftSp K mg 3 d_l_called55)) (F_l_alone : FnQB P w K mg base 1 "_law_alone" ["_law_error"] (liftSpH K mg 1 (lq d_l_alone55))) (m_int : mg "int" = none) (m_isinstance : mg "isinstance" = none) (m_tuple : mg "tuple" = none) (xs_BadWish_TailError : SubT K "BadWish" "TailError" true) (xs_NoProperty_TailError : SubT K "NoProperty" "TailError" true) (xs_BadWish_NoProperty : SubT K "BadWish" "NoProperty" false) (xs_NoProperty_NoProperty : SubT K "NoProperty" "NoProperty" true) (xf_NoProperty_name : FldT K "NoProperty" "name") (xs_BadWish_BadWish : SubT K "BadWish" "BadWish" true) (xs_NoProperty_BadWish : SubT K "NoProperty" "BadWish" false) (xf_BadWish_value : FldT K "BadWish" "value")
    (hp : ∀ (ds : List D) (g : Gq) (q : D → Gq → Prop) (ex : Exn → Gq → Prop), ds.length = 3 → d_l_told55 ds g q ex → w_l_told ex (kEndQ q) (startD ["_law_word", "_law_way", "_law_some", "_law_error"] ds) g) : FnB P w K mg base 7 "_law_told" ["_law_word", "_law_way", "_law_some"] (liftSp K mg 3 d_l_told55) :=
  fnB_of F g (fnT_of (wb := w_l_told) F sc_l_told (fun cdv A outer s H E W0 ex hr hgd tk => (dss_one (ds_try rfl rfl rfl sc_l_told.nd tk (fun pn1 xe1 EX1 B1 tk1 hp1 => (dss_one (ds_ret (DN.fr (dn_op opn_rep (DN.p (dn_lst (da_cons (de_str [112, 108, 97, 99, 101, 115]) da_nil))) (DE.p (de_callTy calld_int (by rfl) m_int (by decide +kernel) (dap_cons (DE.p (de_isi kit_tuple (DE.p (de_callF F_l_called hgd (hr.mono (by decide)) tk1 (da_cons (de_var (pv 0)) (da_cons (de_var (pv 1)) (da_cons (de_var (pv 2)) da_nil))))) m_isinstance m_tuple (by decide +kernel))) dap_nil)))))))) (.cons (i := 3) rfl rfl (catch_name (tbS_cons xs_NoProperty_TailError (tbS_cons xs_BadWish_TailError tbS_nil))) (fun _ _ _ hot => (dss_cons (ds_if (dt_val (de_isX (tbS_cons xs_NoProperty_NoProperty (tbS_cons xs_BadWish_NoProperty tbS_nil)) (by simp) (DE.p (de_var (pv 3))) m_isinstance)) (dss_one (ds_ret (DN.fr (dn_lst (da_cons (de_str [110, 97, 109, 101]) (da_cons (de_fldX (tbF_cons xf_NoProperty_name tbF_nil) (de_var (pv 3))) (da_cons (de_callQ F_l_alone hgd (roomH_suite (hr.mono (by decide))) takes_none hot (da_cons (de_var (pv 3)) da_nil)) da_nil))))))) dss_nil)
      (dss_one (ds_ret (de_if (dt_val (de_isX (tbS_cons xs_NoProperty_BadWish (tbS_cons xs_BadWish_BadWish tbS_nil)) (by simp) (DE.p (de_var (pv 3))) m_isinstance)) (DN.fr (dn_lst (da_cons (de_str [119, 105, 115, 104]) (da_cons (de_fldX (tbF_cons xf_BadWish_value tbF_nil) (de_var (pv 3))) (da_cons (de_callQ F_l_alone hgd (roomH_suite (hr.mono (by decide))) takes_none hot (da_cons (de_var (pv 3)) da_nil)) da_nil))))) (de_str [111, 116, 104, 101, 114])))))) .nil)))) hp) (F.binds (ps := ["_law_word", "_law_way", "_law_some"]) fun _ _ _ _ _ _ us hl => match us, hl with | [_, _, _], _ => rfl)
theorem sc_l_is_right : FnScope ["_law_kind", "_law_value"] ["_law_kind", "_law_value"] (defScope s_l_is_right) := ⟨rfl, rfl, rfl, by decide +kernel, rfl, by decide +kernel, by decide +kernel⟩
def w_l_is_right (ex : Exn → stg.G → Prop) : SW stg :=
  (wSeq (wIfS (wB (wBin oEq (wVar 0) (wC (.str [108])))) (wRet (wAndV (wIsi "str" (wVar 1)) (wAndV (wBin oEq (wCB cLen (wACons (wVar 1) wANil)) (wC (.int 1))) (wBin oIn (wVar 1) (wC (.str [97, 98, 99, 100, 101, 102, 103, 104, 105, 106, 107, 108, 109, 110, 111, 112, 113, 114, 115, 116, 117, 118, 119, 120, 121, 122])))))) wNext)
    (wRet (wAndV (wIsi "int" (wVar 1)) (wBin oEq (wIsi "bool" (wVar 1)) (wBin oEq (wVar 0) (wC (.str [98])))))))
theorem ok_l_is_right {P : Program} {w : World} {K : PySem.W.Frag} {mg : Str → Option Value} {base : Heap} {f : Addr} {fd : FuncData} (F : Fun K "_law_is_right" "_law_is_right" s_l_is_right f fd) (g : mg "_law_is_right" = some (.ref f)) (m_bool : mg "bool" = none) (m_int : mg "int" = none) (m_isinstance : mg "isinstance" = none) (m_len : mg "len" = none) (m_str : mg "str" = none)
    (hp : ∀ (ds : List D) (g : Nat) (q : D → Nat → Prop) (ex : Exn → Nat → Prop), ds.length = 2 → d_l_is_right55 ds g q ex → w_l_is_right ex (kEndS q) (startD ["_law_kind", "_law_value"] ds) g) : FnB P w K mg base 1 "_law_is_right" ["_law_kind", "_law_value"] (liftSp K mg 2 d_l_is_right55) :=
  fnB_of F g (fnS_of (wb := w_l_is_right) F sc_l_is_right (fun cdv A outer s H E W0 ex hr hgd tk => (dss_cons (ds_if (dt_cmp (opd_eq hr.units) (DE.p (de_var (pv 0))) (DE.p (de_str [108])) (nomark _)) (dss_one (ds_ret (de_and (de_isi kit_str (DE.p (de_var (pv 1))) m_isinstance m_str (by decide +kernel)) (de_and (de_cmp (opd_eq hr.units) (DE.p (de_callB calld_len (by rfl) m_len (by decide +kernel) (dap_cons (DE.p (de_var (pv 1))) dap_nil))) (DE.p de_int) (nomark _)) (de_one (de_cmp opd_in (DE.p (de_var (pv 1))) (DE.p (de_str [97, 98, 99, 100, 101, 102, 103, 104, 105, 106, 107, 108, 109, 110, 111, 112, 113, 114, 115, 116, 117, 118, 119, 120, 121, 122])) rfl)))))) dss_nil)
      (dss_one (ds_ret (de_and (de_isi kit_int (DE.p (de_var (pv 1))) m_isinstance m_int (by decide +kernel)) (de_one (de_cmp (opd_eq hr.units) (DE.p (de_isi kit_bool (DE.p (de_var (pv 1))) m_isinstance m_bool (by decide +kernel))) (DE.p (de_cmp (opd_eq hr.units) (DE.p (de_var (pv 0))) (DE.p (de_str [98])) (nomark _))) (nomark _)))))))) hp) (F.binds (ps := ["_law_kind", "_law_value"]) fun _ _ _ _ _ _ us hl => match us, hl with | [_, _], _ => rfl)
theorem sc_l_due : FnScope ["_law_way", "_law_some", "_law_kind", "_law_value"] ["_law_way", "_law_some"] (defScope s_l_due) := ⟨rfl, rfl, rfl, by decide +kernel, rfl, by decide +kernel, by decide +kernel⟩
def w_l_due (ex : Exn → stg.G → Prop) : SW stg :=
  (wSeq (wIfS (wB (wBin oGt (wVar 0) (wC (.int 4)))) (wRet (wL (wLst (wACons (wC (.str [110, 97, 109, 101])) (wACons (wBin oIx (wL (wLst (wACons (wC (.str [99, 111, 108, 111, 117, 114])) (wACons (wC (.str [82, 97, 110, 107])) (wACons (wC (.str [119, 101, 105, 103, 104, 116])) (wACons (wC (.str [98, 101, 103, 105, 110, 115])) (wACons (wC (.str [112, 108, 97, 99, 101])) (wACons (wC (.str [116, 97, 105, 108])) (wACons (wC (.str [111, 114, 100, 101, 114])) wANil))))))))) (wBin oSub (wVar 0) (wC (.int 5)))) (wACons (wC (.bl true)) wANil)))))) wNext)
    (wSeq (wFor (wZip (wBin oIx (wL (wLst (wACons (wC (.str [108])) (wACons (wC (.str [105, 108])) (wACons (wC (.str [98, 105, 98])) (wACons (wC (.str [98, 108, 98, 105])) (wACons (wC (.str [105, 98, 108, 98])) wANil))))))) (wVar 0)) (wVar 1)) (gwT 2 (gwCons (gwN 2) (gwCons (gwN 3) gwNil))) (wIfS (wNot (wB (wCallB 2 d_l_is_right55 (wACons (wVar 2) (wACons (wVar 3) wANil)) (xk ex)))) (wRet (wL (wLst (wACons (wC (.str [119, 105, 115, 104])) (wACons (wVar 3) (wACons (wC (.bl true)) wANil)))))) wNext))
    (wRet (wL (wLst (wACons (wC (.str [112, 108, 97, 99, 101, 115])) wANil))))))
theorem ok_l_due {P : Program} {w : World} {K : PySem.W.Frag} {mg : Str → Option Value} {base : Heap} {f : Addr} {fd : FuncData} (F : Fun K "_law_due" "_law_due" s_l_due f fd) (g : mg "_law_due" = some (.ref f)) (F_l_is_right : FnB P w K mg base 1 "_law_is_right" ["_law_kind", "_law_value"] (liftSp K mg 2 d_l_is_right55)) (m_zip : mg "zip" = none)
    (hp : ∀ (ds : List D) (g : Nat) (q : D → Nat → Prop) (ex : Exn → Nat → Prop), ds.length = 2 → d_l_due55 ds g q ex → w_l_due ex (kEndS q) (startD ["_law_way", "_law_some", "_law_kind", "_law_value"] ds) g) : FnB P w K mg base 2 "_law_due" ["_law_way", "_law_some"] (liftSp K mg 2 d_l_due55) :=
  fnB_of F g (fnS_of (wb := w_l_due) F sc_l_due (fun cdv A outer s H E W0 ex hr hgd tk => (dss_cons (ds_if (dt_cmp opd_gt (DE.p (de_var (pv 0))) (DE.p de_int) (nomark _)) (dss_one (ds_ret (DN.fr (dn_lst (da_cons (de_str [110, 97, 109, 101]) (da_cons (de_ix (DN.p (dn_lst (da_cons (de_str [99, 111, 108, 111, 117, 114]) (da_cons (de_str [82, 97, 110, 107]) (da_cons (de_str [119, 101, 105, 103, 104, 116]) (da_cons (de_str [98, 101, 103, 105, 110, 115]) (da_cons (de_str [112, 108, 97, 99, 101]) (da_cons (de_str [116, 97, 105, 108]) (da_cons (de_str [111, 114, 100, 101, 114]) da_nil))))))))) (DE.p (de_op opd_sub (DE.p (de_var (pv 0))) (DE.p de_int))) (fun _ _ => rfl)) (da_cons de_bl da_nil))))))) dss_nil)
      (dss_cons (ds_for (passes_of rfl) rfl (di_zip m_zip (de_ix (DN.p (dn_lst (da_cons (de_str [108]) (da_cons (de_str [105, 108]) (da_cons (de_str [98, 105, 98]) (da_cons (de_str [98, 108, 98, 105]) (da_cons (de_str [105, 98, 108, 98]) da_nil))))))) (DE.p (de_var (pv 0))) (fun _ _ => rfl)) (de_var (pv 1))) (dg_tup rfl (dgs_cons (dg_name (pg_name (i := 2) sc_l_due.nd rfl (Or.inl rfl))) (dgs_cons (dg_name (pg_name (i := 3) sc_l_due.nd rfl (Or.inl rfl))) dgs_nil))) (dss_one (ds_if (dt_not (dt_val (de_callF F_l_is_right hgd hr tk (da_cons (de_var (pv 2)) (da_cons (de_var (pv 3)) da_nil))))) (dss_one (ds_ret (DN.fr (dn_lst (da_cons (de_str [119, 105, 115, 104]) (da_cons (de_var (pv 3)) (da_cons de_bl da_nil))))))) dss_nil)))
      (dss_one (ds_ret (DN.fr (dn_lst (da_cons (de_str [112, 108, 97, 99, 101, 115]) da_nil)))))))) hp) (F.binds (ps := ["_law_way", "_law_some"]) fun _ _ _ _ _ _ us hl => match us, hl with | [_, _], _ => rfl)
theorem sc_law : FnScope ["_law_script", "_law_stream_here", "_law_turn", "_law_word", "_law_way", "_law_kinds", "_law_k", "_law_some", "_law_kind", "_law_again"] ["_law_script"] (defScope s_law) := ⟨rfl, rfl, rfl, by decide +kernel, rfl, by decide +kernel, by decide +kernel⟩
def w_law : SW stq :=
  (wSeq (wFor (wRng1 (wC (.int 3))) (gwN 2) (wSeq (wSet 3 (wI (wCallB 2 (lq d_l_drawn) (wACons (wVar 1) (wACons (wC (.int 24)) wANil)) xno)))
    (wFor (wRng1 (wC (.int 12))) (gwN 4) (wSeq (wSet 5 (wI (wBin oIx (wL (wLst (wACons (wC (.str [108])) (wACons (wC (.str [105, 108])) (wACons (wC (.str [98, 105, 98])) (wACons (wC (.str [98, 108, 98, 105])) (wACons (wC (.str [105, 98, 108, 98])) (wACons (wC (.str [98])) (wACons (wC (.str [105, 105])) (wACons (wC (.str [98, 98, 98])) (wACons (wC (.str [98, 98, 98])) (wACons (wC (.str [105])) (wACons (wC (.str [108, 105])) (wACons (wC (.str [105, 105])) wANil)))))))))))))) (wVar 4))))
    (wFor (wRng1 (wC (.int 6))) (gwN 6) (wSeq (wSet 7 (wO (wLc (wItems (wVar 5)) (gwN 8) wYes (wDIx (wC (.dic (tD [([108], .str [97]), ([105], .int 2), ([98], .bl true)]))) (wVar 8)) [8])))
    (wSeq (wFor (wRng1 (wCallB 2 (lq d_l_draw) (wACons (wVar 1) (wACons (wC (.int 3)) wANil)) xno)) (gwN 9) (wStore 7 (wCallB 1 (lq d_l_odd) (wACons (wVar 1) wANil) xno) (wCallB 2 (lq d_l_draw) (wACons (wVar 1) (wACons (wCB cLen (wACons (wPk 7) wANil)) wANil)) xno)))
    (wFrz 7 (wIfS (wB (wBin oNe (wCB cRepr (wACons (wCallB 3 d_l_told55 (wACons (wVar 3) (wACons (wVar 4) (wACons (wVar 7) wANil))) xno) wANil)) (wCB cRepr (wACons (wCallB 2 (lq d_l_due55) (wACons (wVar 4) (wACons (wVar 7) wANil)) xno) wANil)))) (wRet (wC (.bl false))) wNext)))))))))
    (wRet (wC (.bl true))))
theorem ok_law {P : Program} {w : World} {K : PySem.W.Frag} {mg : Str → Option Value} {base : Heap} {f fs : Addr} {fd fds : FuncData} (F : Fun K "law" "law" s_law f fd) (FS : FnG P w K mg base 1 fs fds ["_law_script"] (spStream K)) (gs : mg "_law_stream" = some (.ref fs)) (ks : PySem.W.keepIn K (.ref fs) = true) (bs : Binds K fds ["_law_script"] []) (F_l_drawn : FnB P w K mg base 3 "_law_drawn" ["_law_stream_here", "_law_most"] (liftSp K mg 2 (lq d_l_drawn))) (F_l_draw : FnB P w K mg base 1 "_law_draw" ["_law_stream_here", "_law_many"] (liftSp K mg 2 (lq d_l_draw))) (F_l_odd : FnB P w K mg base 2 "_law_odd" ["_law_stream_here"] (liftSp K mg 1 (lq d_l_odd))) (F_l_told : FnB P w K mg base 7 "_law_told" ["_law_word", "_law_way", "_law_some"] (liftSp K mg 3 d_l_told55)) (F_l_due : FnB P w K mg base 2 "_law_due" ["_law_way", "_law_some"] (liftSp K mg 2 (lq d_l_due55))) (m_len : mg "len" = none) (m_range : mg "range" = none) (m_repr : mg "repr" = none) (m_sm : SmB base)
    (hp : w_law kLawQ (rhoLaw 10 1) ⟨0, [.raw, .raw]⟩) : FnG P w K mg base 8 f fd ["_law_script"] (spLaw K) :=
  law_ofQ F sc_law (by decide) rfl (fun cdv A outer s H E hr hgd => ps_set (i := 1) sc_law.nd rfl (.inl rfl) (pe_callG FS hgd (hr.mono (by decide)) rfl gs ks bs (fun σ pins H s e s2 => passLN pins σ H s e s2) (pa_cons (pv 0) pa_nil)))
    (fun cdv A outer s H E W0 hr hgd tk => (dss_cons (ds_for (passes_of rfl) rfl (di_range1 m_range de_int) (dg_name (pg_name (i := 2) sc_law.nd rfl (Or.inl rfl))) (dss_cons (ds_set (i := 3) sc_law.nd rfl (.inl rfl) (DE.v (de_callF F_l_drawn hgd (hr.mono (by decide)) tk (da_cons (de_var (pv 1)) (da_cons de_int da_nil)))))
      (dss_one (ds_for (passes_of rfl) rfl (di_range1 m_range de_int) (dg_name (pg_name (i := 4) sc_law.nd rfl (Or.inl rfl))) (dss_cons (ds_set (i := 5) sc_law.nd rfl (.inl rfl) (DE.v (de_ix (DN.p (dn_lst (da_cons (de_str [108]) (da_cons (de_str [105, 108]) (da_cons (de_str [98, 105, 98]) (da_cons (de_str [98, 108, 98, 105]) (da_cons (de_str [105, 98, 108, 98]) (da_cons (de_str [98]) (da_cons (de_str [105, 105]) (da_cons (de_str [98, 98, 98]) (da_cons (de_str [98, 98, 98]) (da_cons (de_str [105]) (da_cons (de_str [108, 105]) (da_cons (de_str [105, 105]) da_nil)))))))))))))) (DE.p (de_var (pv 4))) (fun _ _ => rfl))))
      (dss_one (ds_for (passes_of rfl) rfl (di_range1 m_range de_int) (dg_name (pg_name (i := 6) sc_law.nd rfl (Or.inl rfl))) (dss_cons (ds_setLc (i := 7) (own := [("_law_kind", 8)]) rfl sc_law.nd rfl rfl (sw_true rfl rfl rfl (by decide +kernel)) (di_seq (de_var (pv 5))) (blkOk_by (own := [("_law_kind", 8)]) (N := ["_law_script", "_law_stream_here", "_law_turn", "_law_word", "_law_way", "_law_kinds", "_law_k", "_law_some", "_law_kind", "_law_again"]) (sc := defScope s_law) (by decide +kernel)) (by decide) (fun _ _ _ _ _ => (dg_name (pg_name (i := 8) sc_law.nd rfl (Or.inl rfl)))) (fun _ _ _ _ _ => dts_nil) (fun _ _ _ _ _ => (de_dix hr.units (de_dicT [([108], .str [97]), ([105], .int 2), ([98], .bl true)] [(.inr "l", .str "a"), (.inr "i", .int 2), (.inr "b", .bl true)] (pps_cons pe_str pe_str (pps_cons pe_str pe_int (pps_cons pe_str pe_bl pps_nil))) (fun _ _ _ h => h) (fun _ _ => (.cons (.str "a" _ rfl) (.cons (.int 2) (.cons (.bl true) .nil))))) (de_var (pv 8)) (fun _ _ => rfl))))
      (dss_cons (ds_for (passes_of rfl) rfl (di_range1 m_range (de_callF F_l_draw hgd (hr.mono (by decide)) tk (da_cons (de_var (pv 1)) (da_cons de_int da_nil)))) (dg_name (pg_name (i := 9) sc_law.nd rfl (Or.inl rfl))) (dss_one (ds_store (i := 7) (pv 7) (de_callF F_l_odd hgd (hr.mono (by decide)) tk (da_cons (de_var (pv 1)) da_nil)) (de_callF F_l_draw hgd (hr.mono (by decide)) tk (da_cons (de_var (pv 1)) (da_cons (de_callB calld_len (by rfl) m_len (by decide +kernel) (dap_cons (dp_own (pv 7)) dap_nil)) da_nil))))))
      (dss_frz 7 (dss_one (ds_if (dt_cmp (opd_ne hr.units) (DE.p (de_callB (calld_repr m_sm hgd hr.units) (by rfl) m_repr (by decide +kernel) (dap_cons (DE.p (de_callF F_l_told hgd (hr.mono (by decide)) tk (da_cons (de_var (pv 3)) (da_cons (de_var (pv 4)) (da_cons (de_var (pv 7)) da_nil))))) dap_nil))) (DE.p (de_callB (calld_repr m_sm hgd hr.units) (by rfl) m_repr (by decide +kernel) (dap_cons (DE.p (de_callF F_l_due hgd (hr.mono (by decide)) tk (da_cons (de_var (pv 4)) (da_cons (de_var (pv 7)) da_nil)))) dap_nil))) (nomark _)) (dss_one (ds_ret de_bl)) dss_nil))))))))))))
      (dss_one (ds_ret de_bl)))) hp

end LW
set_option Elab.async false
set_option linter.all false
set_option maxRecDepth 100000
set_option maxHeartbeats 4000000
namespace LW
open PySem L2 DL
theorem p_tail_order (ds : List D) (g : Nat) (q : D → Nat → Prop) (ex : Exn → Nat → Prop) (hl : ds.length = 1) (h : d_tail_order ds g q ex) : w_tail_order ex (kEndS q) (startD ["word", "tail", "place"] ds) g := by
  obtain ⟨w, rfl, hw, hq⟩ := h
  simp [w_tail_order]
  refine ⟨small_line (by omega), by omega, by rw [rngL_len]; exact small_line (by omega), ?_⟩
  rw [rngL_0]
  refine lcW_all (M := stg) _ (fun i : Nat => pairTI (w.drop i, (i : Int))) (List.range w.length) (fun i hi k1 k0 hk => ?_) ?_
  · simp
    refine ⟨small_line (by omega), small_line (by decide), ?_⟩
    rw [cut_from]
    exact hk
  · refine ⟨(List.range w.length).map fun i : Nat => (w.drop i, (i : Int)), by rw [List.map_map]; rfl, fun ys hp hs => ⟨by rw [List.length_map, hp.length_eq]; simp; exact small_line (by omega), ?_⟩⟩
    refine lcW_all (M := stg) pairTI (fun y => D.int y.2) ys (fun y hy k1 k0 hk => ?_) ⟨g, Nat.le_refl _, ?_⟩
    · simp [pairTI, gwT]
      exact hk
    · rw [sorted_TO hp hs]
      exact hq
theorem p_ranks_in (ds : List D) (g : Nat) (q : D → Nat → Prop) (ex : Exn → Nat → Prop) (hl : ds.length = 1) (h : d_ranks_in ds g q ex) : w_ranks_in ex (kEndS q) (startD ["order", "ranks", "rank", "place"] ds) g := by
  obtain ⟨o, rfl, ho, hlen, hq⟩ := h
  simp [w_ranks_in, nats_len]
  refine ⟨small_line (by decide), by omega, small_line (by omega), ?_⟩
  refine forW_word (M := stg) (fun i ρ g' => g' = g ∧ ∃ F y2 y3, ρ = [.im (.tup (nats o)), .own F, y2, y3] ∧ F.length = o.length ∧ ∀ (j p : Nat), j < i → o[j]? = some p → F[p]? = some (.int j)) _ ⟨rfl, _, _, _, rfl, by simp, fun _ _ h => by omega⟩ (fun i d ρ g' K hd hI hK => ?_) (fun ρ g' hI => ?_)
  · obtain ⟨rfl, F, y2, y3, rfl, hF, hp⟩ := hI
    obtain ⟨e, he, rfl⟩ := en_get hd
    obtain ⟨p, hop, rfl⟩ := nats_get he
    have hp1 : p < F.length := by rw [hF]; exact ho.lt (List.mem_of_getElem? hop)
    simp [gwT]
    refine ⟨p, ixN_ofNat hp1, hK _ _ ⟨rfl, _, _, _, rfl, by rw [List.length_set]; exact hF, fun j p' hj hjp => ?_⟩⟩
    by_cases e : j = i
    · subst e
      rw [hop] at hjp
      cases hjp
      rw [List.getElem?_set_self hp1]
    · rw [List.getElem?_set_ne (fun z => e (by
        have h1 := idx_of_get ho.nodup hop
        have h2 := idx_of_get ho.nodup hjp
        rw [z] at h1
        omega))]
      exact hp j p' (by omega) hjp
  · obtain ⟨rfl, F, y2, y3, rfl, hF, hp⟩ := hI
    rw [enL_len, nats_len] at hp
    simp
    refine ⟨_, Nat.le_refl _, ?_⟩
    rw [filled_inv ho hF fun j p h => hp j p (List.getElem?_eq_some_iff.mp h).1 h]
    exact hq
theorem p_is_whole (ds : List D) (g : Nat) (q : D → Nat → Prop) (ex : Exn → Nat → Prop) (hl : ds.length = 1) (h : d_is_whole ds g q ex) : w_is_whole ex (kEndS q) (startD ["value"] ds) g := by
  obtain ⟨v, rfl, ⟨t, ht⟩, hq⟩ := h
  simp [w_is_whole]
  refine ⟨_, ht, ?_⟩
  cases v with
  | int i =>
    cases ht
    have t1 : isTyp "int" "int" = true := by decide
    have t2 : isTyp "int" "bool" = false := by decide
    simp [t1, t2]
    exact ⟨_, Nat.le_refl _, hq⟩
  | bl b =>
    cases ht
    have t1 : isTyp "bool" "int" = true := by decide
    have t2 : isTyp "bool" "bool" = true := by decide
    simp [t1, t2]
    exact ⟨_, Nat.le_refl _, hq⟩
  | ob => cases ht
  | exn => cases ht
  | tx => cases ht
  | cl => cases ht
  | _ =>
    cases ht
    simp [isTyp]
    exact ⟨_, Nat.le_refl _, hq⟩
theorem p_l_alone (ds : List D) (g : Nat) (q : D → Nat → Prop) (ex : Exn → Nat → Prop) (hl : ds.length = 1) (h : d_l_alone55 ds g q ex) : w_l_alone ex (kEndS q) (startD ["_law_error", "_law_kinds", "_law_is_lookup"] ds) g := by
  obtain ⟨c, ns, vs, rfl, rfl | rfl, hq⟩ := h
  · simp +decide [w_l_alone, isX]
    refine ⟨fun x hx => ?_, _, Nat.le_refl _, hq⟩
    rcases hx with (rfl | rfl | rfl) | rfl <;> rfl
  · simp +decide [w_l_alone, isX]
    refine ⟨fun x hx => ?_, _, Nat.le_refl _, hq⟩
    rcases hx with (rfl | rfl | rfl) | rfl <;> rfl
theorem p_l_is_right (ds : List D) (g : Nat) (q : D → Nat → Prop) (ex : Exn → Nat → Prop) (hl : ds.length = 2) (h : d_l_is_right55 ds g q ex) : w_l_is_right ex (kEndS q) (startD ["_law_kind", "_law_value"] ds) g := by
  obtain ⟨j, v, rfl, hj, ⟨t, ht⟩, hs, hq⟩ := h
  have hj : j = 0 ∨ j = 1 ∨ j = 2 ∨ j = 3 := by omega
  rcases hj with rfl | rfl | rfl | rfl
  · simp [w_l_is_right, kndC]
    refine ⟨_, ht, ?_⟩
    have hq : q (.bl (isLetD v)) g := hq
    cases v with
    | str x =>
      cases ht
      simp [isTyp]
      refine ⟨small_line (Nat.le_trans hs (by decide)), ?_⟩
      match x, hq with
      | [], hq => simp; exact ⟨_, Nat.le_refl _, hq⟩
      | [c], hq =>
        have e : isLetD (.str [c]) = decide (c ∈ abcW) := abc_in.symm
        rw [e] at hq
        simp at hq ⊢
        exact ⟨_, Nat.le_refl _, hq⟩
      | a :: b :: c, hq =>
        simp
        exact ⟨_, Nat.le_refl _, hq⟩
    | ob => cases ht
    | exn => cases ht
    | tx => cases ht
    | cl => cases ht
    | _ =>
      cases ht
      simp [isTyp]
      exact ⟨_, Nat.le_refl _, hq⟩
  all_goals
    simp [w_l_is_right, kndC]
    refine ⟨_, ht, ?_⟩
    cases v with
    | ob => cases ht
    | exn => cases ht
    | tx => cases ht
    | cl => cases ht
    | _ =>
      cases ht
      simp [isTyp]
      first
        | exact ⟨_, Nat.le_refl _, hq⟩
        | exact ⟨_, rfl, _, Nat.le_refl _, hq⟩
theorem p_tail_ranks (ds : List D) (g : Nat) (q : D → Nat → Prop) (ex : Exn → Nat → Prop) (hl : ds.length = 1) (h : d_tail_ranks ds g q ex) : w_tail_ranks ex (kEndS q) (startD ["word"] ds) g := by
  obtain ⟨w, rfl, hw, hq⟩ := h
  simp [w_tail_ranks]
  refine ⟨w, rfl, hw, ?_⟩
  simp
  exact ⟨tOrd w, rfl, tOrd_perm w, by rw [tOrd_len]; exact hw, g, Nat.le_refl _, hq⟩
theorem p_ranks_of (ds : List D) (g : Nat) (q : D → Nat → Prop) (ex : Exn → Nat → Prop) (hl : ds.length = 1) (h : d_ranks_of ds g q ex) : w_ranks_of ex (kEndS q) (startD ["order"] ds) g := by
  obtain ⟨o, rfl, ho, hlen, hq⟩ := h
  simp [w_ranks_of]
  exact ⟨o, rfl, ho, hlen, _, Nat.le_refl _, hq⟩
theorem p_strict_steps (ds : List D) (g : Nat) (q : D → Nat → Prop) (ex : Exn → Nat → Prop) (hl : ds.length = 1) (h : d_strict_steps ds g q ex) : w_strict_steps ex (kEndS q) (startD ["order", "ranks", "steps", "index", "one", "other"] ds) g := by
  obtain ⟨o, rfl, ho, hl, hq⟩ := h
  simp [w_strict_steps]
  refine ⟨o, rfl, ho, hl, ?_⟩
  simp
  rw [enz_next]
  refine ⟨by rw [nats_len, inv_len]; exact small_line (by omega), by rw [List.length_map, List.length_range]; exact small_line (by omega), ?_⟩
  refine lcW_map (M := stg) _ (fun i : Nat => D.int ((i + 1 : Nat) : Int)) (fun i => decide (rkE o (o.getD (i + 1) 0 + 1) < rkE o (o.getD i 0 + 1))) _ (fun i hi k1 k0 hk => ?_) ?_
  · have hi' := List.mem_range.mp hi
    have b : ∀ j, j < o.length → o.getD j 0 + 1 ≤ o.length := fun j hj => by
      rw [List.getD_eq_getElem?_getD, List.getElem?_eq_getElem hj]
      exact ho.lt (List.getElem_mem hj)
    have e1 := rkE_at (b i (by omega))
    have e2 := rkE_at (b (i + 1) (by omega))
    simp [gwT]
    refine ⟨_, e1, _, e2, ?_⟩
    simpa using hk
  · refine ⟨g, Nat.le_refl _, ?_⟩
    have e : ((List.range (o.length - 1)).filter fun i => decide (rkE o (o.getD (i + 1) 0 + 1) < rkE o (o.getD i 0 + 1))).map (fun i : Nat => D.int ((i + 1 : Nat) : Int)) = nats (stpW o) := by
      unfold stpW nats
      rw [List.map_map]
      rfl
    rw [e]
    exact hq
theorem p_is_wish (ds : List D) (g : Nat) (q : D → Nat → Prop) (ex : Exn → Nat → Prop) (hl : ds.length = 2) (h : d_is_wish ds g q ex) : w_is_wish ex (kEndS q) (startD ["name", "value"] ds) g := by
  obtain ⟨j, v, rfl, hj, ⟨t, ht⟩, hs, hq⟩ := h
  have e0 : prpN 0 = [108, 101, 116, 116, 101, 114] := by decide +kernel
  have e1 : prpN 1 = [114, 97, 110, 107] := by decide +kernel
  have e2 : prpN 2 = [102, 97, 99, 116, 111, 114] := by decide +kernel
  have e3 : prpN 3 = [115, 116, 114, 105, 99, 116] := by decide +kernel
  have hj : j = 0 ∨ j = 1 ∨ j = 2 ∨ j = 3 := by omega
  rcases hj with rfl | rfl | rfl | rfl
  · simp [w_is_wish, e0]
    refine ⟨_, ht, ?_⟩
    have hq : q (.bl (isLetD v)) g := hq
    cases v with
    | str x =>
      cases ht
      simp [isTyp]
      refine ⟨small_line (Nat.le_trans hs (by decide)), ?_⟩
      match x, hq with
      | [], hq => simp; exact ⟨_, Nat.le_refl _, hq⟩
      | [c], hq =>
        have e : isLetD (.str [c]) = decide (c ∈ abcW) := abc_in.symm
        rw [e] at hq
        simp at hq ⊢
        exact ⟨_, Nat.le_refl _, hq⟩
      | a :: b :: c, hq =>
        simp
        exact ⟨_, Nat.le_refl _, hq⟩
    | ob => cases ht
    | exn => cases ht
    | tx => cases ht
    | cl => cases ht
    | _ =>
      cases ht
      simp [isTyp]
      exact ⟨_, Nat.le_refl _, hq⟩
  · simp [w_is_wish, e1]
    exact ⟨v, rfl, ⟨t, ht⟩, _, Nat.le_refl _, hq⟩
  · simp [w_is_wish, e2]
    refine ⟨_, ht, _, Nat.le_refl _, ?_⟩
    have hq : q (.bl (isBlD v)) g := hq
    cases v with
    | ob => cases ht
    | exn => cases ht
    | tx => cases ht
    | cl => cases ht
    | _ => cases ht; exact hq
  · simp [w_is_wish, e3]
    refine ⟨_, ht, _, Nat.le_refl _, ?_⟩
    have hq : q (.bl (isBlD v)) g := hq
    cases v with
    | ob => cases ht
    | exn => cases ht
    | tx => cases ht
    | cl => cases ht
    | _ => cases ht; exact hq
theorem p_l_pick (ds : List D) (g : Nat) (q : D → Nat → Prop) (ex : Exn → Nat → Prop) (hl : ds.length = 2) (h : d_l_pick ds g q ex) : w_l_pick ex (kEndS q) (startD ["_law_stream_here", "_law_items"] ds) g := by
  obtain ⟨c, xs, rfl, hc, hne, hlen, hg, hq⟩ := h
  have hpos : 0 < xs.length := List.length_pos_iff.mpr hne
  cases c with
  | lst ds =>
    cases hc
    simp [w_l_pick]
    refine draw_n hpos (by omega) hg fun v hv => ?_
    simp
    exact ⟨_, atI_ofNat (List.getElem?_eq_getElem hv), _, Nat.le_refl _, hq _ (List.getElem_mem hv)⟩
  | tup ds =>
    cases hc
    simp [w_l_pick]
    refine draw_n hpos (by omega) hg fun v hv => ?_
    simp
    exact ⟨_, atI_ofNat (List.getElem?_eq_getElem hv), _, Nat.le_refl _, hq _ (List.getElem_mem hv)⟩
  | str x =>
    cases hc
    rw [List.length_map] at hpos hlen
    simp [w_l_pick]
    refine ⟨small_line hlen, draw_n hpos (by omega) hg fun v hv => ?_⟩
    simp
    exact ⟨small_line hlen, _, atI_ofNat (List.getElem?_eq_getElem hv), _, Nat.le_refl _, hq _ (List.mem_map.mpr ⟨_, List.getElem_mem hv, rfl⟩)⟩
  | _ => cases hc
theorem p_l_odd (ds : List D) (g : Nat) (q : D → Nat → Prop) (ex : Exn → Nat → Prop) (hl : ds.length = 1) (h : d_l_odd ds g q ex) : w_l_odd ex (kEndS q) (startD ["_law_stream_here", "_law_some"] ds) g := by
  obtain ⟨rfl, hg, hq⟩ := h
  unfold w_l_odd
  simp only [wSeq, wSet, wI, wL, wLst, wACons, wANil, wC, wTup, wNeg, wBin, sm_asI, sm_pow]
  refine ⟨⟨by decide, by decide, by decide⟩, small_line (by decide), small_line (by decide), small_line (by decide), small_line (by decide), small_line (by decide), small_line (by decide), ?_⟩
  simp only [wRet, wBin, wL, wBinN, wLst, wVar, wACons, wANil, wC, wTup]
  refine ⟨_, rfl, small_line (by decide), small_line (by decide), ?_⟩
  rw [sm_cat]
  refine ⟨small_line (by decide), ?_⟩
  refine (fun {P : List D → Prop} (A B : List D) (e : A ++ B = oddL) (k : ∀ L, L = oddL → P L) => (k _ e : P (A ++ B))) (P := fun L => wCallB 2 d_l_draw (wACons (wVar 0) (wACons (wC (D.int 25)) wANil)) (xk ex) _ g fun y g2 => oIx (.lst L) y fun d => (kEndS q).rt d g2) _ _ rfl fun L hL => ?_
  simp only [wCallB, wACons, wVar, wC, wANil]
  refine ⟨_, rfl, ?_⟩
  refine ⟨rfl, draw_l (k := 25) hg fun v hv => ?_⟩
  rw [sm_ix1]
  have hv2 : v < L.length := by rw [hL]; exact hv
  exact ⟨_, atI_ofNat (List.getElem?_eq_getElem hv2), _, Nat.le_refl _, hq _ (hL ▸ List.getElem_mem hv2)⟩
theorem due_loop {s0 s1 : Sl} {g : Nat} {ex : Exn → Nat → Prop} : ∀ (js : List Nat) (vs : List D) (y2 y3 : Sl) (k : K3 stg), (∀ j ∈ js, j < 4) → (∀ v ∈ vs, okD v ∧ szD 100000 v) → (∀ y2 y3, fstBad (js.zip vs) = none → k.nx [s0, s1, y2, y3] g) → (∀ v, fstBad (js.zip vs) = some v → k.rt (.lst [.str [119, 105, 115, 104], v, .bl true]) g) →
    forW (gwT 2 (gwCons (gwN 2) (gwCons (gwN 3) gwNil)))
                (wIfS (DL.wNot (wB (wCallB 2 d_l_is_right55 (wACons (wVar 2) (wACons (wVar 3) wANil)) (xk ex))))
                  (wRet
                    (wL
                      (wLst
                        (wACons (wC (D.str [119, 105, 115, 104])) (wACons (wVar 3) (wACons (wC (D.bl true)) wANil))))))
                  wNext) (zipL (js.map fun j => .str [kndC j]) vs) k [s0, s1, y2, y3] g
  | [], _, _, _, k, _, _, h1, _ => h1 _ _ rfl
  | _ :: _, [], _, _, k, _, _, h1, _ => h1 _ _ (by simp [fstBad])
  | j :: js, v :: vs, y2, y3, k, hj, hv, h1, h2 => by
    rw [List.map_cons]
    show forW _ _ (D.tup [.str [kndC j], v] :: zipL (js.map fun j => .str [kndC j]) vs) _ _ _
    obtain ⟨o1, o2⟩ := hv v (List.mem_cons_self ..)
    have j4 := hj j (List.mem_cons_self ..)
    rw [List.zip_cons_cons] at h1 h2
    unfold fstBad at h1 h2
    simp only [forW, gwT, gwCons, gwN, gwNil]
    simp
    refine ⟨j, v, rfl, j4, o1, o2, ?_⟩
    cases c : wishB j v with
    | true =>
      rw [c, if_pos rfl] at h1 h2
      simp
      exact due_loop js vs _ _ k (fun j hj' => hj j (List.mem_cons_of_mem _ hj')) (fun v hv' => hv v (List.mem_cons_of_mem _ hv')) h1 h2
    | false =>
      rw [c] at h2
      simp
      exact ⟨small_line (by decide), h2 _ rfl⟩
theorem p_l_due (ds : List D) (g : Nat) (q : D → Nat → Prop) (ex : Exn → Nat → Prop) (hl : ds.length = 2) (h : d_l_due55 ds g q ex) : w_l_due ex (kEndS q) (startD ["_law_way", "_law_some", "_law_kind", "_law_value"] ds) g := by
  obtain ⟨n, vs, rfl, hn, hv, ho, hq⟩ := h
  unfold dueS at hq
  simp [w_l_due]
  by_cases c : 4 < n
  · rw [if_pos (by omega)]
    rw [if_pos c] at hq
    refine ⟨small_line (by decide), .str (badN n), ?_, small_line (by decide), _, Nat.le_refl _, hq⟩
    have hn' : n = 5 ∨ n = 6 ∨ n = 7 ∨ n = 8 ∨ n = 9 ∨ n = 10 ∨ n = 11 := by omega
    have e5 : badN 5 = [99, 111, 108, 111, 117, 114] := by decide +kernel
    have e6 : badN 6 = [82, 97, 110, 107] := by decide +kernel
    have e7 : badN 7 = [119, 101, 105, 103, 104, 116] := by decide +kernel
    have e8 : badN 8 = [98, 101, 103, 105, 110, 115] := by decide +kernel
    have e9 : badN 9 = [112, 108, 97, 99, 101] := by decide +kernel
    have e10 : badN 10 = [116, 97, 105, 108] := by decide +kernel
    have e11 : badN 11 = [111, 114, 100, 101, 114] := by decide +kernel
    rcases hn' with rfl | rfl | rfl | rfl | rfl | rfl | rfl
    · rw [e5]; rfl
    · rw [e6]; rfl
    · rw [e7]; rfl
    · rw [e8]; rfl
    · rw [e9]; rfl
    · rw [e10]; rfl
    · rw [e11]; rfl
  · rw [if_neg (by omega)]
    rw [if_neg c] at hq
    have e : ∃ d, atI [D.str [108], D.str [105, 108], D.str [98, 105, 98], D.str [98, 108, 98, 105], D.str [105, 98, 108, 98]] (n : Int) = some d ∧ itemsOf d = some ((kindW n).map fun j => .str [kndC j]) := by
      have hn' : n = 0 ∨ n = 1 ∨ n = 2 ∨ n = 3 ∨ n = 4 := by omega
      rcases hn' with rfl | rfl | rfl | rfl | rfl <;> exact ⟨_, rfl, rfl⟩
    have j4 : ∀ j ∈ kindW n, j < 4 := by
      have hn' : n = 0 ∨ n = 1 ∨ n = 2 ∨ n = 3 ∨ n = 4 := by omega
      rcases hn' with rfl | rfl | rfl | rfl | rfl <;> decide
    obtain ⟨d, e1, e2⟩ := e
    refine ⟨small_line (by decide), d, e1, _, e2, ?_⟩
    refine due_loop (kindW n) vs _ _ _ j4 ho (fun y2 y3 e => ?_) (fun v e => ?_)
    · rw [e] at hq
      simp
      exact ⟨small_line (by decide), _, Nat.le_refl _, hq⟩
    · rw [e] at hq
      exact ⟨_, Nat.le_refl _, hq⟩
theorem p_factor_places (ds : List D) (g : Nat) (q : D → Nat → Prop) (ex : Exn → Nat → Prop) (hl : ds.length = 1) (h : d_factor_places ds g q ex) : w_factor_places ex (kEndS q) (startD ["order", "found", "least", "place", "rank"] ds) g := by
  obtain ⟨o, rfl, ho, hl, hq⟩ := h
  simp [w_factor_places]
  refine ⟨o, rfl, ho, hl, ?_⟩
  simp
  have li := inv_len o
  have lt : ∀ i, i < o.length → (inv o).getD i 0 < o.length := fun i hi => by
    rw [inv_getD hi]
    exact idx_lt ho hi
  generalize inv o = r at *
  rw [nats_len]
  have eE : enL 0 (nats r) = (List.range r.length).map fun i : Nat => D.tup [.int (i : Nat), .int (r.getD i 0 : Nat)] := by
    refine List.ext_getElem? fun i => ?_
    by_cases h : i < r.length
    · rw [List.getElem?_map, List.getElem?_range h]
      have hl' : i < (enL 0 (nats r)).length := by rw [enL_len, nats_len]; exact h
      obtain ⟨e, e1, e2⟩ := en_get (List.getElem?_eq_getElem hl')
      rw [nats_at h] at e1
      cases e1
      rw [List.getElem?_eq_getElem hl', e2]
      rfl
    · rw [List.getElem?_eq_none (by rw [enL_len, nats_len]; omega), List.getElem?_eq_none (by simpa using h)]
  rw [eE]
  refine forW_word (M := stg) (fun i ρ g' => g' = g ∧ ∃ (m : Nat) (y3 y4 : Sl), (∀ x, x < m ↔ x < o.length ∧ ∀ q, q < i → x < r.getD q 0) ∧ ρ = [.im (.tup (nats o)), .own (nats ((List.range i).filter fun p => (List.range p).all fun q => decide (r.getD p 0 < r.getD q 0))), .im (.int m), y3, y4]) _ ⟨rfl, o.length, _, _, fun x => ⟨fun h => ⟨h, fun q hq => by omega⟩, fun h => h.1⟩, rfl⟩ (fun i d ρ g' K hd hI hK => ?_) (fun ρ g' hI => ?_)
  · obtain ⟨rfl, m, y3, y4, hm, rfl⟩ := hI
    have hi : i < r.length := by
      have := (List.getElem?_eq_some_iff.mp hd).1
      simpa using this
    rw [List.getElem?_map, List.getElem?_range hi] at hd
    have hd2 := Option.some.inj hd
    clear hd
    have hri := lt i (by omega)
    have cond : r.getD i 0 < m ↔ ((List.range i).all fun q => decide (r.getD i 0 < r.getD q 0)) = true := by
      rw [hm, List.all_eq_true]
      constructor
      · rintro ⟨_, h⟩ q hq
        exact decide_eq_true (h q (List.mem_range.mp hq))
      · intro h
        exact ⟨hri, fun q hq => of_decide_eq_true (h q (List.mem_range.mpr hq))⟩
    have step : (List.range (i + 1)).filter (fun p => (List.range p).all fun q => decide (r.getD p 0 < r.getD q 0)) = (List.range i).filter (fun p => (List.range p).all fun q => decide (r.getD p 0 < r.getD q 0)) ++ if r.getD i 0 < m then [i] else [] := by
      rw [List.range_succ, List.filter_append, List.filter_cons, List.filter_nil]
      by_cases c : r.getD i 0 < m
      · rw [if_pos (cond.mp c), if_pos c]
      · rw [if_neg fun z => c (cond.mpr z), if_neg c]
    have up : ∀ x, x < (if r.getD i 0 < m then r.getD i 0 else m) ↔ x < o.length ∧ ∀ q, q < i + 1 → x < r.getD q 0 := fun x => by
      have h1 := hm x
      constructor
      · intro h
        have hx : x < m := by split at h <;> omega
        have h2 := h1.mp hx
        refine ⟨h2.1, fun q hq => ?_⟩
        by_cases c : q = i
        · rw [c]
          split at h <;> omega
        · exact h2.2 q (by omega)
      · rintro ⟨h2, h3⟩
        have hx : x < m := h1.mpr ⟨h2, fun q hq => h3 q (by omega)⟩
        have := h3 i (by omega)
        split <;> omega
    rw [step] at hK
    have lf : ((List.range i).filter fun p => (List.range p).all fun q => decide (r.getD p 0 < r.getD q 0)).length ≤ i := by
      have := List.length_filter_le (fun p => (List.range p).all fun q => decide (r.getD p 0 < r.getD q 0)) (List.range i)
      rwa [List.length_range] at this
    generalize (List.range i).filter (fun p => (List.range p).all fun q => decide (r.getD p 0 < r.getD q 0)) = S at *
    have hd3 : d = D.tup [.int (i : Nat), .int (r.getD i 0 : Nat)] := hd2.symm
    clear hd2
    generalize r.getD i 0 = x at *
    subst hd3
    simp [gwT]
    by_cases c : x < m
    · rw [if_pos c] at up hK ⊢
      refine ⟨lt_line (by rw [nats_len]; omega), hK _ _ ⟨rfl, x, _, _, up, by rw [← nats_app]; rfl⟩⟩
    · rw [if_neg c] at up hK ⊢
      rw [List.append_nil] at hK
      exact hK _ _ ⟨rfl, m, _, _, up, rfl⟩
  · obtain ⟨rfl, m, y3, y4, hm, rfl⟩ := hI
    rw [List.length_map, List.length_range]
    simp
    exact ⟨_, Nat.le_refl _, hq⟩
theorem p_l_drawn (ds : List D) (g : Nat) (q : D → Nat → Prop) (ex : Exn → Nat → Prop) (hl : ds.length = 2) (h : d_l_drawn ds g q ex) : w_l_drawn ex (kEndS q) (startD ["_law_stream_here", "_law_most", "_law_size", "_law_letters", "_law_found", "_law_k", "_law_many"] ds) g := by
  obtain ⟨most, rfl, h1, h2, hg, hq⟩ := h
  -- the end: all found are letters
  have fin : ∀ (ys : List D) (g' : Nat), (∀ d ∈ ys, IsL d) → 1 ≤ ys.length → ys.length ≤ most → g' ≤ g + 40 → oJoin [] (.lst ys) fun r => ∃ n, g' ≤ n ∧ q r n := fun ys g' hy l1 l2 hg' => by
    obtain ⟨cs, rfl, hL, hc⟩ := isL_all hy
    refine ⟨_, cs.map fun c => [c], .inl rfl, by rw [List.map_map]; rfl, by rw [ones_sum, List.length_nil, Nat.mul_zero]; omega, g + 40, hg', ?_⟩
    rw [jn_ones]
    exact hq cs (by omega) (by omega) hL
  simp [w_l_drawn]
  refine draw_n (by omega) (by omega) (by omega) fun v hv => ?_
  simp
  refine ⟨small_line (by decide), pick_of (by omega) rfl (by simp) (by simp) fun L hL => ?_⟩
  have hLs : ∃ x : List Nat, L = .str x ∧ x ≠ [] ∧ x.length ≤ 26 ∧ Lets x := by
    have : ∀ x ∈ [[97], [97, 98], [97, 98, 99], [97, 122], [97, 97, 98], [97, 98, 99, 100, 101, 102, 103, 104, 105, 106, 107, 108, 109, 110, 111, 112, 113, 114, 115, 116, 117, 118, 119, 120, 121, 122]], x ≠ [] ∧ x.length ≤ 26 ∧ ∀ c ∈ x, 97 ≤ c ∧ c < 123 := by decide
    have hm : L ∈ ([[97], [97, 98], [97, 98, 99], [97, 122], [97, 97, 98], [97, 98, 99, 100, 101, 102, 103, 104, 105, 106, 107, 108, 109, 110, 111, 112, 113, 114, 115, 116, 117, 118, 119, 120, 121, 122]] : List (List Nat)).map D.str := hL
    obtain ⟨x, hx, rfl⟩ := List.mem_map.mp hm
    exact ⟨x, rfl, this x hx⟩
  obtain ⟨x, rfl, hx0, hxl, hxL⟩ := hLs
  have e1 : (1 : Int) + v = ((v + 1 : Nat) : Int) := by omega
  have rl : rngL 0 (1 + (v : Int)) = (List.range (v + 1)).map fun (i : Nat) => D.int (i : Int) := by rw [e1, rngL_0]
  refine ⟨by omega, by omega, by rw [rngL_len]; exact small_line (by omega), ?_⟩
  rw [rl]
  refine lcW_draw _ (fun _ d => IsL d) 1 (g + 40) (List.range (v + 1)) (by rw [List.length_range]; omega) (fun i hi g1 k1 k0 hg1 hk => ?_) fun ys hy => ?_
  · simp
    refine pick_of (by omega) rfl (by simpa using hx0) (by rw [List.length_map]; omega) fun d hd => hk d ?_
    obtain ⟨c, hc, rfl⟩ := List.mem_map.mp hd
    exact ⟨c, rfl, hxL c hc⟩
  · obtain ⟨hy1, hy2⟩ := paired_all hy
    rw [List.length_range] at hy2
    rw [List.length_range]
    refine draw_l (k := 3) (by omega) fun u hu => ?_
    simp
    split
    · -- repeated
      have em : (if (5 : Int) < 1 + (v : Int) then (5 : Int) else 1 + (v : Int)) = ((if 5 < 1 + v then 5 else 1 + v : Nat) : Int) := by split <;> split <;> omega
      rw [em]
      refine draw_n (by split <;> omega) (by split <;> omega) (by omega) fun m hm => ?_
      simp
      refine ⟨by omega, by omega, small_line (by omega), ?_⟩
      have pos : 0 < 1 + m := by omega
      have hm' : 1 + m ≤ ys.length := by split at hm <;> omega
      refine lcW_all (M := stg) _ (fun i => ys.getD (i % (1 + m)) .non) (List.range (v + 1)) (fun i hi k1 k0 hk => ?_) ?_
      · simp
        have lt := Nat.mod_lt i pos
        refine ⟨by omega, ?_⟩
        rw [show (1 : Int) + (m : Int) = ((1 + m : Nat) : Int) by omega, ← Int.natCast_emod]
        refine ⟨ys.getD (i % (1 + m)) .non, atI_ofNat ?_, hk⟩
        rw [List.getD_eq_getElem?_getD, List.getElem?_eq_getElem (by omega)]
        rfl
      · have zs : ∀ d ∈ (List.range (v + 1)).map (fun i => ys.getD (i % (1 + m)) D.non), IsL d := fun d hd => by
          obtain ⟨i, _, rfl⟩ := List.mem_map.mp hd
          have lt := Nat.mod_lt i pos
          rw [List.getD_eq_getElem?_getD, List.getElem?_eq_getElem (by omega)]
          exact hy1 _ (List.getElem_mem _)
        generalize hzs : (List.range (v + 1)).map (fun i => ys.getD (i % (1 + m)) D.non) = zs' at zs ⊢
        have hzl : zs'.length = v + 1 := by rw [← hzs]; simp
        refine draw_l (k := 2) (by omega) fun t ht => ?_
        simp
        split
        · refine pick_of (by omega) rfl (by simp) (by simp) fun d hd => ?_
          rw [e1]
          refine draw_n (by omega) (by omega) (by omega) fun s hs => ?_
          simp
          refine ⟨s, ixN_ofNat (by omega), ?_⟩
          have hd' : IsL d := by
            have : ∀ c ∈ [97, 98, 122], 97 ≤ c ∧ c < 123 := by decide
            have hm : d ∈ ([97, 98, 122] : List Nat).map (fun c => D.str [c]) := hd
            obtain ⟨c, hc, rfl⟩ := List.mem_map.mp hm
            exact ⟨c, rfl, this c hc⟩
          refine fin _ _ (fun d' hd2 => ?_) (by rw [List.length_set]; omega) (by rw [List.length_set]; omega) (by omega)
          rcases List.mem_or_eq_of_mem_set hd2 with h | rfl
          · exact zs d' h
          · exact hd'
        · exact fin zs' _ zs (by omega) (by omega) (by omega)
    · exact fin ys _ hy1 (by omega) (by omega) (by omega)
theorem in_natsL {L : List Nat} {i : Nat} {Q : D → Prop} (h : Q (.bl (decide (i ∈ L)))) : oIn (.int (i : Int)) (.tup (nats L)) Q := by
  rw [sm_in2]
  have e : (nats L).any (fun y => eqF y (.int (i : Int))) = decide (i ∈ L) := by
    rw [Bool.eq_iff_iff]
    unfold nats
    simp [eqF]
    constructor
    · rintro ⟨a, ha, e⟩
      have e : a = i := by omega
      exact e ▸ ha
    · intro ha
      exact ⟨i, ha, rfl⟩
  rw [e]
  exact ⟨rfl, by unfold nats; simp [flatD], h⟩
theorem col_0 (w : List Nat) : (w.map fun c => D.str [c]) = (List.range w.length).map (colD w 0) := by
  apply List.ext_getElem
  · simp
  · intro i h1 h2
    have hi : i < w.length := by simpa using h1
    simp [colD, List.getD_eq_getElem?_getD, hi]
theorem inv_length (o : List Nat) : (inv o).length = o.length := by unfold inv; simp
theorem col_1 (w : List Nat) : nats (inv (tOrd w)) = (List.range w.length).map (colD w 1) := by
  have l : (inv (tOrd w)).length = w.length := by rw [inv_length, tOrd_len]
  apply List.ext_getElem
  · simp [nats, l]
  · intro i h1 h2
    have hi : i < (inv (tOrd w)).length := by simpa [nats] using h1
    simp [nats, colD, List.getD_eq_getElem?_getD, hi]
theorem p_values_of (ds : List D) (g : Nat) (q : D → Nat → Prop) (ex : Exn → Nat → Prop) (hl : ds.length = 2) (h : d_values_of ds g q ex) : w_values_of ex (kEndS q) (startD ["word", "name", "order", "place", "rank"] ds) g := by
  obtain ⟨j, w, rfl, hj, hw, hq⟩ := h
  have e0 : prpN 0 = [108, 101, 116, 116, 101, 114] := by decide +kernel
  have e1 : prpN 1 = [114, 97, 110, 107] := by decide +kernel
  have e2 : prpN 2 = [102, 97, 99, 116, 111, 114] := by decide +kernel
  have e3 : prpN 3 = [115, 116, 114, 105, 99, 116] := by decide +kernel
  have hj : j = 0 ∨ j = 1 ∨ j = 2 ∨ j = 3 := by omega
  rcases hj with rfl | rfl | rfl | rfl
  · simp [w_values_of, e0]
    refine ⟨w, rfl, by omega, small_line (by omega), _, Nat.le_refl _, ?_⟩
    rw [col_0]
    exact hq
  · simp [w_values_of, e1]
    refine ⟨w, rfl, by omega, w, rfl, by omega, ?_⟩
    have l : (inv (tOrd w)).length = w.length := by rw [inv_length, tOrd_len]
    show cListX [.tup (nats (inv (tOrd w)))] _
    simp [cListX]
    refine ⟨_, Nat.le_refl _, ?_⟩
    rw [col_1]
    exact hq
  · simp [w_values_of, e2]
    have hr := rngL_0 w.length
    refine ⟨w, rfl, by omega, small_line (by omega), by omega, by rw [rngL_len]; exact small_line (by omega), ?_⟩
    rw [hr]
    refine lcW_all (M := stg) (fun p : Nat => D.int (p : Int)) (fun p : Nat => colD w 2 p) (List.range w.length) (fun p hp k1 k0 hk => ?_) ⟨_, Nat.le_refl _, hq⟩
    simp
    refine ⟨tOrd w, rfl, tOrd_perm w, by rw [tOrd_len]; omega, ?_⟩
    dsimp only
    exact in_natsL hk
  · simp [w_values_of, e3]
    refine ⟨w, rfl, by omega, w, rfl, by omega, _, rfl, ?_⟩
    have l : (inv (tOrd w)).length = w.length := by rw [inv_length, tOrd_len]
    have e : nats (inv (tOrd w)) = (List.range w.length).map fun p => D.int ((inv (tOrd w)).getD p 0 : Nat) := col_1 w
    refine ⟨by unfold nats; simp [l]; exact small_line (by omega), ?_⟩
    rw [e]
    refine lcW_all (M := stg) (fun p : Nat => D.int ((inv (tOrd w)).getD p 0 : Nat)) (fun p : Nat => colD w 3 p) (List.range w.length) (fun p hp k1 k0 hk => ?_) ⟨_, Nat.le_refl _, hq⟩
    simp [-List.getD_eq_getElem?_getD]
    refine ⟨tOrd w, rfl, tOrd_perm w, by rw [tOrd_len]; omega, ?_⟩
    dsimp only
    exact in_natsL hk
theorem prp_in {j : Nat} (hj : j < 4) : prpN j = [108, 101, 116, 116, 101, 114] ∨ prpN j = [114, 97, 110, 107] ∨ prpN j = [102, 97, 99, 116, 111, 114] ∨ prpN j = [115, 116, 114, 105, 99, 116] := by
  have hj : j = 0 ∨ j = 1 ∨ j = 2 ∨ j = 3 := by omega
  rcases hj with rfl | rfl | rfl | rfl
  · exact .inl (by decide +kernel)
  · exact .inr (.inl (by decide +kernel))
  · exact .inr (.inr (.inl (by decide +kernel)))
  · exact .inr (.inr (.inr (by decide +kernel)))
theorem sel_take {w : List Nat} {js : List (Nat × D)} {i j : Nat} {v : D} (h : js[i]? = some (j, v)) : selL w (js.take (i + 1)) = (selL w (js.take i)).filter fun p => eqF (colD w j p) v := by
  obtain ⟨hi, e⟩ := List.getElem?_eq_some_iff.mp h
  unfold selL
  rw [List.filter_filter, List.take_succ_eq_append_getElem hi, e]
  refine List.filter_congr fun p _ => ?_
  rw [List.all_append]
  simp [Bool.and_comm]
theorem eq_col {w : List Nat} {j p : Nat} {v : D} {Q : D → Prop} (hj : j < 4) (wi : wishB j v = true) (h : Q (.bl (eqF (colD w j p) v))) : oEq (colD w j p) v Q := by
  have hj : j = 0 ∨ j = 1 ∨ j = 2 ∨ j = 3 := by omega
  rcases hj with rfl | rfl | rfl | rfl
  · cases v with
    | str x => show oEq (.str _) (.str x) Q; rw [sm_eq2]; rw [show decide (([w.getD p 0] : List Nat) = x) = ([w.getD p 0] == x) from by rw [Bool.eq_iff_iff]; simp]; exact h
    | _ => cases wi
  · cases v with
    | int x => show oEq (.int _) (.int x) Q; rw [sm_eq1]; rw [show ∀ a b : Int, decide (a = b) = (a == b) from fun a b => by rw [Bool.eq_iff_iff]; simp]; exact h
    | _ => cases wi
  · cases v with
    | bl x => show oEq (.bl _) (.bl x) Q; rw [sm_eq3]; rw [show ∀ a b : Bool, decide (a = b) = (a == b) from fun a b => by rw [Bool.eq_iff_iff]; simp]; exact h
    | _ => cases wi
  · cases v with
    | bl x => show oEq (.bl _) (.bl x) Q; rw [sm_eq3]; rw [show ∀ a b : Bool, decide (a = b) = (a == b) from fun a b => by rw [Bool.eq_iff_iff]; simp]; exact h
    | _ => cases wi
theorem fst_bad : ∀ {js : List (Nat × D)} {i : Nat} {x : Nat × D}, fstBad (js.take i) = none → js[i]? = some x → wishB x.1 x.2 = false → fstBad js = some x.2
  | [], _, _, _, h, _ => by simp at h
  | y :: js, 0, x, _, h, hb => by
    simp at h
    subst h
    unfold fstBad
    rw [if_neg (by rw [hb]; decide)]
  | y :: js, i + 1, x, h0, h, hb => by
    rw [List.take_succ_cons] at h0
    unfold fstBad at h0 ⊢
    by_cases c : wishB y.1 y.2 = true
    · rw [if_pos c] at h0 ⊢
      exact fst_bad h0 (by simpa using h) hb
    · rw [if_neg c] at h0
      cases h0
theorem fst_good : ∀ {js : List (Nat × D)} {i : Nat} {x : Nat × D}, fstBad (js.take i) = none → js[i]? = some x → wishB x.1 x.2 = true → fstBad (js.take (i + 1)) = none
  | [], _, _, _, h, _ => by simp at h
  | y :: js, 0, x, _, h, hb => by
    simp at h
    subst h
    rw [List.take_succ_cons]
    unfold fstBad
    rw [if_pos hb]
    rfl
  | y :: js, i + 1, x, h0, h, hb => by
    rw [List.take_succ_cons] at h0 ⊢
    unfold fstBad at h0 ⊢
    by_cases c : wishB y.1 y.2 = true
    · rw [if_pos c] at h0 ⊢
      exact fst_good h0 (by simpa using h) hb
    · rw [if_neg c] at h0
      cases h0
theorem p_select (d : D) (o : Obj) (kvs : List (Key × V)) (kds : List (Key × D)) (g : Gq) (q : D → Gq → Prop) (ex : Exn → Gq → Prop) (h : d_select55 d kds g q ex) : w_select ex (kEndQ q) (startD ["word", "wanted", "name", "found", "value", "values", "place"] [d, .ob g.S.length]) ⟨g.n, g.S ++ [.kw o kvs kds]⟩ := by
  obtain ⟨w, rfl, hw, h⟩ := h
  have hk : (g.S ++ [.kw o kvs kds])[g.S.length]? = some (.kw o kvs kds) := by
    rw [List.getElem?_append_right (Nat.le_refl _), Nat.sub_self]
    rfl
  rcases h with ⟨pre, k, v, post, rfl, hp, hno, he⟩ | ⟨js, rfl, hjs, hq⟩
  · unfold w_select
    refine seq_md (fun ρ g1 => False) (fun ρ g1 h => h.elim) (fun X hX => ?_)
    simp
    refine ⟨o, kvs, _, ⟨rfl, rfl, rfl⟩, ?_⟩
    refine forWp_at (M := stq) (fun i ρ (g1 : Gq) => i ≤ pre.length ∧ g1 = ⟨g.n, g.S ++ [.kw o kvs (pre ++ (.inr k, v) :: post)]⟩ ∧ ∃ y2, ρ = [.im (.str w), .im (.ob g.S.length), y2, .no, .no, .no, .no]) _ 0 (fun i ρ g1 h => by rw [h.2.1]; exact hk) (fun i d ρ g1 K hx hI hK => ?_) (fun ρ g1 hI => ?_) ⟨Nat.zero_le _, rfl, _, rfl⟩
    · rw [Nat.zero_add] at hI hK
      obtain ⟨hi, rfl, y2, rfl⟩ := hI
      have hx' : (pre ++ (Sum.inr k, v) :: post)[i]?.map (fun p => keyD p.1) = some d := by
        rw [← hx, ← List.getElem?_map]
      by_cases c : i < pre.length
      · rw [List.getElem?_append_left c, List.getElem?_eq_getElem c] at hx'
        obtain ⟨j, j4, ej⟩ := hp _ (List.getElem_mem c)
        have e0 : keyD pre[i].1 = d := Option.some.inj hx'
        rw [ej] at e0
        have e : d = .str (prpN j) := e0.symm
        subst e
        have nx : ∀ y, K [.im (.str w), .im (.ob g.S.length), y, .no, .no, .no, .no] ⟨g.n, g.S ++ [.kw o kvs (pre ++ (.inr k, v) :: post)]⟩ := fun y => hK _ _ ⟨c, rfl, _, rfl⟩
        simp only [gwN]
        rcases prp_in j4 with e | e | e | e <;> (rw [e]; simp +decide; exact nx _)
      · have hi2 : i = pre.length := by omega
        subst hi2
        rw [List.getElem?_append_right (Nat.le_refl _), Nat.sub_self] at hx'
        have e : d = .str k.cps.toList := (Option.some.inj hx').symm
        subst e
        have n0 := hno 0 (by decide)
        have n1 := hno 1 (by decide)
        have n2 := hno 2 (by decide)
        have n3 := hno 3 (by decide)
        rw [show prpN 0 = [108, 101, 116, 116, 101, 114] by decide +kernel] at n0
        rw [show prpN 1 = [114, 97, 110, 107] by decide +kernel] at n1
        rw [show prpN 2 = [102, 97, 99, 116, 111, 114] by decide +kernel] at n2
        rw [show prpN 3 = [115, 116, 114, 105, 99, 116] by decide +kernel] at n3
        have he := he [.kw o kvs (pre ++ (.inr k, v) :: post)]
        generalize k.cps.toList = z at n0 n1 n2 n3 he
        simp only [gwN]
        simp [n0.symm, n1.symm, n2.symm, n3.symm, eqF]
        exact ⟨small_line (by decide), he⟩
    · obtain ⟨hi, _⟩ := hI
      exfalso
      simp at hi
      omega
  · let S1 := g.S ++ [.kw o kvs (js.map fun x => (Sum.inr (prpS x.1), x.2))]
    have hk : S1[g.S.length]? = some (.kw o kvs (js.map fun x => (Sum.inr (prpS x.1), x.2))) := hk
    unfold w_select
    refine seq_md (fun ρ g1 => g1 = ⟨g.n, S1⟩ ∧ ∃ y2, ρ = [.im (.str w), .im (.ob g.S.length), y2, .no, .no, .no, .no]) ?_ (fun X hX => ?_)
    · rintro ρ g1 ⟨rfl, y2, rfl⟩
      refine seq_md (fun ρ g1 => g1 = ⟨g.n, S1⟩ ∧ ρ = [.im (.str w), .im (.ob g.S.length), y2, .im (.lst (nats (List.range w.length))), .no, .no, .no]) ?_ (fun X hX => ?_)
      · rintro ρ g1 ⟨rfl, rfl⟩
        refine seq_md (fun ρ g1 => fstBad js = none ∧ g1 = ⟨g.n, S1⟩ ∧ ∃ y2 y4 y5, ρ = [.im (.str w), .im (.ob g.S.length), y2, .im (.lst (nats (selL w js))), y4, y5, .no]) ?_ (fun X hX => ?_)
        · rintro ρ g1 ⟨hnone, rfl, y2, y4, y5, rfl⟩
          rw [hnone] at hq
          simp
          exact ⟨_, Nat.le_refl _, hq _ _⟩
        · simp
          refine ⟨o, kvs, _, hk, ?_⟩
          refine forWp_at (M := stq) (fun i ρ (g1 : Gq) => fstBad (js.take i) = none ∧ g1 = ⟨g.n, S1⟩ ∧ ∃ y2 y4 y5, ρ = [.im (.str w), .im (.ob g.S.length), y2, .im (.lst (nats (selL w (js.take i)))), y4, y5, .no]) _ 0 (fun i ρ g1 h => by rw [h.2.1]; exact hk) (fun i d ρ g1 K hx hI hK => ?_) (fun ρ g1 hI => ?_) ⟨rfl, rfl, y2, .no, .no, by rw [show selL w (js.take 0) = List.range w.length from List.filter_eq_self.mpr fun _ _ => rfl]⟩
          · rw [Nat.zero_add] at hI hK
            obtain ⟨hnone, rfl, y2, y4, y5, rfl⟩ := hI
            rw [List.getElem?_map, List.getElem?_map] at hx
            cases hj : js[i]? with
            | none => rw [hj] at hx; cases hx
            | some x =>
              rw [hj] at hx
              cases hx
              obtain ⟨j, v⟩ := x
              obtain ⟨j4, ok, sz, ob⟩ := hjs _ (List.mem_of_getElem? hj)
              dsimp only at j4 ok sz ob
              refine ⟨rfl, ?_⟩
              simp only [gwCons, gwN, gwNil, keyD]
              simp
              have sl : (selL w (js.take i)).length ≤ w.length := by
                have := List.length_filter_le (fun p => (js.take i).all fun x => eqF (colD w x.1 p) x.2) (List.range w.length)
                rw [List.length_range] at this
                exact this
              refine ⟨by simp [obsA, obsD, ob], j, v, rfl, j4, ok, sz, fun _ => ?_⟩
              cases wi : wishB j v with
              | false =>
                rw [fst_bad hnone hj wi] at hq
                simp only [sm_isB]
                exact hq [.kw o kvs (js.map fun x => (Sum.inr (prpS x.1), x.2))]
              | true =>
                simp only [sm_isB, if_true]
                refine ⟨by simp [obsA, obsD], j, w, rfl, j4, hw, fun _ => ?_⟩
                dsimp only
                refine ⟨by unfold nats; rw [List.length_map]; exact small_line (by omega), ?_⟩
                refine lcW_map (M := stq) (fun p : Nat => D.int (p : Int)) (fun p : Nat => D.int (p : Int)) (fun p => eqF (colD w j p) v) (selL w (js.take i)) (fun p hp k1 k0 hk => ?_) (hK _ _ ⟨fst_good hnone hj wi, rfl, _, _, _, by rw [sel_take hj]; rfl⟩)
                have hp2 : p < w.length := List.mem_range.mp (List.mem_filter.mp hp).1
                simp
                refine ⟨colD w j p, atI_ofNat (by rw [List.getElem?_map, List.getElem?_range hp2]; rfl), ?_⟩
                refine eq_col j4 wi ?_
                simp only [sm_isB]
                exact hk
          · rw [Nat.zero_add] at hI
            obtain ⟨hnone, rfl, y2, y4, y5, rfl⟩ := hI
            rw [show js.take _ = js from by rw [List.length_map, List.length_map, List.take_length]] at hnone
            refine hX _ _ ⟨hnone, rfl, y2, y4, y5, ?_⟩
            simp
      · simp
        refine ⟨small_line (by omega), ?_, hX _ _ ⟨rfl, by rw [rngL_0]; rfl⟩⟩
        unfold RgOk
        omega
    · simp
      refine ⟨o, kvs, _, ⟨rfl, rfl, rfl⟩, ?_⟩
      refine forWp_at (M := stq) (fun i ρ (g1 : Gq) => g1 = ⟨g.n, S1⟩ ∧ ∃ y2, ρ = [.im (.str w), .im (.ob g.S.length), y2, .no, .no, .no, .no]) _ 0 (fun i ρ g1 h => by rw [h.1]; exact hk) (fun i d ρ g1 K hx hI hK => ?_) (fun ρ g1 hI => ?_) ⟨rfl, _, rfl⟩
      · obtain ⟨rfl, y2, rfl⟩ := hI
        rw [List.getElem?_map, List.getElem?_map] at hx
        cases hj : js[i]? with
        | none => rw [hj] at hx; cases hx
        | some x =>
          rw [hj] at hx
          cases hx
          obtain ⟨j4, _⟩ := hjs _ (List.mem_of_getElem? hj)
          have e : keyD (Sum.inr (prpS x.1)) = .str (prpN x.1) := rfl
          show gwN 2 (keyD (Sum.inr (prpS x.1))) _ _
          rw [e]
          have nx : ∀ y, K [.im (.str w), .im (.ob g.S.length), y, .no, .no, .no, .no] ⟨g.n, S1⟩ := fun y => hK _ _ ⟨rfl, _, rfl⟩
          simp only [gwN]
          rcases prp_in j4 with e | e | e | e <;> (rw [e]; simp +decide; exact nx _)
      · obtain ⟨rfl, y2, rfl⟩ := hI
        exact hX _ _ ⟨rfl, _, rfl⟩
theorem bad_no : ∀ n < 12, 4 < n → ∀ j < 4, badN n ≠ prpN j := by decide +kernel
theorem p_l_called (ds : List D) (g : Gq) (q : D → Gq → Prop) (ex : Exn → Gq → Prop) (hl : ds.length = 3) (h : d_l_called55 ds g q ex) : w_l_called ex (kEndQ q) (startD ["_law_word", "_law_way", "_law_some"] ds) g := by
  obtain ⟨w, n, vs, rfl, hn, hw, hl4, hv, hq⟩ := h
  have go : ∀ (js : List (Nat × D)) (kds : List (Key × D)) (E : Exn → Gq → Prop), (∀ x g', ex x g' → E x g') → ¬ 4 < n → kds = (js.map fun x => (Sum.inr (prpS x.1), x.2)) → (kindW n).zip vs = js → (∀ x ∈ js, x.1 < 4 ∧ x.2 ∈ vs) →
      d_select55 (.str w) kds g (fun d g' => ∃ k, g'.n ≤ k ∧ q d ⟨k, g'.S⟩) E := fun js kds E hE hn4 e1 e2 e3 => by
    rw [if_neg hn4, e2] at hq
    refine ⟨w, rfl, hw, .inr ⟨js, e1, fun x hx => ⟨(e3 x hx).1, hv _ (e3 x hx).2⟩, ?_⟩⟩
    cases c : fstBad js with
    | none =>
      rw [c] at hq
      exact fun ps T => ⟨_, Nat.le_refl _, hq ps T⟩
    | some v =>
      rw [c] at hq
      exact fun T => hE _ _ (hq T)
  have gb : ∀ (pre : List (Nat × D)) (v : D) (post kds : List (Key × D)) (E : Exn → Gq → Prop), (∀ x g', ex x g' → E x g') → 4 < n → kds = (pre.map fun x => (Sum.inr (prpS x.1), x.2)) ++ (.inr (badS n), v) :: post → (∀ x ∈ pre, x.1 < 4) →
      d_select55 (.str w) kds g (fun d g' => ∃ k, g'.n ≤ k ∧ q d ⟨k, g'.S⟩) E := fun pre v post kds E hE hn4 e1 e2 => by
    rw [if_pos hn4] at hq
    refine ⟨w, rfl, hw, .inl ⟨_, badS n, v, post, e1, fun x hx => ?_, bad_no n hn hn4, fun T => hE _ _ (hq T)⟩⟩
    obtain ⟨y, hy, rfl⟩ := List.mem_map.mp hx
    exact ⟨y.1, e2 y hy, rfl⟩
  clear hq
  have hn' : n = 0 ∨ n = 1 ∨ n = 2 ∨ n = 3 ∨ n = 4 ∨ n = 5 ∨ n = 6 ∨ n = 7 ∨ n = 8 ∨ n = 9 ∨ n = 10 ∨ n = 11 := by omega
  have l1 : ∀ {vs : List D}, vs.length = 1 → ∃ a, vs = [a] := fun {vs} h => by
    match vs, h with
    | [a], _ => exact ⟨_, rfl⟩
  have l2 : ∀ {vs : List D}, vs.length = 2 → ∃ a b, vs = [a, b] := fun {vs} h => by
    match vs, h with
    | [a, b], _ => exact ⟨_, _, rfl⟩
  have l3 : ∀ {vs : List D}, vs.length = 3 → ∃ a b c, vs = [a, b, c] := fun {vs} h => by
    match vs, h with
    | [a, b, c], _ => exact ⟨_, _, _, rfl⟩
  have l4 : ∀ {vs : List D}, vs.length = 4 → ∃ a b c d, vs = [a, b, c, d] := fun {vs} h => by
    match vs, h with
    | [a, b, c, d], _ => exact ⟨_, _, _, _, rfl⟩
  rcases hn' with rfl | rfl | rfl | rfl | rfl | rfl | rfl | rfl | rfl | rfl | rfl | rfl
  · obtain ⟨a, rfl⟩ := l1 hl4
    simp [w_l_called]
    exact ⟨_, rfl, go [(0, a)] _ _ (fun _ _ h => h) (by decide) rfl rfl (by simp)⟩
  · obtain ⟨a, b, rfl⟩ := l2 hl4
    simp [w_l_called]
    exact ⟨_, rfl, _, rfl, go [(1, a), (0, b)] _ _ (fun _ _ h => h) (by decide) rfl rfl (by simp)⟩
  · obtain ⟨a, b, c, rfl⟩ := l3 hl4
    simp [w_l_called]
    exact ⟨_, rfl, _, rfl, _, rfl, go [(3, a), (1, b), (2, c)] _ _ (fun _ _ h => h) (by decide) rfl rfl (by simp)⟩
  · obtain ⟨a, b, c, d, rfl⟩ := l4 hl4
    simp [w_l_called]
    exact ⟨_, rfl, _, rfl, _, rfl, _, rfl, go [(2, a), (0, b), (3, c), (1, d)] _ _ (fun _ _ h => h) (by decide) rfl rfl (by simp)⟩
  · obtain ⟨a, b, c, d, rfl⟩ := l4 hl4
    simp [w_l_called]
    exact ⟨_, rfl, _, rfl, _, rfl, _, rfl, go [(1, a), (3, b), (0, c), (2, d)] _ _ (fun _ _ h => h) (by decide) rfl rfl (by simp)⟩
  · obtain ⟨a, rfl⟩ := l1 hl4
    simp [w_l_called]
    exact ⟨_, rfl, gb [] a _ _ _ (fun _ _ h => h) (by decide) rfl (by simp)⟩
  · obtain ⟨a, b, rfl⟩ := l2 hl4
    simp [w_l_called]
    exact ⟨_, rfl, _, rfl, gb [(1, a)] b _ _ _ (fun _ _ h => h) (by decide) rfl (by simp)⟩
  · obtain ⟨a, b, c, rfl⟩ := l3 hl4
    simp [w_l_called]
    exact ⟨_, rfl, _, rfl, _, rfl, gb [] a _ _ _ (fun _ _ h => h) (by decide) rfl (by simp)⟩
  · obtain ⟨a, b, c, rfl⟩ := l3 hl4
    simp [w_l_called]
    exact ⟨_, rfl, _, rfl, _, rfl, gb [(2, a)] b _ _ _ (fun _ _ h => h) (by decide) rfl (by simp)⟩
  · obtain ⟨a, rfl⟩ := l1 hl4
    simp [w_l_called]
    exact ⟨_, rfl, gb [] a _ _ _ (fun _ _ h => h) (by decide) rfl (by simp)⟩
  · obtain ⟨a, b, rfl⟩ := l2 hl4
    simp [w_l_called]
    exact ⟨_, rfl, _, rfl, gb [(0, a)] b _ _ _ (fun _ _ h => h) (by decide) rfl (by simp)⟩
  · obtain ⟨a, b, rfl⟩ := l2 hl4
    simp [w_l_called]
    exact ⟨_, rfl, _, rfl, gb [] a _ _ _ (fun _ _ h => h) (by decide) rfl (by simp)⟩
theorem fst_mem : ∀ {js : List Nat} {vs : List D} {v : D}, fstBad (js.zip vs) = some v → v ∈ vs
  | [], _, _, h => by simp [fstBad] at h
  | _ :: _, [], _, h => by simp [fstBad] at h
  | j :: js, u :: vs, v, h => by
    rw [List.zip_cons_cons] at h
    unfold fstBad at h
    split at h
    · exact List.mem_cons_of_mem _ (fst_mem h)
    · cases h
      exact List.mem_cons_self ..
theorem p_l_told (ds : List D) (g : Gq) (q : D → Gq → Prop) (ex : Exn → Gq → Prop) (hl : ds.length = 3) (h : d_l_told55 ds g q ex) : w_l_told ex (kEndQ q) (startD ["_law_word", "_law_way", "_law_some", "_law_error"] ds) g := by
  obtain ⟨w, n, vs, rfl, hn, hw, hl4, hv, hq⟩ := h
  unfold dueS at hq
  simp +decide [w_l_told, -sm_asI]
  refine ⟨w, n, vs, rfl, hn, hw, hl4, hv, ?_⟩
  split
  · rename_i c
    rw [if_pos c] at hq
    intro T
    simp +decide [isX, fldX]
    exact ⟨by simp [obsA, obsD], _, _, _, rfl, .inl rfl, fun _ => ⟨_, Nat.le_refl _, hq T⟩⟩
  · rename_i c
    rw [if_neg c] at hq
    cases e : fstBad ((kindW n).zip vs) with
    | none =>
      rw [e] at hq
      intro ps T
      simp +decide [isTyp]
      exact ⟨_, Nat.le_refl _, hq T⟩
    | some v =>
      rw [e] at hq
      intro T
      simp +decide [isX, fldX]
      have ob := (hv v (fst_mem e)).2.2
      exact ⟨by simp [obsA, obsD, ob], _, _, _, rfl, .inr rfl, fun _ => ⟨_, Nat.le_refl _, hq T⟩⟩
theorem odd_obs : ∀ v ∈ oddL, obsD v = true := by
  unfold oddL
  intro v hv
  simp only [List.mem_cons, List.not_mem_nil, or_false] at hv
  rcases hv with rfl | rfl | rfl | rfl | rfl | rfl | rfl | rfl | rfl | rfl | rfl | rfl | rfl | rfl | rfl | rfl | rfl | rfl | rfl | rfl | rfl | rfl | rfl | rfl | rfl <;> rfl
theorem odd_sz : ∀ v ∈ oddL, szD 100000 v := by
  unfold oddL
  intro v hv
  simp only [List.mem_cons, List.not_mem_nil, or_false] at hv
  rcases hv with rfl | rfl | rfl | rfl | rfl | rfl | rfl | rfl | rfl | rfl | rfl | rfl | rfl | rfl | rfl | rfl | rfl | rfl | rfl | rfl | rfl | rfl | rfl | rfl | rfl <;> (unfold szD; simp)
/-- what a value of a call is known to be -/
def okV (v : D) : Prop := okW v ∧ fineD v
theorem due_rep {n : Nat} {vs : List D} (hn : n < 12) (hv : ∀ v ∈ vs, okV v) : RB 700 6 (dueS n vs) := by
  have rs : ∀ x : List Nat, x.length ≤ 10 → (∀ c ∈ x, 32 ≤ c ∧ c < 127) → RB 200 3 (.str x) := fun x h1 h2 => (rb_str fun c hc => by have := h2 c hc; omega).mono (by omega) (by decide)
  unfold dueS
  split
  · have e : badN n = [99, 111, 108, 111, 117, 114] ∨ badN n = [82, 97, 110, 107] ∨ badN n = [119, 101, 105, 103, 104, 116] ∨ badN n = [98, 101, 103, 105, 110, 115] ∨ badN n = [112, 108, 97, 99, 101] ∨ badN n = [116, 97, 105, 108] ∨ badN n = [111, 114, 100, 101, 114] := by
      revert n
      decide +kernel
    have r : RB 200 3 (.str (badN n)) := by
      rcases e with e | e | e | e | e | e | e <;> (rw [e]; exact rs _ (by decide) (by decide))
    exact (rb_lst (n := 200) (k := 3) (all_cons (rs [110, 97, 109, 101] (by decide) (by decide)) (all_cons r (all_cons ((rb_bl true).mono (by decide) (by decide)) all_nil)))).mono (by simp) (by decide)
  · split
    · exact (rb_lst (n := 200) (k := 3) (all_cons (rs [112, 108, 97, 99, 101, 115] (by decide) (by decide)) all_nil)).mono (by simp) (by decide)
    · rename_i v e
      have r := (hv v (fst_mem e)).2.2
      exact (rb_lst (n := 200) (k := 3) (all_cons (rs [119, 105, 115, 104] (by decide) (by decide)) (all_cons (r.mono (by decide) (by decide)) (all_cons ((rb_bl true).mono (by decide) (by decide)) all_nil)))).mono (by simp) (by decide)
theorem obsA_of : ∀ {vs : List D}, (∀ v ∈ vs, obsD v = true) → obsA vs = true
  | [], _ => rfl
  | v :: vs, h => by
    show (obsD v && obsA vs) = true
    rw [h v (List.mem_cons_self ..), obsA_of fun u hu => h u (List.mem_cons_of_mem _ hu)]
    rfl
def vOf (c : Nat) : D := if c = 108 then .str [97] else if c = 105 then .int 2 else .bl true
theorem vOf_ok {c : Nat} : okV (vOf c) := by
  unfold vOf
  split
  · exact ⟨⟨⟨_, rfl⟩, by unfold szD; decide, rfl⟩, fine_str (by simp) (by decide)⟩
  · split
    · exact ⟨⟨⟨_, rfl⟩, trivial, rfl⟩, fine_int (by decide)⟩
    · exact ⟨⟨⟨_, rfl⟩, trivial, rfl⟩, fine_bl⟩
theorem argN_pos {t : Nat} (h : t < 12) : 1 ≤ argN t ∧ argN t ≤ 4 := by
  revert t
  decide
theorem p_law : w_law kLawQ (rhoLaw 10 1) ⟨0, [.raw, .raw]⟩ := by
  have dr : ∀ {m : Nat} {g : Gq} {Q : D → Gq → Prop} {EX : Exn → Gq → Prop}, 1 ≤ m → m ≤ 1000 → g.n + 1 ≤ 2 ^ 60 → (∀ v : Nat, v < m → Q (.int (v : Int)) ⟨g.n + 1, g.S⟩) → lq d_l_draw [.ob 0, .int (m : Int)] g Q EX := fun {m g Q EX} h1 h2 h3 h4 =>
    ⟨by simp [obsA, obsD], (m : Int), rfl, by omega, by omega, h3, fun v v0 v1 _ => by
      obtain ⟨u, rfl⟩ : ∃ u : Nat, v = (u : Int) := ⟨v.toNat, by omega⟩
      exact h4 u (by omega)⟩
  unfold w_law
  refine seq_md (fun ρ g => True) (fun ρ g _ => rfl) (fun X hX => ?_)
  simp
  refine forW_word (M := stq) (fun n ρ (g : Gq) => g.n ≤ 1000 * n ∧ ∃ y2 y3 y4 y5 y6 y7 y8 y9, ρ = [.no, .im (.ob 0), y2, y3, y4, y5, y6, y7, y8, y9]) _ ⟨by decide, _, _, _, _, _, _, _, _, rfl⟩ (fun n x ρ g1 K1 hd hI hK1 => ?_) (fun ρ g1 hI => hX _ _ trivial)
  obtain ⟨hn1, y2, y3, y4, y5, y6, y7, y8, y9, rfl⟩ := hI
  have hn : n < 3 := by
    have h1 := (List.getElem?_eq_some_iff.mp hd).1
    rw [rngL_len] at h1
    omega
  simp only [gwN]
  refine seq_md (fun ρ g2 => ∃ w : List Nat, 1 ≤ w.length ∧ w.length ≤ 24 ∧ g2.n ≤ g1.n + 40 ∧ ρ = [.no, .im (.ob 0), .im x, .im (.str w), y4, y5, y6, y7, y8, y9]) ?_ (fun X hX => ?_)
  · rintro ρ g2 ⟨w, w1, w2, hn2, rfl⟩
    simp
    refine forW_word (M := stq) (fun t ρ (g4 : Gq) => g4.n ≤ g1.n + 40 + 60 * t ∧ ∃ y4 y5 y6 y7 y8 y9, ρ = [.no, .im (.ob 0), .im x, .im (.str w), y4, y5, y6, y7, y8, y9]) _ ⟨by omega, _, _, _, _, _, _, rfl⟩ (fun t x4 ρ g4 K hx hI hK => ?_) (fun ρ g4 hI => ?_)
    · obtain ⟨hn4, y4, y5, y6, y7, y8, y9, rfl⟩ := hI
      have ht : t < 12 ∧ x4 = .int (t : Int) := by
        have h1 := (List.getElem?_eq_some_iff.mp hx).1
        rw [rngL_len] at h1
        have h2 : t < 12 := by omega
        have := rngL_get 0 12 t x4 hx
        exact ⟨h2, by simpa using this.2⟩
      obtain ⟨ht, rfl⟩ := ht
      simp only [gwN]
      refine seq_md (fun ρ g5 => g5 = g4 ∧ ∃ ks : List Nat, ks.length = argN t ∧ (∀ c ∈ ks, c = 108 ∨ c = 105 ∨ c = 98) ∧ ρ = [.no, .im (.ob 0), .im x, .im (.str w), .im (.int (t : Int)), .im (.str ks), y6, y7, y8, y9]) ?_ (fun X hX => ?_)
      · rintro ρ g5 ⟨rfl, ks, hkl, hks, rfl⟩
        simp
        refine forW_word (M := stq) (fun s ρ (g6 : Gq) => g6.n ≤ g1.n + 40 + 60 * t + 10 * s ∧ ∃ y6 y7 y8 y9, ρ = [.no, .im (.ob 0), .im x, .im (.str w), .im (.int (t : Int)), .im (.str ks), y6, y7, y8, y9]) _ ⟨by omega, _, _, _, _, rfl⟩ (fun s x6 ρ g6 K2 hx6 hI hK2 => ?_) (fun ρ g6 hI => ?_)
        · obtain ⟨hn6, y6, y7, y8, y9, rfl⟩ := hI
          have hs : s < 6 := by
            have h1 := (List.getElem?_eq_some_iff.mp hx6).1
            rw [rngL_len] at h1
            omega
          simp only [gwN]
          refine seq_md (fun ρ g7 => g7 = g6 ∧ ∃ vs : List D, vs.length = argN t ∧ (∀ v ∈ vs, okV v) ∧ ρ = [.no, .im (.ob 0), .im x, .im (.str w), .im (.int (t : Int)), .im (.str ks), .im x6, .own vs, y8, y9]) ?_ (fun X hX => ?_)
          · rintro ρ g7 ⟨rfl, vs, hvl, hvs, rfl⟩
            refine seq_md (fun ρ g8 => g8.n ≤ g7.n + 10 ∧ ∃ (vs : List D) (y9 : Sl), vs.length = argN t ∧ (∀ v ∈ vs, okV v) ∧ ρ = [.no, .im (.ob 0), .im x, .im (.str w), .im (.int (t : Int)), .im (.str ks), .im x6, .own vs, y8, y9]) ?_ (fun X hX => ?_)
            · rintro ρ g8 ⟨hn8, vs, y9, hvl, hvs, rfl⟩
              simp
              refine ⟨w, t, vs, rfl, ht, by omega, hvl, fun v h => (hvs v h).1, fun T => ?_⟩
              have rr := (due_rep (n := t) ht hvs)
              have ov : obsD (.lst vs) = true := obsA_of fun v h => (hvs v h).1.2.2
              refine rep_call rr (by decide) (by decide) ⟨?_, t, vs, rfl, ht, hvl, fun v h => ⟨(hvs v h).1.1, (hvs v h).1.2.1⟩, fun _ => rep_call rr (by decide) (by decide) ?_⟩
              · show (obsD (.int (t : Int)) && (obsD (.lst vs) && true)) = true
                rw [ov]
                rfl
              dsimp only
              rw [sm_ne2]
              simp only [decide_true, Bool.not_true, sm_isB, true_and]
              exact hK2 _ _ ⟨by show g8.n ≤ _; omega, _, _, _, _, rfl⟩
            · simp
              refine dr (m := 3) (by decide) (by decide) (by omega) fun u hu => ?_
              simp
              refine ⟨by omega, ?_⟩
              have ap := argN_pos ht
              refine forW_word (M := stq) (fun r ρ (g9 : Gq) => g9.n ≤ g7.n + 1 + 2 * r ∧ ∃ (vs : List D) (y9 : Sl), vs.length = argN t ∧ (∀ v ∈ vs, okV v) ∧ ρ = [.no, .im (.ob 0), .im x, .im (.str w), .im (.int (t : Int)), .im (.str ks), .im x6, .own vs, y8, y9]) _ ⟨by simp, vs, _, hvl, hvs, rfl⟩ (fun r x9 ρ g9 K3 hx9 hI hK3 => ?_) (fun ρ g9 hI => ?_)
              · obtain ⟨hn9, vs, y9, hvl, hvs, rfl⟩ := hI
                have hr : r < 3 := by
                  have h1 := (List.getElem?_eq_some_iff.mp hx9).1
                  rw [rngL_len] at h1
                  omega
                simp only [gwN]
                simp
                refine ⟨by simp [obsA, obsD], rfl, by omega, fun v hv _ => ?_⟩
                refine dr (m := vs.length) (by omega) (by omega) (by show g9.n + 1 + 1 ≤ _; omega) fun m hm => ?_
                simp
                refine ⟨m, ixN_ofNat hm, hK3 _ _ ⟨by show g9.n + 1 + 1 ≤ _; omega, vs.set m v, _, by rw [List.length_set]; exact hvl, fun z hz => ?_, rfl⟩⟩
                rcases List.mem_or_eq_of_mem_set hz with hz | rfl
                · exact hvs z hz
                · exact ⟨⟨(odd_fine _ hv).1, odd_sz _ hv, odd_obs _ hv⟩, odd_fine _ hv⟩
              · obtain ⟨hn9, vs, y9, hvl, hvs, rfl⟩ := hI
                rw [rngL_len] at hn9
                exact hX _ _ ⟨by omega, vs, y9, hvl, hvs, rfl⟩
          · simp
            refine ⟨small_line (by have := argN_pos ht; omega), ?_⟩
            refine lcW_map (M := stq) (fun c : Nat => D.str [c]) vOf (fun _ => true) ks (fun c hc k1 k0 hk => ?_) ?_
            · simp only [gwN]
              simp
              simp only [if_true] at hk
              refine ⟨_, rfl, vOf c, ?_, hk⟩
              rcases hks c hc with rfl | rfl | rfl <;> rfl
            · refine hX _ _ ⟨rfl, _, ?_, ?_, rfl⟩
              · rw [List.length_map, List.filter_eq_self.mpr fun _ _ => rfl, hkl]
              · intro v hv
                obtain ⟨c, _, rfl⟩ := List.mem_map.mp hv
                exact vOf_ok
        · obtain ⟨hn6, y6, y7, y8, y9, rfl⟩ := hI
          rw [rngL_len] at hn6
          exact hK _ _ ⟨by have : g6.n ≤ g1.n + 40 + 60 * t + 10 * 6 := hn6; omega, _, _, _, _, _, _, rfl⟩
      · simp
        refine ⟨small_line (by decide), ?_⟩
        have ht' : t = 0 ∨ t = 1 ∨ t = 2 ∨ t = 3 ∨ t = 4 ∨ t = 5 ∨ t = 6 ∨ t = 7 ∨ t = 8 ∨ t = 9 ∨ t = 10 ∨ t = 11 := by omega
        have go : ∀ (ks : List Nat), atI [D.str [108], D.str [105, 108], D.str [98, 105, 98], D.str [98, 108, 98, 105], D.str [105, 98, 108, 98], D.str [98], D.str [105, 105], D.str [98, 98, 98], D.str [98, 98, 98], D.str [105], D.str [108, 105], D.str [105, 105]] (t : Int) = some (.str ks) → ks.length = argN t → (∀ c ∈ ks, c = 108 ∨ c = 105 ∨ c = 98) → ∃ d, atI [D.str [108], D.str [105, 108], D.str [98, 105, 98], D.str [98, 108, 98, 105], D.str [105, 98, 108, 98], D.str [98], D.str [105, 105], D.str [98, 98, 98], D.str [98, 98, 98], D.str [105], D.str [108, 105], D.str [105, 105]] (t : Int) = some d ∧ X [Sl.no, Sl.im (D.ob 0), Sl.im x, Sl.im (D.str w), Sl.im (D.int (t : Int)), Sl.im d, y6, y7, y8, y9] g4 := fun ks h1 h2 h3 => ⟨_, h1, hX _ _ ⟨rfl, ks, h2, h3, rfl⟩⟩
        rcases ht' with rfl | rfl | rfl | rfl | rfl | rfl | rfl | rfl | rfl | rfl | rfl | rfl <;> exact go _ rfl rfl (by decide)
    · obtain ⟨hn4, y4, y5, y6, y7, y8, y9, rfl⟩ := hI
      rw [rngL_len] at hn4
      exact hK1 _ _ ⟨by have : g4.n ≤ g1.n + 40 + 60 * 12 := hn4; omega, _, _, _, _, _, _, _, _, rfl⟩
  · simp
    refine ⟨by simp [obsA, obsD], 24, rfl, by decide, by decide, by omega, fun w v1 v2 v3 _ => ?_⟩
    exact hX _ _ ⟨w, v1, v2, Nat.le_refl _, rfl⟩
end LW
set_option Elab.async false
set_option linter.all false
set_option maxRecDepth 100000
set_option maxHeartbeats 4000000
namespace LW
open PySem L2 DL
theorem all_mk {l : PySem.W.OpenLaw} {w : World} {K : PySem.W.Frag} {h : Heap} {nm_NoProperty qn_NoProperty : Str} {N_NoProperty I_NoProperty : Addr} {bs_NoProperty bm_NoProperty sb_NoProperty : List Value} {sn_NoProperty : List Str} {ab_NoProperty : Bool} {col_NoProperty : Option Bool} {dd_NoProperty : Option Addr} {m0_NoProperty m1_NoProperty m2_NoProperty m3_NoProperty m5_NoProperty : Option Value} {o1_NoProperty doc_NoProperty pm_NoProperty cdv_NoProperty ct_NoProperty : Value} {od_NoProperty an_NoProperty : Option Addr} {osl_NoProperty : Array (Option Value)} {p1_NoProperty p2_NoProperty q1_NoProperty q2_NoProperty q3_NoProperty q4_NoProperty : Pos} {nm_BadWish qn_BadWish : Str} {N_BadWish I_BadWish : Addr} {bs_BadWish bm_BadWish sb_BadWish : List Value} {sn_BadWish : List Str} {ab_BadWish : Bool} {col_BadWish : Option Bool} {dd_BadWish : Option Addr} {m0_BadWish m1_BadWish m2_BadWish m3_BadWish m5_BadWish : Option Value} {o1_BadWish doc_BadWish pm_BadWish cdv_BadWish ct_BadWish : Value} {od_BadWish an_BadWish : Option Addr} {osl_BadWish : Array (Option Value)} {p1_BadWish p2_BadWish q1_BadWish q2_BadWish q3_BadWish q4_BadWish : Pos} {C_NoProperty C_BadWish C_NoVersion C_NoIndex C_NoPlace C_BadWord C_NoWords C_TooLong C_BadLetter C_TailError : Addr} {tk1 : Nat} {mg : Str → Option Value} {fa f1 f2 f3 f4 f5 f6 f7 f8 f9 f10 f11 f12 f13 f14 f15 f16 f17 f18 f19 f20 f21 : Addr} (X : K.In h) (G : h.Ns mainGlobals mg) (hfa : mg "law" = some (.ref fa))
    {od1 an1 od2 an2 od3 an3 od4 an4 od5 an5 od6 an6 od7 an7 od8 an8 od9 an9 od10 an10 od11 an11 od12 an12 od13 an13 od14 an14 od15 an15 od16 an16 od17 an17 od18 an18 od19 an19 od20 an20 od21 an21 : Option Addr} {sl1 sl2 sl3 sl4 sl5 sl6 sl7 sl8 sl9 sl10 sl11 sl12 sl13 sl14 sl15 sl16 sl17 sl18 sl19 sl20 sl21 : Array (Option Value)} {oc1 kV1 dc1 pm1 cd1 ct1 oc2 kV2 dc2 pm2 cd2 ct2 oc3 kV3 dc3 pm3 cd3 ct3 oc4 kV4 dc4 pm4 cd4 ct4 oc5 kV5 dc5 pm5 cd5 ct5 oc6 kV6 dc6 pm6 cd6 ct6 oc7 kV7 dc7 pm7 cd7 ct7 oc8 kV8 dc8 pm8 cd8 ct8 oc9 kV9 dc9 pm9 cd9 ct9 oc10 kV10 dc10 pm10 cd10 ct10 oc11 kV11 dc11 pm11 cd11 ct11 oc12 kV12 dc12 pm12 cd12 ct12 oc13 kV13 dc13 pm13 cd13 ct13 oc14 kV14 dc14 pm14 cd14 ct14 oc15 kV15 dc15 pm15 cd15 ct15 oc16 kV16 dc16 pm16 cd16 ct16 oc17 kV17 dc17 pm17 cd17 ct17 oc18 kV18 dc18 pm18 cd18 ct18 oc19 kV19 dc19 pm19 cd19 ct19 oc20 kV20 dc20 pm20 cd20 ct20 oc21 kV21 dc21 pm21 cd21 ct21 : Value}
    (a1 : PySem.W.nsIn K mainGlobals "tail_order" = some (some (.ref f1))) (l1 : K.lookup f1 = some ⟨oc1, od1, .func (PySem.W.fnOf "tail_order" "tail_order" (defArgs s_tail_order) (defBody s_tail_order) (defScope s_tail_order) .none kV1 dc1 pm1 an1 cd1 ct1), sl1⟩) (c1 : PySem.W.codeIn K cd1 "tail_order" = true) (k1 : PySem.W.keepIn K (.ref f1) = true)
    (a2 : PySem.W.nsIn K mainGlobals "ranks_in" = some (some (.ref f2))) (l2 : K.lookup f2 = some ⟨oc2, od2, .func (PySem.W.fnOf "ranks_in" "ranks_in" (defArgs s_ranks_in) (defBody s_ranks_in) (defScope s_ranks_in) .none kV2 dc2 pm2 an2 cd2 ct2), sl2⟩) (c2 : PySem.W.codeIn K cd2 "ranks_in" = true) (k2 : PySem.W.keepIn K (.ref f2) = true)
    (a3 : PySem.W.nsIn K mainGlobals "tail_ranks" = some (some (.ref f3))) (l3 : K.lookup f3 = some ⟨oc3, od3, .func (PySem.W.fnOf "tail_ranks" "tail_ranks" (defArgs s_tail_ranks) (defBody s_tail_ranks) (defScope s_tail_ranks) .none kV3 dc3 pm3 an3 cd3 ct3), sl3⟩) (c3 : PySem.W.codeIn K cd3 "tail_ranks" = true) (k3 : PySem.W.keepIn K (.ref f3) = true)
    (a4 : PySem.W.nsIn K mainGlobals "ranks_of" = some (some (.ref f4))) (l4 : K.lookup f4 = some ⟨oc4, od4, .func (PySem.W.fnOf "ranks_of" "ranks_of" (defArgs s_ranks_of) (defBody s_ranks_of) (defScope s_ranks_of) .none kV4 dc4 pm4 an4 cd4 ct4), sl4⟩) (c4 : PySem.W.codeIn K cd4 "ranks_of" = true) (k4 : PySem.W.keepIn K (.ref f4) = true)
    (a5 : PySem.W.nsIn K mainGlobals "strict_steps" = some (some (.ref f5))) (l5 : K.lookup f5 = some ⟨oc5, od5, .func (PySem.W.fnOf "strict_steps" "strict_steps" (defArgs s_strict_steps) (defBody s_strict_steps) (defScope s_strict_steps) .none kV5 dc5 pm5 an5 cd5 ct5), sl5⟩) (c5 : PySem.W.codeIn K cd5 "strict_steps" = true) (k5 : PySem.W.keepIn K (.ref f5) = true)
    (a6 : PySem.W.nsIn K mainGlobals "factor_places" = some (some (.ref f6))) (l6 : K.lookup f6 = some ⟨oc6, od6, .func (PySem.W.fnOf "factor_places" "factor_places" (defArgs s_factor_places) (defBody s_factor_places) (defScope s_factor_places) .none kV6 dc6 pm6 an6 cd6 ct6), sl6⟩) (c6 : PySem.W.codeIn K cd6 "factor_places" = true) (k6 : PySem.W.keepIn K (.ref f6) = true)
    (a7 : PySem.W.nsIn K mainGlobals "is_whole" = some (some (.ref f7))) (l7 : K.lookup f7 = some ⟨oc7, od7, .func (PySem.W.fnOf "is_whole" "is_whole" (defArgs s_is_whole) (defBody s_is_whole) (defScope s_is_whole) .none kV7 dc7 pm7 an7 cd7 ct7), sl7⟩) (c7 : PySem.W.codeIn K cd7 "is_whole" = true) (k7 : PySem.W.keepIn K (.ref f7) = true)
    (a8 : PySem.W.nsIn K mainGlobals "is_wish" = some (some (.ref f8))) (l8 : K.lookup f8 = some ⟨oc8, od8, .func (PySem.W.fnOf "is_wish" "is_wish" (defArgs s_is_wish) (defBody s_is_wish) (defScope s_is_wish) .none kV8 dc8 pm8 an8 cd8 ct8), sl8⟩) (c8 : PySem.W.codeIn K cd8 "is_wish" = true) (k8 : PySem.W.keepIn K (.ref f8) = true)
    (a9 : PySem.W.nsIn K mainGlobals "values_of" = some (some (.ref f9))) (l9 : K.lookup f9 = some ⟨oc9, od9, .func (PySem.W.fnOf "values_of" "values_of" (defArgs s_values_of) (defBody s_values_of) (defScope s_values_of) .none kV9 dc9 pm9 an9 cd9 ct9), sl9⟩) (c9 : PySem.W.codeIn K cd9 "values_of" = true) (k9 : PySem.W.keepIn K (.ref f9) = true)
    (a10 : PySem.W.nsIn K mainGlobals "select" = some (some (.ref f10))) (l10 : K.lookup f10 = some ⟨oc10, od10, .func (PySem.W.fnOf "select" "select" (defArgs s_select) (defBody s_select) (defScope s_select) .none kV10 dc10 pm10 an10 cd10 ct10), sl10⟩) (c10 : PySem.W.codeIn K cd10 "select" = true) (k10 : PySem.W.keepIn K (.ref f10) = true)
    (a11 : PySem.W.nsIn K mainGlobals "_law_stream" = some (some (.ref f11))) (l11 : K.lookup f11 = some ⟨oc11, od11, .func (PySem.W.fnOf "_law_stream" "_law_stream" (defArgs sStream) (defBody sStream) (defScope sStream) .none kV11 dc11 pm11 an11 cd11 ct11), sl11⟩) (c11 : PySem.W.codeIn K cd11 "_law_stream" = true) (k11 : PySem.W.keepIn K (.ref f11) = true)
    (a12 : PySem.W.nsIn K mainGlobals "_law_draw" = some (some (.ref f12))) (l12 : K.lookup f12 = some ⟨oc12, od12, .func (PySem.W.fnOf "_law_draw" "_law_draw" (defArgs sDraw) (defBody sDraw) (defScope sDraw) .none kV12 dc12 pm12 an12 cd12 ct12), sl12⟩) (c12 : PySem.W.codeIn K cd12 "_law_draw" = true) (k12 : PySem.W.keepIn K (.ref f12) = true)
    (a13 : PySem.W.nsIn K mainGlobals "_law_pick" = some (some (.ref f13))) (l13 : K.lookup f13 = some ⟨oc13, od13, .func (PySem.W.fnOf "_law_pick" "_law_pick" (defArgs s_l_pick) (defBody s_l_pick) (defScope s_l_pick) .none kV13 dc13 pm13 an13 cd13 ct13), sl13⟩) (c13 : PySem.W.codeIn K cd13 "_law_pick" = true) (k13 : PySem.W.keepIn K (.ref f13) = true)
    (a14 : PySem.W.nsIn K mainGlobals "_law_odd" = some (some (.ref f14))) (l14 : K.lookup f14 = some ⟨oc14, od14, .func (PySem.W.fnOf "_law_odd" "_law_odd" (defArgs s_l_odd) (defBody s_l_odd) (defScope s_l_odd) .none kV14 dc14 pm14 an14 cd14 ct14), sl14⟩) (c14 : PySem.W.codeIn K cd14 "_law_odd" = true) (k14 : PySem.W.keepIn K (.ref f14) = true)
    (a15 : PySem.W.nsIn K mainGlobals "_law_drawn" = some (some (.ref f15))) (l15 : K.lookup f15 = some ⟨oc15, od15, .func (PySem.W.fnOf "_law_drawn" "_law_drawn" (defArgs s_l_drawn) (defBody s_l_drawn) (defScope s_l_drawn) .none kV15 dc15 pm15 an15 cd15 ct15), sl15⟩) (c15 : PySem.W.codeIn K cd15 "_law_drawn" = true) (k15 : PySem.W.keepIn K (.ref f15) = true)
    (a16 : PySem.W.nsIn K mainGlobals "_law_alone" = some (some (.ref f16))) (l16 : K.lookup f16 = some ⟨oc16, od16, .func (PySem.W.fnOf "_law_alone" "_law_alone" (defArgs s_l_alone) (defBody s_l_alone) (defScope s_l_alone) .none kV16 dc16 pm16 an16 cd16 ct16), sl16⟩) (c16 : PySem.W.codeIn K cd16 "_law_alone" = true) (k16 : PySem.W.keepIn K (.ref f16) = true)
    (a17 : PySem.W.nsIn K mainGlobals "_law_called" = some (some (.ref f17))) (l17 : K.lookup f17 = some ⟨oc17, od17, .func (PySem.W.fnOf "_law_called" "_law_called" (defArgs s_l_called) (defBody s_l_called) (defScope s_l_called) .none kV17 dc17 pm17 an17 cd17 ct17), sl17⟩) (c17 : PySem.W.codeIn K cd17 "_law_called" = true) (k17 : PySem.W.keepIn K (.ref f17) = true)
    (a18 : PySem.W.nsIn K mainGlobals "_law_told" = some (some (.ref f18))) (l18 : K.lookup f18 = some ⟨oc18, od18, .func (PySem.W.fnOf "_law_told" "_law_told" (defArgs s_l_told) (defBody s_l_told) (defScope s_l_told) .none kV18 dc18 pm18 an18 cd18 ct18), sl18⟩) (c18 : PySem.W.codeIn K cd18 "_law_told" = true) (k18 : PySem.W.keepIn K (.ref f18) = true)
    (a19 : PySem.W.nsIn K mainGlobals "_law_is_right" = some (some (.ref f19))) (l19 : K.lookup f19 = some ⟨oc19, od19, .func (PySem.W.fnOf "_law_is_right" "_law_is_right" (defArgs s_l_is_right) (defBody s_l_is_right) (defScope s_l_is_right) .none kV19 dc19 pm19 an19 cd19 ct19), sl19⟩) (c19 : PySem.W.codeIn K cd19 "_law_is_right" = true) (k19 : PySem.W.keepIn K (.ref f19) = true)
    (a20 : PySem.W.nsIn K mainGlobals "_law_due" = some (some (.ref f20))) (l20 : K.lookup f20 = some ⟨oc20, od20, .func (PySem.W.fnOf "_law_due" "_law_due" (defArgs s_l_due) (defBody s_l_due) (defScope s_l_due) .none kV20 dc20 pm20 an20 cd20 ct20), sl20⟩) (c20 : PySem.W.codeIn K cd20 "_law_due" = true) (k20 : PySem.W.keepIn K (.ref f20) = true)
    (a21 : PySem.W.nsIn K mainGlobals "law" = some (some (.ref f21))) (l21 : K.lookup f21 = some ⟨oc21, od21, .func (PySem.W.fnOf "law" "law" (defArgs s_law) (defBody s_law) (defScope s_law) .none kV21 dc21 pm21 an21 cd21 ct21), sl21⟩) (c21 : PySem.W.codeIn K cd21 "law" = true) (k21 : PySem.W.keepIn K (.ref f21) = true)
    (z1 : PySem.W.nsIn K mainGlobals "LookupError" = some none)
    (z2 : PySem.W.nsIn K mainGlobals "ValueError" = some none)
    (z3 : PySem.W.nsIn K mainGlobals "abs" = some none)
    (z4 : PySem.W.nsIn K mainGlobals "bool" = some none)
    (z5 : PySem.W.nsIn K mainGlobals "enumerate" = some none)
    (z6 : PySem.W.nsIn K mainGlobals "int" = some none)
    (z7 : PySem.W.nsIn K mainGlobals "isinstance" = some none)
    (z8 : PySem.W.nsIn K mainGlobals "len" = some none)
    (z9 : PySem.W.nsIn K mainGlobals "list" = some none)
    (z10 : PySem.W.nsIn K mainGlobals "min" = some none)
    (z11 : PySem.W.nsIn K mainGlobals "range" = some none)
    (z12 : PySem.W.nsIn K mainGlobals "repr" = some none)
    (z13 : PySem.W.nsIn K mainGlobals "sorted" = some none)
    (z14 : PySem.W.nsIn K mainGlobals "str" = some none)
    (z15 : PySem.W.nsIn K mainGlobals "tuple" = some none)
    (z16 : PySem.W.nsIn K mainGlobals "zip" = some none)
    (y1 : PySem.W.nsIn K mainGlobals "LETTERS" = some (some (.str "abcdefghijklmnopqrstuvwxyz" tk1)))
    (aC_NoProperty : PySem.W.nsIn K mainGlobals "NoProperty" = some (some (.ref C_NoProperty)))
    (aC_BadWish : PySem.W.nsIn K mainGlobals "BadWish" = some (some (.ref C_BadWish)))
    (aC_NoVersion : PySem.W.nsIn K mainGlobals "NoVersion" = some (some (.ref C_NoVersion)))
    (aC_NoIndex : PySem.W.nsIn K mainGlobals "NoIndex" = some (some (.ref C_NoIndex)))
    (aC_NoPlace : PySem.W.nsIn K mainGlobals "NoPlace" = some (some (.ref C_NoPlace)))
    (aC_BadWord : PySem.W.nsIn K mainGlobals "BadWord" = some (some (.ref C_BadWord)))
    (aC_NoWords : PySem.W.nsIn K mainGlobals "NoWords" = some (some (.ref C_NoWords)))
    (aC_TooLong : PySem.W.nsIn K mainGlobals "TooLong" = some (some (.ref C_TooLong)))
    (aC_BadLetter : PySem.W.nsIn K mainGlobals "BadLetter" = some (some (.ref C_BadLetter)))
    (aC_TailError : PySem.W.nsIn K mainGlobals "TailError" = some (some (.ref C_TailError)))
    (ga_NoProperty : PySem.W.findIn K (.ref C_NoProperty) "__getattribute__" = some (some (.builtin "BaseException.__getattribute__")))
    (gg_NoProperty : PySem.W.findIn K (.ref C_NoProperty) "__getattr__" = some none)
    (eb_NoProperty : PySem.W.subIn K (.ref C_NoProperty) (.type "BaseException") = some true)
    (hd_NoProperty : PySem.W.hasDictIn K C_NoProperty = true)
    (kc_NoProperty : PySem.W.keepIn K (.ref C_NoProperty) = true)
    (ty_NoProperty : PySem.W.typeIn K (.ref C_NoProperty) = some (.type "type"))
    (xL_NoProperty : K.lookup C_NoProperty = some (excClassObj nm_NoProperty qn_NoProperty C_NoProperty N_NoProperty bs_NoProperty bm_NoProperty true sn_NoProperty sb_NoProperty ab_NoProperty col_NoProperty dd_NoProperty m0_NoProperty m1_NoProperty m2_NoProperty m3_NoProperty m5_NoProperty "ValueError.__new__"))
    (te_NoProperty : PySem.W.excTail [.type "ValueError", .type "Exception", .type "BaseException", .type "object"] bm_NoProperty = true)
    (sa_NoProperty : PySem.W.findIn K (.ref C_NoProperty) "__setattr__" = some (some (.builtin "object.__setattr__")))
    (tk_NoProperty : PySem.W.takerIn K C_NoProperty "name" = some none)
    (iC_NoProperty : PySem.W.findIn K (.ref C_NoProperty) "__init__" = some (some (.ref I_NoProperty)))
    (tI_NoProperty : PySem.W.typeIn K (.ref I_NoProperty) = some (.type "function"))
    (lI_NoProperty : K.lookup I_NoProperty = some ⟨o1_NoProperty, od_NoProperty, .func (PySem.W.fnOf "__init__" "NoProperty.__init__" (xA "name" p1_NoProperty p2_NoProperty) (xB "name" q1_NoProperty q2_NoProperty q3_NoProperty q4_NoProperty) (xS "name") .none .none doc_NoProperty pm_NoProperty an_NoProperty cdv_NoProperty ct_NoProperty), osl_NoProperty⟩)
    (cI_NoProperty : PySem.W.codeIn K cdv_NoProperty "NoProperty.__init__" = true)
    (ga_BadWish : PySem.W.findIn K (.ref C_BadWish) "__getattribute__" = some (some (.builtin "BaseException.__getattribute__")))
    (gg_BadWish : PySem.W.findIn K (.ref C_BadWish) "__getattr__" = some none)
    (eb_BadWish : PySem.W.subIn K (.ref C_BadWish) (.type "BaseException") = some true)
    (hd_BadWish : PySem.W.hasDictIn K C_BadWish = true)
    (kc_BadWish : PySem.W.keepIn K (.ref C_BadWish) = true)
    (ty_BadWish : PySem.W.typeIn K (.ref C_BadWish) = some (.type "type"))
    (xL_BadWish : K.lookup C_BadWish = some (excClassObj nm_BadWish qn_BadWish C_BadWish N_BadWish bs_BadWish bm_BadWish true sn_BadWish sb_BadWish ab_BadWish col_BadWish dd_BadWish m0_BadWish m1_BadWish m2_BadWish m3_BadWish m5_BadWish "ValueError.__new__"))
    (te_BadWish : PySem.W.excTail [.type "ValueError", .type "Exception", .type "BaseException", .type "object"] bm_BadWish = true)
    (sa_BadWish : PySem.W.findIn K (.ref C_BadWish) "__setattr__" = some (some (.builtin "object.__setattr__")))
    (tk_BadWish : PySem.W.takerIn K C_BadWish "value" = some none)
    (iC_BadWish : PySem.W.findIn K (.ref C_BadWish) "__init__" = some (some (.ref I_BadWish)))
    (tI_BadWish : PySem.W.typeIn K (.ref I_BadWish) = some (.type "function"))
    (lI_BadWish : K.lookup I_BadWish = some ⟨o1_BadWish, od_BadWish, .func (PySem.W.fnOf "__init__" "BadWish.__init__" (xA "value" p1_BadWish p2_BadWish) (xB "value" q1_BadWish q2_BadWish q3_BadWish q4_BadWish) (xS "value") .none .none doc_BadWish pm_BadWish an_BadWish cdv_BadWish ct_BadWish), osl_BadWish⟩)
    (cI_BadWish : PySem.W.codeIn K cdv_BadWish "BadWish.__init__" = true)
    (ha_BadWish : PySem.W.findIn K (.ref C_BadWish) "__class__" = some (some (.builtin "object.__class__")))
    (hm_BadWish : PySem.W.mroIn K C_BadWish (.type "object") = some true)
    (hn_ : PySem.W.specialIn K (.builtin "object.__class__") "__get__" = some (some (.builtin "getset_descriptor.__get__")))
    (ht_ : PySem.W.takesIn K (.builtin "object.__class__") = some true)
    (sb_BadWish_NoVersion : PySem.W.subIn K (.ref C_BadWish) (.ref C_NoVersion) = some false)
    (sb_BadWish_BadWish : PySem.W.subIn K (.ref C_BadWish) (.ref C_BadWish) = some true)
    (eb_NoVersion : PySem.W.subIn K (.ref C_NoVersion) (.type "BaseException") = some true)
    (hd_NoVersion : PySem.W.hasDictIn K C_NoVersion = true)
    (ty_NoVersion : PySem.W.typeIn K (.ref C_NoVersion) = some (.type "type"))
    (ha_NoProperty : PySem.W.findIn K (.ref C_NoProperty) "__class__" = some (some (.builtin "object.__class__")))
    (hm_NoProperty : PySem.W.mroIn K C_NoProperty (.type "object") = some true)
    (sb_NoProperty_NoVersion : PySem.W.subIn K (.ref C_NoProperty) (.ref C_NoVersion) = some false)
    (sb_NoProperty_NoProperty : PySem.W.subIn K (.ref C_NoProperty) (.ref C_NoProperty) = some true)
    (sb_BadWish_NoIndex : PySem.W.subIn K (.ref C_BadWish) (.ref C_NoIndex) = some false)
    (eb_NoIndex : PySem.W.subIn K (.ref C_NoIndex) (.type "BaseException") = some true)
    (hd_NoIndex : PySem.W.hasDictIn K C_NoIndex = true)
    (ty_NoIndex : PySem.W.typeIn K (.ref C_NoIndex) = some (.type "type"))
    (sb_NoProperty_NoIndex : PySem.W.subIn K (.ref C_NoProperty) (.ref C_NoIndex) = some false)
    (sb_BadWish_NoPlace : PySem.W.subIn K (.ref C_BadWish) (.ref C_NoPlace) = some false)
    (eb_NoPlace : PySem.W.subIn K (.ref C_NoPlace) (.type "BaseException") = some true)
    (hd_NoPlace : PySem.W.hasDictIn K C_NoPlace = true)
    (ty_NoPlace : PySem.W.typeIn K (.ref C_NoPlace) = some (.type "type"))
    (sb_NoProperty_NoPlace : PySem.W.subIn K (.ref C_NoProperty) (.ref C_NoPlace) = some false)
    (sb_BadWish_BadWord : PySem.W.subIn K (.ref C_BadWish) (.ref C_BadWord) = some false)
    (eb_BadWord : PySem.W.subIn K (.ref C_BadWord) (.type "BaseException") = some true)
    (hd_BadWord : PySem.W.hasDictIn K C_BadWord = true)
    (ty_BadWord : PySem.W.typeIn K (.ref C_BadWord) = some (.type "type"))
    (sb_NoProperty_BadWord : PySem.W.subIn K (.ref C_NoProperty) (.ref C_BadWord) = some false)
    (sb_NoProperty_BadWish : PySem.W.subIn K (.ref C_NoProperty) (.ref C_BadWish) = some false)
    (sb_BadWish_NoProperty : PySem.W.subIn K (.ref C_BadWish) (.ref C_NoProperty) = some false)
    (sb_BadWish_NoWords : PySem.W.subIn K (.ref C_BadWish) (.ref C_NoWords) = some false)
    (eb_NoWords : PySem.W.subIn K (.ref C_NoWords) (.type "BaseException") = some true)
    (hd_NoWords : PySem.W.hasDictIn K C_NoWords = true)
    (ty_NoWords : PySem.W.typeIn K (.ref C_NoWords) = some (.type "type"))
    (sb_NoProperty_NoWords : PySem.W.subIn K (.ref C_NoProperty) (.ref C_NoWords) = some false)
    (sb_BadWish_TooLong : PySem.W.subIn K (.ref C_BadWish) (.ref C_TooLong) = some false)
    (eb_TooLong : PySem.W.subIn K (.ref C_TooLong) (.type "BaseException") = some true)
    (hd_TooLong : PySem.W.hasDictIn K C_TooLong = true)
    (ty_TooLong : PySem.W.typeIn K (.ref C_TooLong) = some (.type "type"))
    (sb_NoProperty_TooLong : PySem.W.subIn K (.ref C_NoProperty) (.ref C_TooLong) = some false)
    (sb_BadWish_BadLetter : PySem.W.subIn K (.ref C_BadWish) (.ref C_BadLetter) = some false)
    (eb_BadLetter : PySem.W.subIn K (.ref C_BadLetter) (.type "BaseException") = some true)
    (hd_BadLetter : PySem.W.hasDictIn K C_BadLetter = true)
    (ty_BadLetter : PySem.W.typeIn K (.ref C_BadLetter) = some (.type "type"))
    (sb_NoProperty_BadLetter : PySem.W.subIn K (.ref C_NoProperty) (.ref C_BadLetter) = some false)
    (sb_BadWish_LookupError : PySem.W.subIn K (.ref C_BadWish) (.type "LookupError") = some false)
    (sx_LookupError : PySem.W.subIn K (.type "LookupError") (.type "BaseException") = some true)
    (sb_NoProperty_LookupError : PySem.W.subIn K (.ref C_NoProperty) (.type "LookupError") = some false)
    (sb_BadWish_ValueError : PySem.W.subIn K (.ref C_BadWish) (.type "ValueError") = some true)
    (sx_ValueError : PySem.W.subIn K (.type "ValueError") (.type "BaseException") = some true)
    (sb_BadWish_TailError : PySem.W.subIn K (.ref C_BadWish) (.ref C_TailError) = some true)
    (eb_TailError : PySem.W.subIn K (.ref C_TailError) (.type "BaseException") = some true)
    (hd_TailError : PySem.W.hasDictIn K C_TailError = true)
    (ty_TailError : PySem.W.typeIn K (.ref C_TailError) = some (.type "type"))
    (sb_NoProperty_ValueError : PySem.W.subIn K (.ref C_NoProperty) (.type "ValueError") = some true)
    (sb_NoProperty_TailError : PySem.W.subIn K (.ref C_NoProperty) (.ref C_TailError) = some true)
    (nf_NoProperty_name : PySem.W.findIn K (.ref C_NoProperty) "name" = some none)
    (nf_BadWish_value : PySem.W.findIn K (.ref C_BadWish) "value" = some none)
    : ∃ fd : FuncData, (∀ (s : Shared) (v : Value), BindsTo s fd ⟨[v], []⟩ [("_law_script", v)]) ∧ ∀ base : Heap, K.In base → base.Ns mainGlobals mg → SmB base → FnG l.prog w K mg base 8 fa fd ["_law_script"] (spLaw K) := by
  have e := hfa.symm.trans (PySem.W.mg_of X G a21)
  cases e
  have F1 := fun_mk (st := s_tail_order) l1 c1 k1
  have F2 := fun_mk (st := s_ranks_in) l2 c2 k2
  have F3 := fun_mk (st := s_tail_ranks) l3 c3 k3
  have F4 := fun_mk (st := s_ranks_of) l4 c4 k4
  have F5 := fun_mk (st := s_strict_steps) l5 c5 k5
  have F6 := fun_mk (st := s_factor_places) l6 c6 k6
  have F7 := fun_mk (st := s_is_whole) l7 c7 k7
  have F8 := fun_mk (st := s_is_wish) l8 c8 k8
  have F9 := fun_mk (st := s_values_of) l9 c9 k9
  have F10 := fun_mk (st := s_select) l10 c10 k10
  have F11 := fun_mk (st := sStream) l11 c11 k11
  have F12 := fun_mk (st := sDraw) l12 c12 k12
  have F13 := fun_mk (st := s_l_pick) l13 c13 k13
  have F14 := fun_mk (st := s_l_odd) l14 c14 k14
  have F15 := fun_mk (st := s_l_drawn) l15 c15 k15
  have F16 := fun_mk (st := s_l_alone) l16 c16 k16
  have F17 := fun_mk (st := s_l_called) l17 c17 k17
  have F18 := fun_mk (st := s_l_told) l18 c18 k18
  have F19 := fun_mk (st := s_l_is_right) l19 c19 k19
  have F20 := fun_mk (st := s_l_due) l20 c20 k20
  have F21 := fun_mk (st := s_law) l21 c21 k21
  have g1 := PySem.W.mg_of X G a1
  have g2 := PySem.W.mg_of X G a2
  have g3 := PySem.W.mg_of X G a3
  have g4 := PySem.W.mg_of X G a4
  have g5 := PySem.W.mg_of X G a5
  have g6 := PySem.W.mg_of X G a6
  have g7 := PySem.W.mg_of X G a7
  have g8 := PySem.W.mg_of X G a8
  have g9 := PySem.W.mg_of X G a9
  have g10 := PySem.W.mg_of X G a10
  have g11 := PySem.W.mg_of X G a11
  have g12 := PySem.W.mg_of X G a12
  have g13 := PySem.W.mg_of X G a13
  have g14 := PySem.W.mg_of X G a14
  have g15 := PySem.W.mg_of X G a15
  have g16 := PySem.W.mg_of X G a16
  have g17 := PySem.W.mg_of X G a17
  have g18 := PySem.W.mg_of X G a18
  have g19 := PySem.W.mg_of X G a19
  have g20 := PySem.W.mg_of X G a20
  have g21 := PySem.W.mg_of X G a21
  have m_LookupError := PySem.W.mg_none_of X G z1
  have m_ValueError := PySem.W.mg_none_of X G z2
  have m_abs := PySem.W.mg_none_of X G z3
  have m_bool := PySem.W.mg_none_of X G z4
  have m_enumerate := PySem.W.mg_none_of X G z5
  have m_int := PySem.W.mg_none_of X G z6
  have m_isinstance := PySem.W.mg_none_of X G z7
  have m_len := PySem.W.mg_none_of X G z8
  have m_list := PySem.W.mg_none_of X G z9
  have m_min := PySem.W.mg_none_of X G z10
  have m_range := PySem.W.mg_none_of X G z11
  have m_repr := PySem.W.mg_none_of X G z12
  have m_sorted := PySem.W.mg_none_of X G z13
  have m_str := PySem.W.mg_none_of X G z14
  have m_tuple := PySem.W.mg_none_of X G z15
  have m_zip := PySem.W.mg_none_of X G z16
  have c_LETTERS : GlS (mg "LETTERS") [97, 98, 99, 100, 101, 102, 103, 104, 105, 106, 107, 108, 109, 110, 111, 112, 113, 114, 115, 116, 117, 118, 119, 120, 121, 122] := ⟨_, _, PySem.W.mg_of X G y1, by decide +kernel⟩
  have xr_NoProperty : RaisesF K "NoProperty" "name" := ⟨"ValueError", _, _, _, C_NoProperty, I_NoProperty, _, ⟨aC_NoProperty, (exInit_of xL_NoProperty te_NoProperty).1, (exInit_of xL_NoProperty te_NoProperty).2, sa_NoProperty, tk_NoProperty, hd_NoProperty, iC_NoProperty, tI_NoProperty, kc_NoProperty, eb_NoProperty, ty_NoProperty, by decide, ⟨_, _, _, _, _, _, _, _, _, _, _, _, _, _, lI_NoProperty, cI_NoProperty⟩, PySem.F.excBase_ValueError, PySem.F.store_ValueError⟩⟩
  have xr_BadWish : RaisesF K "BadWish" "value" := ⟨"ValueError", _, _, _, C_BadWish, I_BadWish, _, ⟨aC_BadWish, (exInit_of xL_BadWish te_BadWish).1, (exInit_of xL_BadWish te_BadWish).2, sa_BadWish, tk_BadWish, hd_BadWish, iC_BadWish, tI_BadWish, kc_BadWish, eb_BadWish, ty_BadWish, by decide, ⟨_, _, _, _, _, _, _, _, _, _, _, _, _, _, lI_BadWish, cI_BadWish⟩, PySem.F.excBase_ValueError, PySem.F.store_ValueError⟩⟩
  have xs_BadWish_NoVersion : SubT K "BadWish" "NoVersion" false := subT_own aC_BadWish aC_NoVersion sb_BadWish_NoVersion sb_BadWish_BadWish eb_NoVersion hd_NoVersion ty_NoVersion ⟨ga_BadWish, gg_BadWish, eb_BadWish, hd_BadWish, ha_BadWish, hn_, ht_, hm_BadWish⟩
  have xs_NoProperty_NoVersion : SubT K "NoProperty" "NoVersion" false := subT_own aC_NoProperty aC_NoVersion sb_NoProperty_NoVersion sb_NoProperty_NoProperty eb_NoVersion hd_NoVersion ty_NoVersion ⟨ga_NoProperty, gg_NoProperty, eb_NoProperty, hd_NoProperty, ha_NoProperty, hn_, ht_, hm_NoProperty⟩
  have xs_BadWish_NoIndex : SubT K "BadWish" "NoIndex" false := subT_own aC_BadWish aC_NoIndex sb_BadWish_NoIndex sb_BadWish_BadWish eb_NoIndex hd_NoIndex ty_NoIndex ⟨ga_BadWish, gg_BadWish, eb_BadWish, hd_BadWish, ha_BadWish, hn_, ht_, hm_BadWish⟩
  have xs_NoProperty_NoIndex : SubT K "NoProperty" "NoIndex" false := subT_own aC_NoProperty aC_NoIndex sb_NoProperty_NoIndex sb_NoProperty_NoProperty eb_NoIndex hd_NoIndex ty_NoIndex ⟨ga_NoProperty, gg_NoProperty, eb_NoProperty, hd_NoProperty, ha_NoProperty, hn_, ht_, hm_NoProperty⟩
  have xs_BadWish_NoPlace : SubT K "BadWish" "NoPlace" false := subT_own aC_BadWish aC_NoPlace sb_BadWish_NoPlace sb_BadWish_BadWish eb_NoPlace hd_NoPlace ty_NoPlace ⟨ga_BadWish, gg_BadWish, eb_BadWish, hd_BadWish, ha_BadWish, hn_, ht_, hm_BadWish⟩
  have xs_NoProperty_NoPlace : SubT K "NoProperty" "NoPlace" false := subT_own aC_NoProperty aC_NoPlace sb_NoProperty_NoPlace sb_NoProperty_NoProperty eb_NoPlace hd_NoPlace ty_NoPlace ⟨ga_NoProperty, gg_NoProperty, eb_NoProperty, hd_NoProperty, ha_NoProperty, hn_, ht_, hm_NoProperty⟩
  have xs_BadWish_BadWord : SubT K "BadWish" "BadWord" false := subT_own aC_BadWish aC_BadWord sb_BadWish_BadWord sb_BadWish_BadWish eb_BadWord hd_BadWord ty_BadWord ⟨ga_BadWish, gg_BadWish, eb_BadWish, hd_BadWish, ha_BadWish, hn_, ht_, hm_BadWish⟩
  have xs_NoProperty_BadWord : SubT K "NoProperty" "BadWord" false := subT_own aC_NoProperty aC_BadWord sb_NoProperty_BadWord sb_NoProperty_NoProperty eb_BadWord hd_BadWord ty_BadWord ⟨ga_NoProperty, gg_NoProperty, eb_NoProperty, hd_NoProperty, ha_NoProperty, hn_, ht_, hm_NoProperty⟩
  have xs_BadWish_BadWish : SubT K "BadWish" "BadWish" true := subT_own aC_BadWish aC_BadWish sb_BadWish_BadWish sb_BadWish_BadWish eb_BadWish hd_BadWish ty_BadWish ⟨ga_BadWish, gg_BadWish, eb_BadWish, hd_BadWish, ha_BadWish, hn_, ht_, hm_BadWish⟩
  have xs_NoProperty_BadWish : SubT K "NoProperty" "BadWish" false := subT_own aC_NoProperty aC_BadWish sb_NoProperty_BadWish sb_NoProperty_NoProperty eb_BadWish hd_BadWish ty_BadWish ⟨ga_NoProperty, gg_NoProperty, eb_NoProperty, hd_NoProperty, ha_NoProperty, hn_, ht_, hm_NoProperty⟩
  have xs_BadWish_NoProperty : SubT K "BadWish" "NoProperty" false := subT_own aC_BadWish aC_NoProperty sb_BadWish_NoProperty sb_BadWish_BadWish eb_NoProperty hd_NoProperty ty_NoProperty ⟨ga_BadWish, gg_BadWish, eb_BadWish, hd_BadWish, ha_BadWish, hn_, ht_, hm_BadWish⟩
  have xs_NoProperty_NoProperty : SubT K "NoProperty" "NoProperty" true := subT_own aC_NoProperty aC_NoProperty sb_NoProperty_NoProperty sb_NoProperty_NoProperty eb_NoProperty hd_NoProperty ty_NoProperty ⟨ga_NoProperty, gg_NoProperty, eb_NoProperty, hd_NoProperty, ha_NoProperty, hn_, ht_, hm_NoProperty⟩
  have xs_BadWish_NoWords : SubT K "BadWish" "NoWords" false := subT_own aC_BadWish aC_NoWords sb_BadWish_NoWords sb_BadWish_BadWish eb_NoWords hd_NoWords ty_NoWords ⟨ga_BadWish, gg_BadWish, eb_BadWish, hd_BadWish, ha_BadWish, hn_, ht_, hm_BadWish⟩
  have xs_NoProperty_NoWords : SubT K "NoProperty" "NoWords" false := subT_own aC_NoProperty aC_NoWords sb_NoProperty_NoWords sb_NoProperty_NoProperty eb_NoWords hd_NoWords ty_NoWords ⟨ga_NoProperty, gg_NoProperty, eb_NoProperty, hd_NoProperty, ha_NoProperty, hn_, ht_, hm_NoProperty⟩
  have xs_BadWish_TooLong : SubT K "BadWish" "TooLong" false := subT_own aC_BadWish aC_TooLong sb_BadWish_TooLong sb_BadWish_BadWish eb_TooLong hd_TooLong ty_TooLong ⟨ga_BadWish, gg_BadWish, eb_BadWish, hd_BadWish, ha_BadWish, hn_, ht_, hm_BadWish⟩
  have xs_NoProperty_TooLong : SubT K "NoProperty" "TooLong" false := subT_own aC_NoProperty aC_TooLong sb_NoProperty_TooLong sb_NoProperty_NoProperty eb_TooLong hd_TooLong ty_TooLong ⟨ga_NoProperty, gg_NoProperty, eb_NoProperty, hd_NoProperty, ha_NoProperty, hn_, ht_, hm_NoProperty⟩
  have xs_BadWish_BadLetter : SubT K "BadWish" "BadLetter" false := subT_own aC_BadWish aC_BadLetter sb_BadWish_BadLetter sb_BadWish_BadWish eb_BadLetter hd_BadLetter ty_BadLetter ⟨ga_BadWish, gg_BadWish, eb_BadWish, hd_BadWish, ha_BadWish, hn_, ht_, hm_BadWish⟩
  have xs_NoProperty_BadLetter : SubT K "NoProperty" "BadLetter" false := subT_own aC_NoProperty aC_BadLetter sb_NoProperty_BadLetter sb_NoProperty_NoProperty eb_BadLetter hd_BadLetter ty_BadLetter ⟨ga_NoProperty, gg_NoProperty, eb_NoProperty, hd_NoProperty, ha_NoProperty, hn_, ht_, hm_NoProperty⟩
  have xs_BadWish_LookupError : SubT K "BadWish" "LookupError" false := subT_ty aC_BadWish z1 rfl (by decide) sb_BadWish_LookupError sx_LookupError rfl ⟨ga_BadWish, gg_BadWish, eb_BadWish, hd_BadWish, ha_BadWish, hn_, ht_, hm_BadWish⟩
  have xs_NoProperty_LookupError : SubT K "NoProperty" "LookupError" false := subT_ty aC_NoProperty z1 rfl (by decide) sb_NoProperty_LookupError sx_LookupError rfl ⟨ga_NoProperty, gg_NoProperty, eb_NoProperty, hd_NoProperty, ha_NoProperty, hn_, ht_, hm_NoProperty⟩
  have xs_BadWish_ValueError : SubT K "BadWish" "ValueError" true := subT_ty aC_BadWish z2 rfl (by decide) sb_BadWish_ValueError sx_ValueError rfl ⟨ga_BadWish, gg_BadWish, eb_BadWish, hd_BadWish, ha_BadWish, hn_, ht_, hm_BadWish⟩
  have xs_BadWish_TailError : SubT K "BadWish" "TailError" true := subT_own aC_BadWish aC_TailError sb_BadWish_TailError sb_BadWish_BadWish eb_TailError hd_TailError ty_TailError ⟨ga_BadWish, gg_BadWish, eb_BadWish, hd_BadWish, ha_BadWish, hn_, ht_, hm_BadWish⟩
  have xs_NoProperty_ValueError : SubT K "NoProperty" "ValueError" true := subT_ty aC_NoProperty z2 rfl (by decide) sb_NoProperty_ValueError sx_ValueError rfl ⟨ga_NoProperty, gg_NoProperty, eb_NoProperty, hd_NoProperty, ha_NoProperty, hn_, ht_, hm_NoProperty⟩
  have xs_NoProperty_TailError : SubT K "NoProperty" "TailError" true := subT_own aC_NoProperty aC_TailError sb_NoProperty_TailError sb_NoProperty_NoProperty eb_TailError hd_TailError ty_TailError ⟨ga_NoProperty, gg_NoProperty, eb_NoProperty, hd_NoProperty, ha_NoProperty, hn_, ht_, hm_NoProperty⟩
  have xf_NoProperty_name : FldT K "NoProperty" "name" := ⟨C_NoProperty, aC_NoProperty, ⟨ga_NoProperty, gg_NoProperty, eb_NoProperty, hd_NoProperty⟩, nf_NoProperty_name⟩
  have xf_BadWish_value : FldT K "BadWish" "value" := ⟨C_BadWish, aC_BadWish, ⟨ga_BadWish, gg_BadWish, eb_BadWish, hd_BadWish⟩, nf_BadWish_value⟩
  have bs := F11.binds (ps := ["_law_script"]) fun _ _ _ _ _ _ us hl => match us, hl with | [_], _ => rfl
  have bd := F12.binds (ps := ["_law_stream_here", "_law_many"]) fun _ _ _ _ _ _ us hl => match us, hl with | [_, _], _ => rfl
  refine ⟨PySem.W.fnOf "law" "law" (defArgs s_law) (defBody s_law) (defScope s_law) .none kV21 dc21 pm21 an21 cd21 ct21, fun s v => .of_eq rfl, fun base _ _ m_sm => ?_⟩
  have F_l_draw := fnB_of F12 g12 (ok_draw (P := l.prog) (w := w) (base := base) F12 m_len) bd
  have FS := ok_stream (P := l.prog) (w := w) (mg := mg) (base := base) F11 m_len m_abs
  have F_tail_order := ok_tail_order (P := l.prog) (w := w) (base := base) F1 g1 m_len m_range m_sorted m_tuple p_tail_order
  have F_ranks_in := ok_ranks_in (P := l.prog) (w := w) (base := base) F2 g2 m_enumerate m_len m_tuple p_ranks_in
  have F_is_whole := ok_is_whole (P := l.prog) (w := w) (base := base) F7 g7 m_bool m_int m_isinstance p_is_whole
  have F_l_alone := ok_l_alone (P := l.prog) (w := w) (base := base) F16 g16 m_isinstance xs_BadWish_NoVersion xs_NoProperty_NoVersion xs_BadWish_NoIndex xs_NoProperty_NoIndex xs_BadWish_NoPlace xs_NoProperty_NoPlace xs_BadWish_BadWord xs_NoProperty_BadWord xs_BadWish_BadWish xs_NoProperty_BadWish xs_BadWish_NoProperty xs_NoProperty_NoProperty xs_BadWish_NoWords xs_NoProperty_NoWords xs_BadWish_TooLong xs_NoProperty_TooLong xs_BadWish_BadLetter xs_NoProperty_BadLetter xs_BadWish_LookupError xs_NoProperty_LookupError xs_BadWish_ValueError xs_BadWish_TailError xs_NoProperty_ValueError xs_NoProperty_TailError p_l_alone
  have F_l_is_right := ok_l_is_right (P := l.prog) (w := w) (base := base) F19 g19 m_bool m_int m_isinstance m_len m_str p_l_is_right
  have F_tail_ranks := ok_tail_ranks (P := l.prog) (w := w) (base := base) F3 g3 F_tail_order F_ranks_in p_tail_ranks
  have F_ranks_of := ok_ranks_of (P := l.prog) (w := w) (base := base) F4 g4 F_ranks_in p_ranks_of
  have F_strict_steps := ok_strict_steps (P := l.prog) (w := w) (base := base) F5 g5 F_ranks_in m_enumerate m_list m_tuple m_zip p_strict_steps
  have F_is_wish := ok_is_wish (P := l.prog) (w := w) (base := base) F8 g8 F_is_whole m_bool m_isinstance m_len m_str c_LETTERS p_is_wish
  have F_l_pick := ok_l_pick (P := l.prog) (w := w) (base := base) F13 g13 F_l_draw m_len p_l_pick
  have F_l_odd := ok_l_odd (P := l.prog) (w := w) (base := base) F14 g14 F_l_draw p_l_odd
  have F_l_due := ok_l_due (P := l.prog) (w := w) (base := base) F20 g20 F_l_is_right m_zip p_l_due
  have F_factor_places := ok_factor_places (P := l.prog) (w := w) (base := base) F6 g6 F_ranks_of m_enumerate m_len m_tuple p_factor_places
  have F_l_drawn := ok_l_drawn (P := l.prog) (w := w) (base := base) F15 g15 F_l_draw F_l_pick m_min m_range p_l_drawn
  have F_values_of := ok_values_of (P := l.prog) (w := w) (base := base) F9 g9 F_tail_order F_tail_ranks F_strict_steps F_factor_places m_len m_list m_range p_values_of
  have Q_is_wish := F_is_wish.lq
  have Q_values_of := F_values_of.lq
  have F_select := ok_select (P := l.prog) (w := w) (base := base) F10 g10 Q_is_wish Q_values_of m_len m_list m_range m_tuple xr_NoProperty xr_BadWish p_select
  have F_l_called := ok_l_called (P := l.prog) (w := w) (base := base) F17 g17 F_select p_l_called
  have Q_l_alone := F_l_alone.lq
  have F_l_told := ok_l_told (P := l.prog) (w := w) (base := base) F18 g18 F_l_called Q_l_alone m_int m_isinstance m_tuple xs_BadWish_TailError xs_NoProperty_TailError xs_BadWish_NoProperty xs_NoProperty_NoProperty xf_NoProperty_name xs_BadWish_BadWish xs_NoProperty_BadWish xf_BadWish_value p_l_told
  have Q_l_drawn := F_l_drawn.lq
  have Q_l_draw := F_l_draw.lq
  have Q_l_odd := F_l_odd.lq
  have Q_l_due := F_l_due.lq
  exact ok_law (P := l.prog) (w := w) (base := base) F21 FS g11 k11 bs Q_l_drawn Q_l_draw Q_l_odd F_l_told Q_l_due m_len m_range m_repr m_sm p_law
end LW
open PySem PySem.W PyProof.Rows
set_option maxHeartbeats 0 in
theorem PySem.Challenge.cw_tailranks_k55_errors_of_select_holds : PySem.Challenge.rw_tailranks_k55_errors_of_select.Holds := by
  w_on; o_law; k_head; (case hw => w_witness2)
  k_fill
  refine DL.walkG (l := PySem.Challenge.rw_tailranks_k55_errors_of_select) (n := 63) (k := 8) (x := "_law_script") (sp := fun w => DL.spLaw _) rfl (by decide +kernel) (by decide) rfl ⟨rfl, by decide, by decide⟩ (fun w h Y => PySem.W.kIn_of Y) ?F (fun _ _ a ns hl hS => ⟨a, ns, rfl, hS, hl, fun _ => rfl⟩)
  case F =>
    intro w mg fa h KX G hmg
    refine' LW.all_mk KX G hmg ?a1 ?l1 ?c1 ?k1 ?a2 ?l2 ?c2 ?k2 ?a3 ?l3 ?c3 ?k3 ?a4 ?l4 ?c4 ?k4 ?a5 ?l5 ?c5 ?k5 ?a6 ?l6 ?c6 ?k6 ?a7 ?l7 ?c7 ?k7 ?a8 ?l8 ?c8 ?k8 ?a9 ?l9 ?c9 ?k9 ?a10 ?l10 ?c10 ?k10 ?a11 ?l11 ?c11 ?k11 ?a12 ?l12 ?c12 ?k12 ?a13 ?l13 ?c13 ?k13 ?a14 ?l14 ?c14 ?k14 ?a15 ?l15 ?c15 ?k15 ?a16 ?l16 ?c16 ?k16 ?a17 ?l17 ?c17 ?k17 ?a18 ?l18 ?c18 ?k18 ?a19 ?l19 ?c19 ?k19 ?a20 ?l20 ?c20 ?k20 ?a21 ?l21 ?c21 ?k21 ?z1 ?z2 ?z3 ?z4 ?z5 ?z6 ?z7 ?z8 ?z9 ?z10 ?z11 ?z12 ?z13 ?z14 ?z15 ?z16 ?y1 ?aC_NoProperty ?aC_BadWish ?aC_NoVersion ?aC_NoIndex ?aC_NoPlace ?aC_BadWord ?aC_NoWords ?aC_TooLong ?aC_BadLetter ?aC_TailError ?ga_NoProperty ?gg_NoProperty ?eb_NoProperty ?hd_NoProperty ?kc_NoProperty ?ty_NoProperty ?xL_NoProperty ?te_NoProperty ?sa_NoProperty ?tk_NoProperty ?iC_NoProperty ?tI_NoProperty ?lI_NoProperty ?cI_NoProperty ?ga_BadWish ?gg_BadWish ?eb_BadWish ?hd_BadWish ?kc_BadWish ?ty_BadWish ?xL_BadWish ?te_BadWish ?sa_BadWish ?tk_BadWish ?iC_BadWish ?tI_BadWish ?lI_BadWish ?cI_BadWish ?ha_BadWish ?hm_BadWish ?hn_ ?ht_ ?sb_BadWish_NoVersion ?sb_BadWish_BadWish ?eb_NoVersion ?hd_NoVersion ?ty_NoVersion ?ha_NoProperty ?hm_NoProperty ?sb_NoProperty_NoVersion ?sb_NoProperty_NoProperty ?sb_BadWish_NoIndex ?eb_NoIndex ?hd_NoIndex ?ty_NoIndex ?sb_NoProperty_NoIndex ?sb_BadWish_NoPlace ?eb_NoPlace ?hd_NoPlace ?ty_NoPlace ?sb_NoProperty_NoPlace ?sb_BadWish_BadWord ?eb_BadWord ?hd_BadWord ?ty_BadWord ?sb_NoProperty_BadWord ?sb_NoProperty_BadWish ?sb_BadWish_NoProperty ?sb_BadWish_NoWords ?eb_NoWords ?hd_NoWords ?ty_NoWords ?sb_NoProperty_NoWords ?sb_BadWish_TooLong ?eb_TooLong ?hd_TooLong ?ty_TooLong ?sb_NoProperty_TooLong ?sb_BadWish_BadLetter ?eb_BadLetter ?hd_BadLetter ?ty_BadLetter ?sb_NoProperty_BadLetter ?sb_BadWish_LookupError ?sx_LookupError ?sb_NoProperty_LookupError ?sb_BadWish_ValueError ?sx_ValueError ?sb_BadWish_TailError ?eb_TailError ?hd_TailError ?ty_TailError ?sb_NoProperty_ValueError ?sb_NoProperty_TailError ?nf_NoProperty_name ?nf_BadWish_value
    (case a1 => k_is); (case l1 => k_is); (case c1 => k_is); (case k1 => k_is); (case a2 => k_is); (case l2 => k_is); (case c2 => k_is); (case k2 => k_is); (case a3 => k_is); (case l3 => k_is); (case c3 => k_is); (case k3 => k_is); (case a4 => k_is); (case l4 => k_is); (case c4 => k_is); (case k4 => k_is); (case a5 => k_is); (case l5 => k_is); (case c5 => k_is); (case k5 => k_is); (case a6 => k_is); (case l6 => k_is); (case c6 => k_is); (case k6 => k_is); (case a7 => k_is); (case l7 => k_is); (case c7 => k_is); (case k7 => k_is); (case a8 => k_is); (case l8 => k_is); (case c8 => k_is); (case k8 => k_is); (case a9 => k_is); (case l9 => k_is); (case c9 => k_is); (case k9 => k_is); (case a10 => k_is); (case l10 => k_is); (case c10 => k_is); (case k10 => k_is); (case a11 => k_is); (case l11 => k_is); (case c11 => k_is); (case k11 => k_is); (case a12 => k_is); (case l12 => k_is); (case c12 => k_is); (case k12 => k_is); (case a13 => k_is); (case l13 => k_is); (case c13 => k_is); (case k13 => k_is); (case a14 => k_is); (case l14 => k_is); (case c14 => k_is); (case k14 => k_is); (case a15 => k_is); (case l15 => k_is); (case c15 => k_is); (case k15 => k_is); (case a16 => k_is); (case l16 => k_is); (case c16 => k_is); (case k16 => k_is); (case a17 => k_is); (case l17 => k_is); (case c17 => k_is); (case k17 => k_is); (case a18 => k_is); (case l18 => k_is); (case c18 => k_is); (case k18 => k_is); (case a19 => k_is); (case l19 => k_is); (case c19 => k_is); (case k19 => k_is); (case a20 => k_is); (case l20 => k_is); (case c20 => k_is); (case k20 => k_is); (case a21 => k_is); (case l21 => k_is); (case c21 => k_is); (case k21 => k_is); (case z1 => k_is); (case z2 => k_is); (case z3 => k_is); (case z4 => k_is); (case z5 => k_is); (case z6 => k_is); (case z7 => k_is); (case z8 => k_is); (case z9 => k_is); (case z10 => k_is); (case z11 => k_is); (case z12 => k_is); (case z13 => k_is); (case z14 => k_is); (case z15 => k_is); (case z16 => k_is); (case y1 => k_is); (case aC_NoProperty => k_is); (case aC_BadWish => k_is); (case aC_NoVersion => k_is); (case aC_NoIndex => k_is); (case aC_NoPlace => k_is); (case aC_BadWord => k_is); (case aC_NoWords => k_is); (case aC_TooLong => k_is); (case aC_BadLetter => k_is); (case aC_TailError => k_is); (case ga_NoProperty => k_is); (case gg_NoProperty => k_is); (case eb_NoProperty => k_is); (case hd_NoProperty => k_is); (case kc_NoProperty => k_is); (case ty_NoProperty => k_is); (case xL_NoProperty => k_is); (case te_NoProperty => rfl); (case sa_NoProperty => k_is); (case tk_NoProperty => k_is); (case iC_NoProperty => k_is); (case tI_NoProperty => k_is); (case lI_NoProperty => k_is); (case cI_NoProperty => k_is); (case ga_BadWish => k_is); (case gg_BadWish => k_is); (case eb_BadWish => k_is); (case hd_BadWish => k_is); (case kc_BadWish => k_is); (case ty_BadWish => k_is); (case xL_BadWish => k_is); (case te_BadWish => rfl); (case sa_BadWish => k_is); (case tk_BadWish => k_is); (case iC_BadWish => k_is); (case tI_BadWish => k_is); (case lI_BadWish => k_is); (case cI_BadWish => k_is); (case ha_BadWish => k_is); (case hm_BadWish => k_is); (case hn_ => k_is); (case ht_ => k_is); (case sb_BadWish_NoVersion => first | rfl | k_is); (case sb_BadWish_BadWish => first | rfl | k_is); (case eb_NoVersion => k_is); (case hd_NoVersion => k_is); (case ty_NoVersion => k_is); (case ha_NoProperty => k_is); (case hm_NoProperty => k_is); (case sb_NoProperty_NoVersion => first | rfl | k_is); (case sb_NoProperty_NoProperty => first | rfl | k_is); (case sb_BadWish_NoIndex => first | rfl | k_is); (case eb_NoIndex => k_is); (case hd_NoIndex => k_is); (case ty_NoIndex => k_is); (case sb_NoProperty_NoIndex => first | rfl | k_is); (case sb_BadWish_NoPlace => first | rfl | k_is); (case eb_NoPlace => k_is); (case hd_NoPlace => k_is); (case ty_NoPlace => k_is); (case sb_NoProperty_NoPlace => first | rfl | k_is); (case sb_BadWish_BadWord => first | rfl | k_is); (case eb_BadWord => k_is); (case hd_BadWord => k_is); (case ty_BadWord => k_is); (case sb_NoProperty_BadWord => first | rfl | k_is); (case sb_NoProperty_BadWish => first | rfl | k_is); (case sb_BadWish_NoProperty => first | rfl | k_is); (case sb_BadWish_NoWords => first | rfl | k_is); (case eb_NoWords => k_is); (case hd_NoWords => k_is); (case ty_NoWords => k_is); (case sb_NoProperty_NoWords => first | rfl | k_is); (case sb_BadWish_TooLong => first | rfl | k_is); (case eb_TooLong => k_is); (case hd_TooLong => k_is); (case ty_TooLong => k_is); (case sb_NoProperty_TooLong => first | rfl | k_is); (case sb_BadWish_BadLetter => first | rfl | k_is); (case eb_BadLetter => k_is); (case hd_BadLetter => k_is); (case ty_BadLetter => k_is); (case sb_NoProperty_BadLetter => first | rfl | k_is); (case sb_BadWish_LookupError => first | rfl | k_is); (case sx_LookupError => k_is); (case sb_NoProperty_LookupError => first | rfl | k_is); (case sb_BadWish_ValueError => first | rfl | k_is); (case sx_ValueError => k_is); (case sb_BadWish_TailError => first | rfl | k_is); (case eb_TailError => k_is); (case hd_TailError => k_is); (case ty_TailError => k_is); (case sb_NoProperty_ValueError => first | rfl | k_is); (case sb_NoProperty_TailError => first | rfl | k_is); (case nf_NoProperty_name => k_is); (case nf_BadWish_value => k_is)
