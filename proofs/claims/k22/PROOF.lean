import PyProof.Rows.All
import Wide.All
import OpenK.AllK
import Wide.FinOn
import HandS.ForMost
import HandS.Walk
import HandS.Exc
import HandS.WordsExc
import HandS.TupAny
import HandS.ExcCtx
import HandS.HotCalls
import KE.KxText
import KE.KSortTupG
import HandS.Ends
import KE.GoesZip
import KE.GoesEnum
import KE.GoesMore
import KE.KDictZip
import PyProof.CollectWalk
import KE.KDictList
import HandS.AnyAll
import HandS.IsInst
import HandS.Star
import HandS.Conv
import HandS.Style
import HandS.Text
import HandS.StrMore
import HandS.Wide
import HandS.ListEq
import HandS.Flow
import HandS.RevTup
import KE.KRevSl
import HandS.ExcField
import HandS.ExcIs
import KE.KExcIs
import KE.KExcInit
import KE.KTryMore
import HandS.Small
import HandS.SetFor
import PyProof.NeKinds
import KE.DataMinMax
import PyProof.ListStr
import HandS.TupMul
import HandS.More
import HandS.Set
import PyProof.SetKind
import PyProof.SetRoads
import PyProof.Rows.SortShellAny
import HandS.SortInts
import HandS.Replace
import PyProof.StrLaws
import HandS.Codes
import PyProof.CollectStr
import PyProof.SliceStr2
import PyProof.Rows.StrStep
import PyProof.StrLawsIn
import KE.DataCmp
import HandS.NoneIn
import KE.KUnpackStar
import KE.KIndexOf
import HandS.GenYield
import HandS.GenList
import PyProof.ForAny
import PyProof.StrLawsRepr
import PyProof.FitsInt
import PySem.Challenge.RW_tailranks_k22_whole_fillings_are_all_wor
set_option Elab.async false
set_option linter.all false
set_option maxRecDepth 100000
set_option maxHeartbeats 1000000
namespace DL
open PySem L2

/-- data: texts are lists of code points; ob: the k-th anchored object of the ghost region -/
inductive D where
  | non | bl (b : Bool) | int (i : Int) | str (x : List Nat) | lst (xs : List D) | tup (xs : List D) | dic (kvs : List (Key × D)) | ob (k : Nat) | exn (cls : Str) (ns : List Str) (ds : List D) | tx (xs : List D) | cl (c : Str)
/-- the table of modules stands in the base -/
def SmB (base : Heap) : Prop := ∃ o, base.get? sysModules = some o
/-- a caught exception's own object is known to the object -/
def exU : HO := .ext fun _ => True

mutual
inductive Rp (K : PySem.W.Frag) (F : Hp) (R : List Addr) : V → D → Prop
  | non : Rp K F R .non .non
  | bl (b : Bool) : Rp K F R (.bl b) (.bl b)
  | int (i : Int) : Rp K F R (.int i) (.int i)
  | str (z : Str) (x : List Nat) : z.cps.toList = x → Rp K F R (.str z) (.str x)
  | lst {a : Addr} {vs : List V} {ds : List D} : F a = some (.lst vs) → RpA K F R vs ds → Rp K F R (.ref a) (.lst ds)
  | tup {a : Addr} {vs : List V} {ds : List D} : SqT K F a vs → RpA K F R vs ds → Rp K F R (.ref a) (.tup ds)
  | dic {a : Addr} {kvs : List (Key × V)} {kds : List (Key × D)} : F a = some (.dK kvs) → RpK K F R kvs kds → Rp K F R (.ref a) (.dic kds)
  | ob {a : Addr} {k : Nat} : R[k]? = some a → Rp K F R (.ref a) (.ob k)
  | exn0 {a C : Addr} {cls : Str} {oe : Obj} : PySem.W.nsIn K mainGlobals cls = some (some (.ref C)) → F a = some (.frz oe exU) → Zc (.ref C) none oe → (∃ fv, oe.data = .fields fv) → Rp K F R (.ref a) (.exn cls [] [])
  | exn {a C dd : Addr} {cls : Str} {oe : Obj} {ns : List Str} {vs : List V} {ds : List D} : PySem.W.nsIn K mainGlobals cls = some (some (.ref C)) → F a = some (.frz oe exU) → Zc (.ref C) (some dd) oe → (∃ fv, oe.data = .fields fv) →
      F dd = some (.xd (ns.zip vs)) → ns.length = vs.length → RpA K F R vs ds → Rp K F R (.ref a) (.exn cls ns ds)
  | tx {a : Addr} {vs : List V} {ds : List D} {o : Obj} : F a = some (.frz o (.tup vs)) → o.dict = none → o.cls = .type "tuple" → RpA K F R vs ds → Rp K F R (.ref a) (.tx ds)
  | cl {C : Addr} {c : Str} : PySem.W.nsIn K mainGlobals c = some (some (.ref C)) → Rp K F R (.ref C) (.cl c)
inductive RpA (K : PySem.W.Frag) (F : Hp) (R : List Addr) : List V → List D → Prop
  | nil : RpA K F R [] []
  | cons {v : V} {vs : List V} {d : D} {ds : List D} : Rp K F R v d → RpA K F R vs ds → RpA K F R (v :: vs) (d :: ds)
inductive RpK (K : PySem.W.Frag) (F : Hp) (R : List Addr) : List (Key × V) → List (Key × D) → Prop
  | nil : RpK K F R [] []
  | cons {k : Key} {v : V} {kvs : List (Key × V)} {d : D} {kds : List (Key × D)} : Rp K F R v d → RpK K F R kvs kds → RpK K F R ((k, v) :: kvs) ((k, d) :: kds)
end

theorem same_tup {K : PySem.W.Frag} {H H' : Hp} {a : Addr} {xs : List V} (e : Same H H') (h : SqT K H a xs) : SqT K H' a xs := by
  rcases h with (h | ⟨o, h⟩) | h
  · exact .inl (.inl (e _ _ h))
  · exact .inl (.inr ⟨o, e _ _ h⟩)
  · exact .inr h
section
variable {K : PySem.W.Frag} {F F' : Hp} {R R' : List Addr}
mutual
theorem Rp.mono (e : Same F F') (r : ∀ (k : Nat) a, R[k]? = some a → R'[k]? = some a) : ∀ {v : V} {d : D}, Rp K F R v d → Rp K F' R' v d
  | _, _, .non => .non
  | _, _, .bl b => .bl b
  | _, _, .int i => .int i
  | _, _, .str z x h => .str z x h
  | _, _, .lst h q => .lst (e _ _ h) (RpA.mono e r q)
  | _, _, .tup h q => .tup (same_tup e h) (RpA.mono e r q)
  | _, _, .dic h q => .dic (e _ _ h) (RpK.mono e r q)
  | _, _, .ob h => .ob (r _ _ h)
  | _, _, .exn0 h1 h2 h3 h4 => .exn0 h1 (e _ _ h2) h3 h4
  | _, _, .exn h1 h2 h3 h4 h5 h6 q => .exn h1 (e _ _ h2) h3 h4 (e _ _ h5) h6 (RpA.mono e r q)
  | _, _, .tx h1 h2 h3 q => .tx (e _ _ h1) h2 h3 (RpA.mono e r q)
  | _, _, .cl h => .cl h
theorem RpA.mono (e : Same F F') (r : ∀ (k : Nat) a, R[k]? = some a → R'[k]? = some a) : ∀ {v : List V} {d : List D}, RpA K F R v d → RpA K F' R' v d
  | _, _, .nil => .nil
  | _, _, .cons h q => .cons (Rp.mono e r h) (RpA.mono e r q)
theorem RpK.mono (e : Same F F') (r : ∀ (k : Nat) a, R[k]? = some a → R'[k]? = some a) : ∀ {v : List (Key × V)} {d : List (Key × D)}, RpK K F R v d → RpK K F' R' v d
  | _, _, .nil => .nil
  | _, _, .cons h q => .cons (Rp.mono e r h) (RpK.mono e r q)
end
theorem RpA.length : ∀ {vs : List V} {ds : List D}, RpA K F R vs ds → vs.length = ds.length
  | _, _, .nil => rfl
  | _, _, .cons _ t => by rw [List.length_cons, List.length_cons, t.length]
theorem RpA.get' : ∀ {vs : List V} {ds : List D} {i : Nat} {d : D}, RpA K F R vs ds → ds[i]? = some d → ∃ v, vs[i]? = some v ∧ Rp K F R v d
  | _, _, _, _, .nil, e => by simp at e
  | _, _, 0, _, .cons r _, e => by simp at e; subst e; exact ⟨_, rfl, r⟩
  | _, _, i + 1, d, .cons _ t, e => by
    obtain ⟨u, h1, h2⟩ := RpA.get' (i := i) (d := d) t (by simpa using e)
    exact ⟨u, by simpa using h1, h2⟩
theorem RpA.append : ∀ {vs ws : List V} {ds es : List D}, RpA K F R vs ds → RpA K F R ws es → RpA K F R (vs ++ ws) (ds ++ es)
  | _, _, _, _, .nil, s => s
  | _, _, _, _, .cons r t, s => .cons r (RpA.append t s)
theorem RpA.take : ∀ {vs : List V} {ds : List D} (n : Nat), RpA K F R vs ds → RpA K F R (vs.take n) (ds.take n)
  | _, _, 0, _ => .nil
  | _, _, _ + 1, .nil => .nil
  | _, _, n + 1, .cons r t => .cons r (RpA.take n t)
theorem RpA.drop : ∀ {vs : List V} {ds : List D} (n : Nat), RpA K F R vs ds → RpA K F R (vs.drop n) (ds.drop n)
  | _, _, 0, r => r
  | _, _, _ + 1, .nil => .nil
  | _, _, n + 1, .cons _ t => RpA.drop n t
theorem RpA.set {v : V} {d : D} (r : Rp K F R v d) : ∀ {vs : List V} {ds : List D} (i : Nat), RpA K F R vs ds → RpA K F R (vs.set i v) (ds.set i d)
  | _, _, _, .nil => .nil
  | _, _, 0, .cons _ t => .cons r t
  | _, _, i + 1, .cons q t => .cons q (RpA.set r i t)
theorem RpA.flat {vs : List V} {ds : List D} (r : RpA K F R vs ds) : ∀ n : Nat, RpA K F R (List.replicate n vs).flatten (List.replicate n ds).flatten
  | 0 => .nil
  | n + 1 => by
    rw [List.replicate_succ, List.replicate_succ, List.flatten_cons, List.flatten_cons]
    exact r.append (RpA.flat r n)
theorem RpA.strs : ∀ {vs : List V} {xs : List (List Nat)}, RpA K F R vs (xs.map D.str) → ∃ zs : List Str, vs = zs.map V.str ∧ zs.map (·.cps.toList) = xs
  | _, [], .nil => ⟨[], rfl, rfl⟩
  | _, x :: xs, .cons (.str z _ e) t => by
    obtain ⟨zs, h1, h2⟩ := RpA.strs (xs := xs) t
    exact ⟨z :: zs, by rw [h1]; rfl, by rw [List.map_cons, e, h2]⟩
end

structure Ghost where
  G : Type
  ok : PySem.W.Frag → G → List Addr → Hp → Hp → Prop
  keep : ∀ {K : PySem.W.Frag} {g : G} {R : List Addr} {F H F' H' : Hp}, ok K g R F H → Same F F' → (∀ a ∈ R, H' a = H a) → ok K g R F' H'
structure Wd (M : Ghost) where
  F : Hp
  H : Hp
  R : List Addr
  g : M.G
structure Wok {M : Ghost} (K : PySem.W.Frag) (W : Wd M) : Prop where
  sub : Same W.F W.H
  gh : M.ok K W.g W.R W.F W.H
  rf : ∀ a ∈ W.R, W.F a = none
  rh : ∀ a ∈ W.R, W.H a ≠ none
structure Go {M : Ghost} (W W' : Wd M) : Prop where
  sub : Same W.F W'.F
  keep : ∀ a o, W.H a = some o → a ∉ W.R → W'.H a = some o
  live : ∀ a, W.H a ≠ none → W'.H a ≠ none
  young : ∀ a, W'.F a ≠ none → W.F a ≠ none ∨ W.H a = none
  reg : ∃ new, W'.R = W.R ++ new ∧ ∀ a ∈ new, W.H a = none
section
variable {M : Ghost} {K : PySem.W.Frag} {W W1 W2 W' : Wd M}
theorem Go.refl (W : Wd M) : Go W W := ⟨Same.refl _, fun _ _ h _ => h, fun _ h => h, fun _ h => .inl h, [], by simp, by simp⟩
theorem Go.notR (g : Go W W1) {a : Addr} (h : W.H a ≠ none) (n : a ∉ W.R) : a ∉ W1.R := by
  obtain ⟨new, e, q⟩ := g.reg
  rw [e]
  intro z
  rcases List.mem_append.mp z with z | z
  · exact n z
  · exact h (q a z)
theorem Go.trans (a : Go W W1) (b : Go W1 W2) : Go W W2 := by
  refine ⟨a.sub.trans b.sub, fun c o h n => ?_, fun c h => b.live c (a.live c h), fun c h => ?_, ?_⟩
  · exact b.keep c o (a.keep c o h n) (a.notR (by rw [h]; simp) n)
  · rcases b.young c h with z | z
    · exact a.young c z
    · right
      cases q : W.H c with
      | none => rfl
      | some o => exact absurd z (a.live c (by rw [q]; simp))
  · obtain ⟨n1, e1, q1⟩ := a.reg
    obtain ⟨n2, e2, q2⟩ := b.reg
    refine ⟨n1 ++ n2, by rw [e2, e1, List.append_assoc], fun c hc => ?_⟩
    rcases List.mem_append.mp hc with z | z
    · exact q1 c z
    · cases q : W.H c with
      | none => rfl
      | some o => exact absurd (q2 c z) (a.live c (by rw [q]; simp))
theorem Go.ix (g : Go W W1) : ∀ (k : Nat) a, W.R[k]? = some a → W1.R[k]? = some a := by
  obtain ⟨new, e, _⟩ := g.reg
  intro k a h
  rw [e, List.getElem?_append_left (List.getElem?_eq_some_iff.mp h).1]
  exact h
theorem Rp.step {v : V} {d : D} (h : Rp K W.F W.R v d) (g : Go W W1) : Rp K W1.F W1.R v d := h.mono g.sub g.ix
theorem RpA.step {v : List V} {d : List D} (h : RpA K W.F W.R v d) (g : Go W W1) : RpA K W1.F W1.R v d := h.mono g.sub g.ix
theorem RpK.step {v : List (Key × V)} {d : List (Key × D)} (h : RpK K W.F W.R v d) (g : Go W W1) : RpK K W1.F W1.R v d := h.mono g.sub g.ix

/-- a new object that stands still -/
abbrev Wd.lay (W : Wd M) (p : Addr) (o : HO) : Wd M := { W with F := upd W.F p o, H := upd W.H p o }
/-- a new object that is not (yet) frozen -/
abbrev Wd.new (W : Wd M) (p : Addr) (o : HO) : Wd M := { W with H := upd W.H p o }
abbrev Wd.freeze (W : Wd M) (p : Addr) (o : HO) : Wd M := { W with F := upd W.F p o }
theorem same_new {H : Hp} {p : Addr} {o : HO} (h : H p = none) : Same H (upd H p o) := fun b x e => by
  rw [upd_ne (ne_of_none e h)]
  exact e
theorem Wok.noR (k : Wok K W) {p : Addr} (h : W.H p = none) : p ∉ W.R := fun z => k.rh p z h
theorem Wok.noF (k : Wok K W) {p : Addr} (h : W.H p = none) : W.F p = none := k.sub.free h
theorem Go.new (k : Wok K W) {p : Addr} {o : HO} (h : W.H p = none) : Go W (W.new p o) := by
  refine ⟨Same.refl _, fun a x e _ => same_new h a x e, fun a e => ?_, fun _ z => .inl z, [], by simp, by simp⟩
  show upd W.H p o a ≠ none
  cases q : W.H a with
  | none => exact absurd q e
  | some x => rw [same_new h a x q]; simp
theorem Wok.new (k : Wok K W) {p : Addr} {o : HO} (h : W.H p = none) : Wok K (W.new p o) := by
  have nr := k.noR h
  refine ⟨k.sub.trans (same_new h), M.keep k.gh (Same.refl _) fun a ha => upd_ne (fun z => nr (z ▸ ha)), k.rf, fun a ha => ?_⟩
  show upd W.H p o a ≠ none
  rw [upd_ne (show a ≠ p from fun z => nr (z ▸ ha))]
  exact k.rh a ha
theorem Go.lay (k : Wok K W) {p : Addr} {o : HO} (h : W.H p = none) : Go W (W.lay p o) := by
  have g := Go.new (o := o) k h
  refine ⟨same_new (k.noF h), g.keep, g.live, fun a z => ?_, [], by simp, by simp⟩
  by_cases e : a = p
  · subst e; exact .inr h
  · rw [show (W.lay p o).F a = W.F a from upd_ne e] at z
    exact .inl z
theorem Wok.lay (k : Wok K W) {p : Addr} {o : HO} (h : W.H p = none) : Wok K (W.lay p o) := by
  have nr := k.noR h
  have q := Wok.new (o := o) k h
  refine ⟨fun a x e => ?_, M.keep q.gh (same_new (k.noF h)) fun a ha => rfl, fun a ha => ?_, q.rh⟩
  · by_cases z : a = p
    · subst z
      rw [show (W.lay a o).F a = some o from upd_same] at e
      rw [show (W.lay a o).H a = some o from upd_same]
      exact e
    · rw [show (W.lay p o).F a = W.F a from upd_ne z] at e
      rw [show (W.lay p o).H a = W.H a from upd_ne z]
      exact k.sub _ _ e
  · show upd W.F p o a = none
    rw [upd_ne (show a ≠ p from fun z => nr (z ▸ ha))]
    exact k.rf a ha
/-- freezing a thing of one's own -/
theorem Wok.freeze (k : Wok K W) {p : Addr} {o : HO} (h : W.H p = some o) (hf : W.F p = none) (nr : p ∉ W.R) : Wok K (W.freeze p o) := by
  refine ⟨fun a x e => ?_, M.keep k.gh (same_new hf) fun a ha => rfl, fun a ha => ?_, k.rh⟩
  · by_cases z : a = p
    · subst z
      rw [show (W.freeze a o).F a = some o from upd_same] at e
      cases e
      exact h
    · rw [show (W.freeze p o).F a = W.F a from upd_ne z] at e
      exact k.sub _ _ e
  · show upd W.F p o a = none
    rw [upd_ne (show a ≠ p from fun z => nr (z ▸ ha))]
    exact k.rf a ha
theorem Go.freeze {W0 : Wd M} (g : Go W0 W) {p : Addr} {o : HO} (hf : W.F p = none) (h0 : W0.H p = none) : Go W0 (W.freeze p o) := by
  refine ⟨g.sub.trans (same_new hf), g.keep, g.live, fun a z => ?_, g.reg⟩
  by_cases e : a = p
  · subst e; exact .inr h0
  · rw [show (W.freeze p o).F a = W.F a from upd_ne e] at z
    exact g.young a z
/-- writing a thing of one's own -/
abbrev Wd.put (W : Wd M) (p : Addr) (o : HO) : Wd M := { W with H := upd W.H p o }
theorem Wok.put (k : Wok K W) {p : Addr} {o : HO} (hf : W.F p = none) (nr : p ∉ W.R) : Wok K (W.put p o) := by
  refine ⟨fun a x e => ?_, M.keep k.gh (Same.refl _) fun a ha => upd_ne (fun z => nr (z ▸ ha)), k.rf, fun a ha => ?_⟩
  · show upd W.H p o a = some x
    rw [upd_ne (show a ≠ p from fun z => by rw [z, hf] at e; cases e)]
    exact k.sub _ _ e
  · show upd W.H p o a ≠ none
    rw [upd_ne (show a ≠ p from fun z => nr (z ▸ ha))]
    exact k.rh a ha
theorem Go.put {W0 : Wd M} (g : Go W0 W) {p : Addr} {o : HO} (h0 : W0.H p = none) : Go W0 (W.put p o) := by
  refine ⟨g.sub, fun a x e n => ?_, fun a e => ?_, g.young, g.reg⟩
  · show upd W.H p o a = some x
    rw [upd_ne (ne_of_none e h0)]
    exact g.keep a x e n
  · show upd W.H p o a ≠ none
    by_cases z : a = p
    · subst z; rw [upd_same]; simp
    · rw [upd_ne z]; exact g.live a e
end

structure Gs {M : Ghost} (W W' : Wd M) : Prop where
  sub : Same W.F W'.F
  ix : ∀ (k : Nat) a, W.R[k]? = some a → W'.R[k]? = some a
section
variable {M : Ghost} {W W1 W2 : Wd M}
theorem Gs.refl (W : Wd M) : Gs W W := ⟨Same.refl _, fun _ _ h => h⟩
theorem Gs.trans (a : Gs W W1) (b : Gs W1 W2) : Gs W W2 := ⟨a.sub.trans b.sub, fun k c h => b.ix k c (a.ix k c h)⟩
theorem Go.s (g : Go W W1) : Gs W W1 := ⟨g.sub, g.ix⟩
theorem Rp.gs {K : PySem.W.Frag} {v : V} {d : D} (h : Rp K W.F W.R v d) (g : Gs W W1) : Rp K W1.F W1.R v d := h.mono g.sub g.ix
theorem RpA.gs {K : PySem.W.Frag} {v : List V} {d : List D} (h : RpA K W.F W.R v d) (g : Gs W W1) : RpA K W1.F W1.R v d := h.mono g.sub g.ix
end

inductive Sl where
  | no | im (d : D) | own (ds : List D) | odt (kds : List (Key × D))
/-- a list or a dict of one's own -/
def Sl.isOwn : Sl → Bool
  | .own _ => true
  | .odt _ => true
  | _ => false
abbrev DEnv := List Sl
/-- an exception of the text: its class by name, its fields -/
structure Exn where
  cls : Str
  ns : List Str
  ds : List D
structure Ct (M : Ghost) where
  X : Cx
  W0 : Wd M
  EX : Exn → DEnv → M.G → Prop
  B : Wd M
section
variable {M : Ghost}
def SlOk (C : Ct M) (W : Wd M) : Sl → Option V → Prop
  | .no, _ => True
  | .im d, o => ∃ v, o = some v ∧ Rp C.X.K W.F W.R v d
  | .own ds, o => ∃ p vs, o = some (.ref p) ∧ W.H p = some (.lst vs) ∧ W.F p = none ∧ p ∉ W.R ∧ C.W0.H p = none ∧ RpA C.X.K W.F W.R vs ds
  | .odt kds, o => ∃ p kvs, o = some (.ref p) ∧ W.H p = some (.dK kvs) ∧ W.F p = none ∧ p ∉ W.R ∧ C.W0.H p = none ∧ RpK C.X.K W.F W.R kvs kds
theorem SlOk.live {C : Ct M} {W : Wd M} {s : Sl} {o : Option V} (h : SlOk C W s o) (ow : s.isOwn = true) : ∃ p u, o = some (.ref p) ∧ W.H p = some u ∧ W.F p = none ∧ p ∉ W.R ∧ C.W0.H p = none := by
  cases s with
  | no => cases ow
  | im d => cases ow
  | own ds =>
    obtain ⟨p, vs, e, h1, h2, h3, h4, r⟩ := h
    exact ⟨p, _, e, h1, h2, h3, h4⟩
  | odt ds =>
    obtain ⟨p, vs, e, h1, h2, h3, h4, r⟩ := h
    exact ⟨p, _, e, h1, h2, h3, h4⟩
structure Sat (C : Ct M) (σ : St) (ρ : DEnv) (W : Wd M) : Prop where
  ok : Wok C.X.K W
  go : Go C.W0 W
  len : σ.length = ρ.length
  sl : ∀ (i : Nat) s, ρ[i]? = some s → ∃ o, σ[i]? = some o ∧ SlOk C W s o
  dis : ∀ (i j : Nat) s t p, ρ[i]? = some s → ρ[j]? = some t → s.isOwn = true → t.isOwn = true → σ[i]? = some (some (.ref p)) → σ[j]? = some (some (.ref p)) → i = j
  gs : Gs C.B W
variable {C : Ct M} {W W1 W' : Wd M} {σ : St} {ρ : DEnv}
theorem SlOk.step {s : Sl} {o : Option V} (h : SlOk C W s o) (g : Go W W1) : SlOk C W1 s o := by
  cases s with
  | no => trivial
  | im d =>
    obtain ⟨v, e, r⟩ := h
    exact ⟨v, e, r.step g⟩
  | own ds =>
    obtain ⟨p, vs, e, h1, h2, h3, h4, r⟩ := h
    refine ⟨p, vs, e, g.keep _ _ h1 h3, ?_, g.notR (by rw [h1]; simp) h3, h4, r.step g⟩
    cases q : W1.F p with
    | none => rfl
    | some o =>
      rcases g.young p (by rw [q]; simp) with z | z
      · exact absurd h2 z
      · rw [h1] at z; cases z
  | odt ds =>
    obtain ⟨p, vs, e, h1, h2, h3, h4, r⟩ := h
    refine ⟨p, vs, e, g.keep _ _ h1 h3, ?_, g.notR (by rw [h1]; simp) h3, h4, r.step g⟩
    cases q : W1.F p with
    | none => rfl
    | some o =>
      rcases g.young p (by rw [q]; simp) with z | z
      · exact absurd h2 z
      · rw [h1] at z; cases z
theorem Sat.step (S : Sat C σ ρ W) (g : Go W W1) (k : Wok C.X.K W1) : Sat C σ ρ W1 :=
  ⟨k, S.go.trans g, S.len, fun i s e => let ⟨o, h1, h2⟩ := S.sl i s e; ⟨o, h1, h2.step g⟩, S.dis, S.gs.trans g.s⟩

abbrev EW (M : Ghost) := DEnv → M.G → (D → M.G → Prop) → Prop
def tOf (X : Cx) (e : Expr) : TE := fun σ H Q => ∀ (pins : List (Addr × Obj)) (s : Shared), Inv X pins σ H s → wpAny (model X.prog X.w) X.A (eval e X.env) (EP X pins σ Q) X.xe s
theorem pe_tOf {X : Cx} {e : Expr} : PE X e (tOf X e) := ⟨fun pins s _ _ _ I h => h pins s I⟩
theorem tOf_of {X : Cx} {e : Expr} {t : TE} (h : PE X e t) {σ : St} {H : Hp} {Q : VK} (q : t σ H Q) : tOf X e σ H Q := fun pins s I => h.run pins s σ H Q I q
/-- a value that may be looked at now: it stands still, or it is a list of one's own -/
def RdP (K : PySem.W.Frag) (W : Wd M) (v : V) (d : D) : Prop := Rp K W.F W.R v d ∨ ∃ p vs ds, v = .ref p ∧ d = .lst ds ∧ W.H p = some (.lst vs) ∧ p ∉ W.R ∧ RpA K W.F W.R vs ds
theorem RdP.step {K : PySem.W.Frag} {v : V} {d : D} (h : RdP K W v d) (g : Go W W1) : RdP K W1 v d := by
  rcases h with h | ⟨p, vs, ds, e1, e2, h, n, r⟩
  · exact .inl (h.step g)
  · exact .inr ⟨p, vs, ds, e1, e2, g.keep _ _ h n, g.notR (by rw [h]; simp) n, r.step g⟩
/-- the value of an expression that stands still -/
structure DE (C : Ct M) (e : Expr) (w : EW M) : Prop where
  run : ∀ (σ : St) (ρ : DEnv) (W : Wd M) (Q : VK) (q : D → M.G → Prop), Sat C σ ρ W → (∀ v d W', Go W W' → Wok C.X.K W' → Rp C.X.K W'.F W'.R v d → q d W'.g → Q v W'.H) → w ρ W.g q → tOf C.X e σ W.H Q
/-- one that is looked at -/
structure DP (C : Ct M) (e : Expr) (w : EW M) : Prop where
  run : ∀ (σ : St) (ρ : DEnv) (W : Wd M) (Q : VK) (q : D → M.G → Prop), Sat C σ ρ W → (∀ v d W', Go W W' → Wok C.X.K W' → RdP C.X.K W' v d → q d W'.g → Q v W'.H) → w ρ W.g q → tOf C.X e σ W.H Q
/-- what a slot may take -/
def Fresh (K : PySem.W.Frag) (W W' : Wd M) : V → Sl → Prop
  | _, .no => True
  | v, .im d => Rp K W'.F W'.R v d
  | v, .own ds => ∃ p vs, v = .ref p ∧ W'.H p = some (.lst vs) ∧ W'.F p = none ∧ p ∉ W'.R ∧ W.H p = none ∧ RpA K W'.F W'.R vs ds
  | v, .odt kds => ∃ p kvs, v = .ref p ∧ W'.H p = some (.dK kvs) ∧ W'.F p = none ∧ p ∉ W'.R ∧ W.H p = none ∧ RpK K W'.F W'.R kvs kds
theorem Fresh.live {K : PySem.W.Frag} {W W' : Wd M} {v : V} {s : Sl} (f : Fresh K W W' v s) (ow : s.isOwn = true) : ∃ p u, v = .ref p ∧ W'.H p = some u ∧ W'.F p = none ∧ p ∉ W'.R ∧ W.H p = none := by
  cases s with
  | no => cases ow
  | im d => cases ow
  | own ds =>
    obtain ⟨p, vs, e, h1, h2, h3, h4, r⟩ := f
    exact ⟨p, _, e, h1, h2, h3, h4⟩
  | odt ds =>
    obtain ⟨p, vs, e, h1, h2, h3, h4, r⟩ := f
    exact ⟨p, _, e, h1, h2, h3, h4⟩
abbrev VW (M : Ghost) := DEnv → M.G → (Sl → M.G → Prop) → Prop
structure DV (C : Ct M) (e : Expr) (w : VW M) : Prop where
  run : ∀ (σ : St) (ρ : DEnv) (W : Wd M) (Q : VK) (q : Sl → M.G → Prop), Sat C σ ρ W → (∀ v s W', Go W W' → Wok C.X.K W' → Fresh C.X.K W W' v s → q s W'.g → Q v W'.H) → w ρ W.g q → tOf C.X e σ W.H Q
/-- a new list -/
abbrev NW (M : Ghost) := DEnv → M.G → (List D → M.G → Prop) → Prop
structure DN (C : Ct M) (e : Expr) (w : NW M) : Prop where
  run : ∀ (σ : St) (ρ : DEnv) (W : Wd M) (Q : VK) (q : List D → M.G → Prop), Sat C σ ρ W → (∀ p vs ds W', Go W W' → Wok C.X.K W' → W'.H p = some (.lst vs) → W'.F p = none → p ∉ W'.R → W.H p = none → RpA C.X.K W'.F W'.R vs ds → q ds W'.g → Q (.ref p) W'.H) → w ρ W.g q → tOf C.X e σ W.H Q
variable {e : Expr} {w : EW M}
@[simp] def wL (w : NW M) : EW M := fun ρ g q => w ρ g fun ds g' => q (.lst ds) g'
@[simp] def wI (w : EW M) : VW M := fun ρ g q => w ρ g fun d g' => q (.im d) g'
@[simp] def wO (w : NW M) : VW M := fun ρ g q => w ρ g fun ds g' => q (.own ds) g'
theorem DE.p (h : DE C e w) : DP C e w := ⟨fun σ ρ W Q q S hQ hw => h.run σ ρ W Q q S (fun v d W' g k r => hQ v d W' g k (.inl r)) hw⟩
theorem DE.v (h : DE C e w) : DV C e (wI w) := ⟨fun σ ρ W Q q S hQ hw => h.run σ ρ W Q _ S (fun v d W' g k r hq => hQ v (.im d) W' g k r hq) hw⟩
theorem DN.v {w : NW M} (h : DN C e w) : DV C e (wO w) := ⟨fun σ ρ W Q q S hQ hw => h.run σ ρ W Q _ S (fun p vs ds W' g k h1 h2 h3 h4 r hq => hQ (.ref p) (.own ds) W' g k ⟨p, vs, rfl, h1, h2, h3, h4, r⟩ hq) hw⟩
theorem DN.p {w : NW M} (h : DN C e w) : DP C e (wL w) := ⟨fun σ ρ W Q q S hQ hw => h.run σ ρ W Q _ S (fun p vs ds W' g k h1 h2 h3 h4 r hq => hQ (.ref p) (.lst ds) W' g k (.inr ⟨p, vs, ds, rfl, rfl, h1, h3, r⟩) hq) hw⟩
theorem DN.fr {w : NW M} (h : DN C e w) : DE C e (wL w) := ⟨fun σ ρ W Q q S hQ hw => h.run σ ρ W Q _ S (fun p vs ds W' g k h1 h2 h3 h4 r hq =>
  hQ (.ref p) (.lst ds) (W'.freeze p (.lst vs)) (Go.freeze g h2 h4) (k.freeze h1 h2 h3) (.lst upd_same (r.mono (same_new h2) fun _ _ z => z)) hq) hw⟩

@[simp] def wVar (i : Nat) : EW M := fun ρ g q => ∃ d, ρ[i]? = some (.im d) ∧ q d g
@[simp] def wPk (i : Nat) : EW M := fun ρ g q => ∃ ds, ρ[i]? = some (.own ds) ∧ q (.lst ds) g
@[simp] def wC (d : D) : EW M := fun _ g q => q d g
theorem de_var {i : Nat} {x : Str} {pos : Pos} (h : PE C.X (.Name x pos) (tVar i)) : DE C (.Name x pos) (wVar i) := ⟨fun σ ρ W Q q S hQ hw => by
  obtain ⟨d, e, hq⟩ := hw
  obtain ⟨o, h1, v, h2, r⟩ := S.sl i _ e
  subst h2
  exact tOf_of h ⟨v, h1, hQ v d W (Go.refl W) S.ok r hq⟩⟩
theorem dp_own {i : Nat} {x : Str} {pos : Pos} (h : PE C.X (.Name x pos) (tVar i)) : DP C (.Name x pos) (wPk i) := ⟨fun σ ρ W Q q S hQ hw => by
  obtain ⟨ds, e, hq⟩ := hw
  obtain ⟨o, h1, p, vs, h2, h3, h4, h5, h6, r⟩ := S.sl i _ e
  subst h2
  exact tOf_of h ⟨.ref p, h1, hQ _ _ W (Go.refl W) S.ok (.inr ⟨p, vs, ds, rfl, rfl, h3, h5, r⟩) hq⟩⟩
theorem de_c {e : Expr} {v : V} {d : D} (h : PE C.X e (tC v)) (r : ∀ F R, Rp C.X.K F R v d) : DE C e (wC d) := ⟨fun σ ρ W Q q S hQ hw => tOf_of h (hQ v d W (Go.refl W) S.ok (r _ _) hw)⟩
theorem de_int {i : Int} {j : Nat} {pos : Pos} : DE C (.Constant (.int i) j pos) (wC (.int i)) := de_c pe_int fun _ _ => .int i
theorem de_bl {b : Bool} {j : Nat} {pos : Pos} : DE C (.Constant (.bool b) j pos) (wC (.bl b)) := de_c pe_bl fun _ _ => .bl b
theorem de_str {x : Str} {j : Nat} {pos : Pos} (y : List Nat) (h : x.cps.toList = y := by decide) : DE C (.Constant (.str x) j pos) (wC (.str y)) := de_c pe_str fun _ _ => .str x y h

/-- an operation on two values, by data -/
structure OpD (C : Ct M) (f : Value → Value → Sem Value) (r : D → D → (D → Prop) → Prop) : Prop where
  run : ∃ rr, OpR C.X f rr ∧ ∀ (W : Wd M) (x y : V) (d e : D) (Q : VK) (q : D → Prop), Wok C.X.K W → RdP C.X.K W x d → RdP C.X.K W y e →
    (∀ v d' W', Go W W' → Wok C.X.K W' → W'.g = W.g → Rp C.X.K W'.F W'.R v d' → q d' → Q v W'.H) → r d e q → rr x y W.H Q
/-- .. that makes a new list -/
structure OpN (C : Ct M) (f : Value → Value → Sem Value) (r : D → D → (List D → Prop) → Prop) : Prop where
  run : ∃ rr, OpR C.X f rr ∧ ∀ (W : Wd M) (x y : V) (d e : D) (Q : VK) (q : List D → Prop), Wok C.X.K W → RdP C.X.K W x d → RdP C.X.K W y e →
    (∀ p vs ds W', Go W W' → Wok C.X.K W' → W'.g = W.g → W'.H p = some (.lst vs) → W'.F p = none → p ∉ W'.R → W.H p = none → RpA C.X.K W'.F W'.R vs ds → q ds → Q (.ref p) W'.H) → r d e q → rr x y W.H Q
@[simp] def wBin (r : D → D → (D → Prop) → Prop) (wa wb : EW M) : EW M := fun ρ g q => wa ρ g fun x g1 => wb ρ g1 fun y g2 => r x y fun d => q d g2
@[simp] def wBinN (r : D → D → (List D → Prop) → Prop) (wa wb : EW M) : NW M := fun ρ g q => wa ρ g fun x g1 => wb ρ g1 fun y g2 => r x y fun d => q d g2
variable {a b : Expr} {wa wb : EW M} {pos : Pos} {r : D → D → (D → Prop) → Prop} {rn : D → D → (List D → Prop) → Prop}
theorem two_run {f : Value → Value → Sem Value} {rr : R2} (ha : DP C a wa) (hb : DP C b wb) {Q : VK} {q : D → D → M.G → Prop} (S : Sat C σ ρ W)
    (h : ∀ W1 x y d e, Go W W1 → Wok C.X.K W1 → RdP C.X.K W1 x d → RdP C.X.K W1 y e → q d e W1.g → rr x y W1.H Q) (hw : wa ρ W.g fun x g1 => wb ρ g1 fun y g2 => q x y g2) :
    tOp rr (tOf C.X a) (tOf C.X b) σ W.H Q :=
  ha.run σ ρ W _ _ S (fun v d W1 g1 k1 r1 q1 => hb.run σ ρ W1 _ _ (S.step g1 k1) (fun u e W2 g2 k2 r2 q2 => h W2 v u d e (g1.trans g2) k2 (r1.step g2) r2 q2) q1) hw
theorem de_op {op : Operator} (ho : OpD C (binaryOp op) r) (ha : DP C a wa) (hb : DP C b wb) : DE C (.BinOp a op b pos) (wBin r wa wb) := ⟨fun σ ρ W Q q S hQ hw => by
  obtain ⟨rr, hop, h⟩ := ho.run
  exact tOf_of (pe_op hop pe_tOf pe_tOf) (two_run (f := binaryOp op) ha hb S (fun W1 x y d e g k r1 r2 q1 => h W1 x y d e Q _ k r1 r2 (fun v d' W' g' k' eg r' q' => hQ v d' W' (g.trans g') k' r' (eg ▸ q')) q1) hw)⟩
theorem dn_op {op : Operator} (ho : OpN C (binaryOp op) rn) (ha : DP C a wa) (hb : DP C b wb) : DN C (.BinOp a op b pos) (wBinN rn wa wb) := ⟨fun σ ρ W Q q S hQ hw => by
  obtain ⟨rr, hop, h⟩ := ho.run
  refine tOf_of (pe_op hop pe_tOf pe_tOf) (two_run (f := binaryOp op) ha hb S (fun W1 x y d e g k r1 r2 q1 => h W1 x y d e Q _ k r1 r2 (fun p vs ds W' g' k' eg h1 h2 h3 h4 r' q' => hQ p vs ds W' (g.trans g') k' h1 h2 h3 ?_ r' (eg ▸ q')) q1) hw)
  cases z : W.H p with
  | none => rfl
  | some o => exact absurd h4 (g.live p (by rw [z]; simp))⟩
theorem de_cmp {op : CmpOp} (ho : OpD C (compareOp op) r) (ha : DP C a wa) (hb : DP C b wb) (hm : behindInMarks op b = false) : DE C (.Compare a [op] [b] pos) (wBin r wa wb) := ⟨fun σ ρ W Q q S hQ hw => by
  obtain ⟨rr, hop, h⟩ := ho.run
  exact tOf_of (pe_cmpR hop pe_tOf pe_tOf hm) (two_run (f := compareOp op) ha hb S (fun W1 x y d e g k r1 r2 q1 => h W1 x y d e Q _ k r1 r2 (fun v d' W' g' k' eg r' q' => hQ v d' W' (g.trans g') k' r' (eg ▸ q')) q1) hw)⟩

abbrev TW (M : Ghost) := DEnv → M.G → (Bool → M.G → Prop) → Prop
def ttOf (X : Cx) (e : Expr) : TT := fun σ H Q => ∀ (pins : List (Addr × Obj)) (s : Shared), Inv X pins σ H s → wpAny (model X.prog X.w) X.A (isTrue e X.env (eval e X.env)) (TP X pins σ Q) X.xe s
theorem pt_tOf {X : Cx} {e : Expr} : PT X e (ttOf X e) := ⟨fun pins s _ _ _ I h => h pins s I⟩
theorem ttOf_of {X : Cx} {e : Expr} {t : TT} (h : PT X e t) {σ : St} {H : Hp} {Q : Bool → Hp → Prop} (q : t σ H Q) : ttOf X e σ H Q := fun pins s I => h.run pins s σ H Q I q
structure DT (C : Ct M) (e : Expr) (w : TW M) : Prop where
  run : ∀ (σ : St) (ρ : DEnv) (W : Wd M) (Q : Bool → Hp → Prop) (q : Bool → M.G → Prop), Sat C σ ρ W → (∀ b W', Go W W' → Wok C.X.K W' → q b W'.g → Q b W'.H) → w ρ W.g q → ttOf C.X e σ W.H Q
def twOf (X : Cx) (e : Expr) : TT := fun σ H Q => ∀ (whole : Sem Value) (pins : List (Addr × Obj)) (s : Shared), Inv X pins σ H s → wpAny (model X.prog X.w) X.A (isTrue e X.env whole) (TP X pins σ Q) X.xe s
structure DW (C : Ct M) (e : Expr) (w : TW M) : Prop where
  run : ∀ (σ : St) (ρ : DEnv) (W : Wd M) (Q : Bool → Hp → Prop) (q : Bool → M.G → Prop), Sat C σ ρ W → (∀ b W', Go W W' → Wok C.X.K W' → q b W'.g → Q b W'.H) → w ρ W.g q → twOf C.X e σ W.H Q
/-- the truth of a datum that is a bool -/
def isB (d : D) (q : Bool → Prop) : Prop := match d with
  | .bl b => q b
  | _ => False
@[simp] def wB (w : EW M) : TW M := fun ρ g q => w ρ g fun d g' => isB d fun b => q b g'
theorem isB_elim {d : D} {q : Bool → Prop} (h : isB d q) : ∃ b, d = .bl b ∧ q b := by
  cases d <;> first | exact h.elim | exact ⟨_, rfl, h⟩
theorem Rp.bl_inv {K : PySem.W.Frag} {F : Hp} {R : List Addr} {v : V} {b : Bool} (r : Rp K F R v (.bl b)) : v = .bl b := by cases r; rfl
theorem RdP.bl_inv {K : PySem.W.Frag} {v : V} {b : Bool} (r : RdP K W v (.bl b)) : v = .bl b := by
  rcases r with r | ⟨_, _, _, _, e, _⟩
  · exact r.bl_inv
  · cases e
theorem RdP.int_inv {K : PySem.W.Frag} {v : V} {b : Int} (r : RdP K W v (.int b)) : v = .int b := by
  rcases r with r | ⟨_, _, _, _, e, _⟩
  · cases r; rfl
  · cases e
theorem RdP.str_inv {K : PySem.W.Frag} {v : V} {x : List Nat} (r : RdP K W v (.str x)) : ∃ z : Str, v = .str z ∧ z.cps.toList = x := by
  rcases r with r | ⟨_, _, _, _, e, _⟩
  · cases r with
    | str z _ h => exact ⟨z, rfl, h⟩
  · cases e
theorem RdP.lst_inv {K : PySem.W.Frag} {v : V} {ds : List D} (k : Wok K W) (r : RdP K W v (.lst ds)) : ∃ p vs, v = .ref p ∧ W.H p = some (.lst vs) ∧ p ∉ W.R ∧ RpA K W.F W.R vs ds := by
  rcases r with r | ⟨p, vs, es, e1, e2, h, n, r⟩
  · cases r with
    | lst h q => exact ⟨_, _, rfl, k.sub _ _ h, (fun z => by rw [k.rf _ z] at h; cases h), q⟩
  · cases e2
    exact ⟨p, vs, e1, h, n, r⟩
theorem RdP.tup_inv {K : PySem.W.Frag} {v : V} {ds : List D} (r : RdP K W v (.tup ds)) : ∃ p vs, v = .ref p ∧ SqT K W.F p vs ∧ RpA K W.F W.R vs ds := by
  rcases r with r | ⟨_, _, _, _, e, _⟩
  · cases r with
    | tup h q => exact ⟨_, _, rfl, h, q⟩
  · cases e
theorem dt_cmp {op : CmpOp} (ho : OpD C (compareOp op) r) (ha : DP C a wa) (hb : DP C b wb) (hm : behindInMarks op b = false) : DT C (.Compare a [op] [b] pos) (wB (wBin r wa wb)) := ⟨fun σ ρ W Q q S hQ hw => by
  obtain ⟨rr, hop, h⟩ := ho.run
  exact ttOf_of (pt_cmpR hop pe_tOf pe_tOf hm) (two_run (f := compareOp op) ha hb S (fun W1 x y d e g k r1 r2 q1 => h W1 x y d e _ _ k r1 r2 (fun v d' W' g' k' eg r' q' => by
    obtain ⟨c, rfl, q2⟩ := isB_elim q'
    exact ⟨c, r'.bl_inv, hQ c W' (g.trans g') k' (eg ▸ q2)⟩) q1) hw)⟩
variable {wt wu : TW M} {rest : List Expr}
theorem DW.t (h : DW C e wt) : DT C e wt := ⟨fun σ ρ W Q q S hQ hw pins s I => h.run σ ρ W Q q S hQ hw _ pins s I⟩
end
end DL
set_option Elab.async false
set_option linter.all false
set_option maxRecDepth 100000
set_option maxHeartbeats 1000000
namespace DL
open PySem L2

section
variable {M : Ghost} {C : Ct M} {W W1 W2 W' : Wd M} {σ : L2.St} {ρ : DEnv}
structure K3 (M : Ghost) where
  nx : DEnv → M.G → Prop
  rt : D → M.G → Prop
  bk : DEnv → M.G → Prop
  ct : DEnv → M.G → Prop
abbrev SW (M : Ghost) := K3 M → DEnv → M.G → Prop
/-- what is wanted by data is what is wanted by the heap -/
structure Lf (C : Ct M) (W : Wd M) (k : K3 M) (E : Ends) : Prop where
  nx : ∀ σ' ρ' W', Gs W W' → Sat C σ' ρ' W' → k.nx ρ' W'.g → E.nx σ' W'.H
  rt : ∀ v d W', Go C.W0 W' → Wok C.X.K W' → Rp C.X.K W'.F W'.R v d → k.rt d W'.g → E.rt v W'.H
  bk : ∀ σ' ρ' W', Gs W W' → Sat C σ' ρ' W' → k.bk ρ' W'.g → E.bk σ' W'.H
  ct : ∀ σ' ρ' W', Gs W W' → Sat C σ' ρ' W' → k.ct ρ' W'.g → E.ct σ' W'.H
theorem Lf.step {k : K3 M} {E : Ends} (l : Lf C W k E) (g : Gs W W1) : Lf C W1 k E :=
  ⟨fun σ' ρ' W' g' => l.nx σ' ρ' W' (g.trans g'), l.rt, fun σ' ρ' W' g' => l.bk σ' ρ' W' (g.trans g'), fun σ' ρ' W' g' => l.ct σ' ρ' W' (g.trans g')⟩
def tsOf (X : Cx) (st : Stmt) : TS := fun D σ H => ∀ (pins : List (Addr × Obj)) (s : Shared), Inv X pins σ H s → wpAny (model X.prog X.w) X.A (exec st X.env) (SP X pins D) X.xe s
theorem ps_tOf {X : Cx} {st : Stmt} : PS X st (tsOf X st) := ⟨fun pins s _ _ _ I h => h pins s I⟩
theorem tsOf_of {X : Cx} {st : Stmt} {t : TS} (h : PS X st t) {E : Ends} {H : Hp} (q : t E σ H) : tsOf X st E σ H := fun pins s I => h.run pins s σ H E I q
def tssOf (X : Cx) (st : List Stmt) : TS := fun D σ H => ∀ (pins : List (Addr × Obj)) (s : Shared), Inv X pins σ H s → wpAny (model X.prog X.w) X.A (execs st X.env) (SP X pins D) X.xe s
theorem pss_tOf {X : Cx} {st : List Stmt} : PSs X st (tssOf X st) := ⟨fun pins s _ _ _ I h => h pins s I⟩
theorem tssOf_of {X : Cx} {st : List Stmt} {t : TS} (h : PSs X st t) {E : Ends} {H : Hp} (q : t E σ H) : tssOf X st E σ H := fun pins s I => h.run pins s σ H E I q
structure DS (C : Ct M) (st : Stmt) (w : SW M) : Prop where
  run : ∀ (σ : L2.St) (ρ : DEnv) (W : Wd M) (k : K3 M) (E : Ends), Sat C σ ρ W → Lf C W k E → w k ρ W.g → tsOf C.X st E σ W.H
structure DSs (C : Ct M) (st : List Stmt) (w : SW M) : Prop where
  run : ∀ (σ : L2.St) (ρ : DEnv) (W : Wd M) (k : K3 M) (E : Ends), Sat C σ ρ W → Lf C W k E → w k ρ W.g → tssOf C.X st E σ W.H
variable {st : Stmt} {sts : List Stmt} {w u : SW M} {e : Expr} {we : EW M} {pos : Pos}
@[simp] def wNext : SW M := fun k ρ g => k.nx ρ g
@[simp] def wSeq (w u : SW M) : SW M := fun k ρ g => w { k with nx := u k } ρ g
theorem dss_nil : DSs C [] wNext := ⟨fun σ ρ W k E S l h => tssOf_of pss_nil (l.nx σ ρ W (Gs.refl W) S h)⟩
theorem dss_cons (h1 : DS C st w) (h2 : DSs C sts u) : DSs C (st :: sts) (wSeq w u) := ⟨fun σ ρ W k E S l h =>
  tssOf_of (pss_cons ps_tOf pss_tOf) (h1.run σ ρ W { k with nx := u k } _ S ⟨fun σ' ρ' W' g S' q => h2.run σ' ρ' W' k E S' (l.step g) q, l.rt, l.bk, l.ct⟩ h)⟩
theorem dss_one (h1 : DS C st w) : DSs C [st] w := ⟨fun σ ρ W k E S l h => tssOf_of (pss_one ps_tOf) (h1.run σ ρ W _ _ S l h)⟩
@[simp] def wRet (w : EW M) : SW M := fun k ρ g => w ρ g k.rt
theorem ds_ret (he : DE C e we) : DS C (.Return (some e) pos) (wRet we) := ⟨fun σ ρ W k E S l h =>
  tsOf_of (ps_ret pe_tOf) (he.run σ ρ W _ _ S (fun v d W' g ok r q => l.rt v d W' (S.go.trans g) ok r q) h)⟩
/-- return of a list of one's own: it is frozen -/
@[simp] def wRetO (i : Nat) : SW M := fun k ρ g => ∃ ds, ρ[i]? = some (.own ds) ∧ k.rt (.lst ds) g
theorem ds_retO {i : Nat} {x : Str} {pos' : Pos} (h : PE C.X (.Name x pos') (tVar i)) : DS C (.Return (some (.Name x pos')) pos) (wRetO i) := ⟨fun σ ρ W k E S l hw => by
  obtain ⟨ds, e, hq⟩ := hw
  obtain ⟨o, h1, p, vs, h2, h3, h4, h5, h6, r⟩ := S.sl i _ e
  subst h2
  exact tsOf_of (ps_ret h) ⟨.ref p, h1, l.rt _ _ (W.freeze p (.lst vs)) (Go.freeze S.go h4 h6) (S.ok.freeze h3 h4 h5) (.lst upd_same (r.mono (same_new h4) fun _ _ z => z)) hq⟩⟩
@[simp] def wIfS (c : TW M) (w u : SW M) : SW M := fun k ρ g => c ρ g fun b g' => if b = true then w k ρ g' else u k ρ g'
theorem ds_if {c : Expr} {a b : List Stmt} {wc : TW M} (hc : DT C c wc) (ha : DSs C a w) (hb : DSs C b u) : DS C (.If c a b pos) (wIfS wc w u) := ⟨fun σ ρ W k E S l h =>
  tsOf_of (ps_if pt_tOf pss_tOf pss_tOf) (hc.run σ ρ W _ _ S (fun b W' g ok q => by
    cases b with
    | true => exact iteT (ha.run σ ρ W' k E (S.step g ok) (l.step g.s) q)
    | false => exact iteF (hb.run σ ρ W' k E (S.step g ok) (l.step g.s) q)) h)⟩

theorem slOk_fresh (S : Sat C σ ρ W) (g : Go W W') {v : V} {s : Sl} (f : Fresh C.X.K W W' v s) : SlOk C W' s (some v) := by
  have old : ∀ p, W.H p = none → C.W0.H p = none := fun p h4 => by
    cases q : C.W0.H p with
    | none => rfl
    | some o => exact absurd h4 (S.go.live p (by rw [q]; simp))
  cases s with
  | no => trivial
  | im d => exact ⟨v, rfl, f⟩
  | own ds =>
    obtain ⟨p, vs, e, h1, h2, h3, h4, r⟩ := f
    exact ⟨p, vs, by rw [e], h1, h2, h3, old p h4, r⟩
  | odt ds =>
    obtain ⟨p, vs, e, h1, h2, h3, h4, r⟩ := f
    exact ⟨p, vs, by rw [e], h1, h2, h3, old p h4, r⟩
theorem own_live (S : Sat C σ ρ W) {m : Nat} {t : Sl} {p : Addr} (ow : t.isOwn = true) (e1 : ρ[m]? = some t) (e2 : σ[m]? = some (some (.ref p))) : W.H p ≠ none := by
  obtain ⟨o, h1, h2⟩ := S.sl m _ e1
  obtain ⟨q, u, h3, h4, _⟩ := h2.live ow
  rw [e2] at h1
  cases h1
  cases h3
  rw [h4]
  simp
/-- a value put into a slot that stands apart from the others -/
theorem Sat.puts (S : Sat C σ ρ W) {v : V} {s : Sl} (f : SlOk C W s (some v)) (i : Nat) (ap : ∀ p, s.isOwn = true → v = .ref p → ∀ (m : Nat) t, t.isOwn = true → m ≠ i → ρ[m]? = some t → σ[m]? ≠ some (some (.ref p))) :
    Sat C (σ.set i (some v)) (ρ.set i s) W := by
  refine ⟨S.ok, S.go, by rw [List.length_set, List.length_set, S.len], fun j t e => ?_, fun j l d1 d2 q e1 e2 w1 w2 e3 e4 => ?_, S.gs⟩
  · by_cases hij : i = j
    · subst hij
      have hlt : i < ρ.length := by
        have := (List.getElem?_eq_some_iff.mp e).1
        rwa [List.length_set] at this
      rw [List.getElem?_set_self hlt] at e
      cases e
      exact ⟨some v, List.getElem?_set_self (by rw [S.len]; exact hlt), f⟩
    · rw [List.getElem?_set_ne hij] at e
      obtain ⟨o, h1, h2⟩ := S.sl j t e
      exact ⟨o, by rw [List.getElem?_set_ne hij]; exact h1, h2⟩
  · have here : ∀ (m : Nat) d, i = m → (ρ.set i s)[m]? = some d → (σ.set i (some v))[m]? = some (some (.ref q)) → s = d ∧ v = .ref q := fun m d hm e1 e2 => by
      subst hm
      have hlt : i < ρ.length := by
        have := (List.getElem?_eq_some_iff.mp e1).1
        rwa [List.length_set] at this
      rw [List.getElem?_set_self hlt] at e1
      rw [List.getElem?_set_self (by rw [S.len]; exact hlt)] at e2
      exact ⟨Option.some.inj e1, Option.some.inj (Option.some.inj e2)⟩
    by_cases hj : i = j
    · by_cases hl : i = l
      · exact hj.symm.trans hl
      · obtain ⟨h1, h2⟩ := here j d1 hj e1 e3
        rw [List.getElem?_set_ne hl] at e2 e4
        exact absurd e4 (ap _ (h1 ▸ w1) h2 l d2 w2 (fun z => hl z.symm) e2)
    · by_cases hl : i = l
      · obtain ⟨h1, h2⟩ := here l d2 hl e2 e4
        rw [List.getElem?_set_ne hj] at e1 e3
        exact absurd e3 (ap _ (h1 ▸ w2) h2 j d1 w1 (fun z => hj z.symm) e1)
      · rw [List.getElem?_set_ne hj] at e1 e3
        rw [List.getElem?_set_ne hl] at e2 e4
        exact S.dis j l d1 d2 q e1 e2 w1 w2 e3 e4
theorem fresh_dead {K : PySem.W.Frag} {v : V} {s : Sl} {p : Addr} (f : Fresh K W W' v s) (ow : s.isOwn = true) (e : v = .ref p) : W.H p = none := by
  obtain ⟨p', u, e', h1, h2, h3, h4⟩ := f.live ow
  rw [e] at e'
  cases e'
  exact h4
theorem fresh_live {K : PySem.W.Frag} {v : V} {s : Sl} {p : Addr} (f : Fresh K W W' v s) (ow : s.isOwn = true) (e : v = .ref p) : W'.H p ≠ none := by
  obtain ⟨p', u, e', h1, h2, h3, h4⟩ := f.live ow
  rw [e] at e'
  cases e'
  rw [h1]
  simp
theorem Sat.set (S : Sat C σ ρ W) (g : Go W W') (ok : Wok C.X.K W') {v : V} {s : Sl} (f : Fresh C.X.K W W' v s) (i : Nat) : Sat C (σ.set i (some v)) (ρ.set i s) W' :=
  (S.step g ok).puts (slOk_fresh S g f) i fun p w1 e m t w2 _ e1 e2 => own_live S w2 e1 e2 (fresh_dead f w1 e)
@[simp] def wSet (i : Nat) (w : VW M) : SW M := fun k ρ g => w ρ g fun s g' => k.nx (ρ.set i s) g'
theorem ds_set {i : Nat} {x : Str} {pos' : Pos} {wv : VW M} (hN : C.X.N.Nodup) (hi : C.X.N[i]? = some x) (hx : Loc C.X.env.scope x) (he : DV C e wv) (hs : swapsWith e (some (.Name x pos')) pos.line C.X.env = pure false := by rfl)
    (hf : C.X.fn x = true ∨ C.X.env.scope.names.lookup x = some .local := by first | exact .inl rfl | exact .inr rfl | assumption) : DS C (.Assign [.Name x pos'] e pos) (wSet i wv) := ⟨fun σ ρ W k E S l h =>
  tsOf_of (ps_set hN hi hx pe_tOf hs hf) (he.run σ ρ W _ _ S (fun v s W' g ok f q => l.nx _ _ W' g.s (S.set g ok f i) q) h)⟩
/-- a thing of one's own, written -/
theorem Sat.writeG (S : Sat C σ ρ W) {i : Nat} {s0 s1 : Sl} {p : Addr} {u : HO} (e : ρ[i]? = some s0) (ow : s0.isOwn = true) (ow1 : s1.isOwn = true) (hp : σ[i]? = some (some (.ref p))) (f : W.F p = none → p ∉ W.R → C.W0.H p = none → SlOk C (W.put p u) s1 (some (.ref p))) :
    Sat C σ (ρ.set i s1) (W.put p u) ∧ Gs W (W.put p u) := by
  obtain ⟨o, h1, h2⟩ := S.sl i _ e
  obtain ⟨p', v, h2, h3, h4, h5, h6⟩ := h2.live ow
  rw [hp] at h1
  cases h1
  cases h2
  have hlt : i < ρ.length := (List.getElem?_eq_some_iff.mp e).1
  refine ⟨⟨S.ok.put h4 h5, S.go.put h6, by rw [List.length_set]; exact S.len, fun j t ej => ?_, fun j l d1 d2 q e1 e2 w1 w2 e3 e4 => ?_, S.gs.trans ⟨Same.refl _, fun _ _ h => h⟩⟩, Same.refl _, fun _ _ h => h⟩
  · by_cases hij : i = j
    · subst hij
      rw [List.getElem?_set_self hlt] at ej
      cases ej
      exact ⟨_, hp, f h4 h5 h6⟩
    · rw [List.getElem?_set_ne hij] at ej
      obtain ⟨o, q1, q2⟩ := S.sl j t ej
      refine ⟨o, q1, ?_⟩
      have ne : ∀ p2, t.isOwn = true → o = some (.ref p2) → upd W.H p u p2 = W.H p2 := fun p2 wt eo => upd_ne (fun z => hij (by subst z; exact S.dis i j _ _ p2 e ej ow wt hp (eo ▸ q1)))
      cases t with
      | no => trivial
      | im d => exact q2
      | own d2 =>
        obtain ⟨p2, v2, a1, a2, a3, a4, a5, a6⟩ := q2
        exact ⟨p2, v2, a1, (ne p2 rfl a1).trans a2, a3, a4, a5, a6⟩
      | odt d2 =>
        obtain ⟨p2, v2, a1, a2, a3, a4, a5, a6⟩ := q2
        exact ⟨p2, v2, a1, (ne p2 rfl a1).trans a2, a3, a4, a5, a6⟩
  · have back : ∀ (j : Nat) d, (ρ.set i s1)[j]? = some d → d.isOwn = true → ∃ d', ρ[j]? = some d' ∧ d'.isOwn = true := fun j d ej wd => by
      by_cases hij : i = j
      · subst hij; exact ⟨_, e, ow⟩
      · rw [List.getElem?_set_ne hij] at ej; exact ⟨_, ej, wd⟩
    obtain ⟨d1', e1', w1'⟩ := back j d1 e1 w1
    obtain ⟨d2', e2', w2'⟩ := back l d2 e2 w2
    exact S.dis j l _ _ q e1' e2' w1' w2' e3 e4
/-- a list of one's own, written -/
theorem Sat.write (S : Sat C σ ρ W) {i : Nat} {ds : List D} {p : Addr} {ws : List V} {es : List D} (e : ρ[i]? = some (.own ds)) (hp : σ[i]? = some (some (.ref p))) (r : RpA C.X.K W.F W.R ws es) :
    Sat C σ (ρ.set i (.own es)) (W.put p (.lst ws)) ∧ Gs W (W.put p (.lst ws)) :=
  S.writeG e rfl rfl hp fun h4 h5 h6 => ⟨p, ws, rfl, upd_same, h4, h5, h6, r⟩
/-- freezing a slot, where nothing is done -/
theorem Sat.frz (S : Sat C σ ρ W) {i : Nat} {ds : List D} (e : ρ[i]? = some (.own ds)) : ∃ W', W'.H = W.H ∧ W'.g = W.g ∧ Gs W W' ∧ Sat C σ (ρ.set i (.im (.lst ds))) W' := by
  obtain ⟨o, h1, p, vs, h2, h3, h4, h5, h6, r⟩ := S.sl i _ e
  subst h2
  have hlt : i < ρ.length := (List.getElem?_eq_some_iff.mp e).1
  have rr : ∀ {v d}, Rp C.X.K W.F W.R v d → Rp C.X.K (upd W.F p (.lst vs)) W.R v d := fun h => h.mono (same_new h4) fun _ _ z => z
  refine ⟨W.freeze p (.lst vs), rfl, rfl, ⟨same_new h4, fun _ _ h => h⟩, S.ok.freeze h3 h4 h5, Go.freeze S.go h4 h6, by rw [List.length_set]; exact S.len, fun j t ej => ?_, fun j l d1 d2 q e1 e2 w1 w2 e3 e4 => ?_, S.gs.trans ⟨same_new h4, fun _ _ h => h⟩⟩
  · by_cases hij : i = j
    · subst hij
      rw [List.getElem?_set_self hlt] at ej
      cases ej
      exact ⟨_, h1, .ref p, rfl, .lst upd_same (r.mono (same_new h4) fun _ _ z => z)⟩
    · rw [List.getElem?_set_ne hij] at ej
      obtain ⟨o, q1, q2⟩ := S.sl j t ej
      refine ⟨o, q1, ?_⟩
      have ne : ∀ p2, t.isOwn = true → o = some (.ref p2) → upd W.F p (.lst vs) p2 = W.F p2 := fun p2 wt eo => upd_ne (fun z => hij (by subst z; exact S.dis i j _ _ p2 e ej rfl wt h1 (eo ▸ q1)))
      cases t with
      | no => trivial
      | im d =>
        obtain ⟨v, a1, a2⟩ := q2
        exact ⟨v, a1, rr a2⟩
      | own d2 =>
        obtain ⟨p2, v2, a1, a2, a3, a4, a5, a6⟩ := q2
        exact ⟨p2, v2, a1, a2, (ne p2 rfl a1).trans a3, a4, a5, a6.mono (same_new h4) fun _ _ z => z⟩
      | odt d2 =>
        obtain ⟨p2, v2, a1, a2, a3, a4, a5, a6⟩ := q2
        exact ⟨p2, v2, a1, a2, (ne p2 rfl a1).trans a3, a4, a5, a6.mono (same_new h4) fun _ _ z => z⟩
  · have back : ∀ (j : Nat) d, (ρ.set i (.im (.lst ds)))[j]? = some d → d.isOwn = true → ρ[j]? = some d := fun j d ej wd => by
      by_cases hij : i = j
      · subst hij
        rw [List.getElem?_set_self hlt] at ej
        cases ej
        cases wd
      · rw [List.getElem?_set_ne hij] at ej; exact ej
    exact S.dis j l _ _ q (back j d1 e1 w1) (back l d2 e2 w2) w1 w2 e3 e4
@[simp] def wFrz (i : Nat) (w : SW M) : SW M := fun k ρ g => ∃ ds, ρ[i]? = some (.own ds) ∧ w k (ρ.set i (.im (.lst ds))) g
theorem dss_frz (i : Nat) (h : DSs C sts w) : DSs C sts (wFrz i w) := ⟨fun σ ρ W k E S l hw => by
  obtain ⟨ds, e, hw⟩ := hw
  obtain ⟨W', e1, e2, g, S'⟩ := S.frz e
  rw [← e1]
  exact h.run σ _ W' k E S' (l.step g) (by rw [e2]; exact hw)⟩

abbrev GW := D → DEnv → (DEnv → Prop) → Prop
abbrev GWs := List D → DEnv → (DEnv → Prop) → Prop
def tgOf (X : Cx) (tg : Expr) : TG := fun v σ H Q => ∀ (pins : List (Addr × Obj)) (s : Shared) (u : Value), Inv X pins σ H s → RelV v u →
  wpAny (model X.prog X.w) X.A (assign tg X.env u) (fun _ s' => ∃ σ' H', Inv X pins σ' H' s' ∧ Q σ' H') X.xe s
theorem pg_tOf {X : Cx} {tg : Expr} : PG X tg (tgOf X tg) := ⟨fun pins s _ _ _ u _ I r h => h pins s u I r⟩
theorem tgOf_of {X : Cx} {tg : Expr} {t : TG} (h : PG X tg t) {v : V} {H : Hp} {Q : L2.St → Hp → Prop} (q : t v σ H Q) : tgOf X tg v σ H Q := fun pins s u I r => h.run pins s σ H v u Q I r q
def tgsOf (X : Cx) (ts : List Expr) : TGs := fun vs σ H Q => ∀ (pins : List (Addr × Obj)) (s : Shared) (us : List Value), Inv X pins σ H s → Vals vs us →
  wpAny (model X.prog X.w) X.A (assignInOrder ((assignEach ts X.env).map (·.2)) us) (fun _ s' => ∃ σ' H', Inv X pins σ' H' s' ∧ Q σ' H') X.xe s
theorem pgs_tOf {X : Cx} {ts : List Expr} : PGs X ts (tgsOf X ts) := ⟨fun pins s _ _ _ us _ I r h => h pins s us I r⟩
theorem tgsOf_of {X : Cx} {ts : List Expr} {t : TGs} (h : PGs X ts t) {vs : List V} {H : Hp} {Q : L2.St → Hp → Prop} (q : t vs σ H Q) : tgsOf X ts vs σ H Q := fun pins s us I r => h.run pins s σ H vs us Q I r q
structure DG (C : Ct M) (is : List Nat) (tg : Expr) (w : GW) : Prop where
  run : ∀ (σ : L2.St) (ρ : DEnv) (W : Wd M) (v : V) (d : D) (Q : L2.St → Hp → Prop) (q : DEnv → Prop), Sat C σ ρ W → Rp C.X.K W.F W.R v d →
    (∀ σ' ρ', Sat C σ' ρ' W → σ'.length = σ.length → (∀ j, j ∉ is → σ'[j]? = σ[j]?) → q ρ' → Q σ' W.H) → w d ρ q → tgOf C.X tg v σ W.H Q
structure DGs (C : Ct M) (is : List Nat) (ts : List Expr) (w : GWs) : Prop where
  run : ∀ (σ : L2.St) (ρ : DEnv) (W : Wd M) (vs : List V) (ds : List D) (Q : L2.St → Hp → Prop) (q : DEnv → Prop), Sat C σ ρ W → RpA C.X.K W.F W.R vs ds →
    (∀ σ' ρ', Sat C σ' ρ' W → σ'.length = σ.length → (∀ j, j ∉ is → σ'[j]? = σ[j]?) → q ρ' → Q σ' W.H) → w ds ρ q → tgsOf C.X ts vs σ W.H Q
@[simp] def gwN (i : Nat) : GW := fun d ρ q => q (ρ.set i (.im d))
@[simp] def gwNil : GWs := fun ds ρ q => match ds with
  | [] => q ρ
  | _ => False
@[simp] def gwCons (w : GW) (u : GWs) : GWs := fun ds ρ q => match ds with
  | d :: ds => w d ρ fun ρ' => u ds ρ' q
  | [] => False
@[simp] def gwT (n : Nat) (u : GWs) : GW := fun d ρ q => match d with
  | .tup ds => ds.length = n ∧ u ds ρ q
  | _ => False
theorem dg_name {i : Nat} {x : Str} (h : PG C.X (.Name x pos) (gName i)) : DG C [i] (.Name x pos) (gwN i) := ⟨fun σ ρ W v d Q q S r hQ hw =>
  tgOf_of h (hQ _ _ (S.set (Go.refl W) S.ok (s := .im d) r i) (by simp) (fun j hj => by rw [List.getElem?_set_ne (by simpa using Ne.symm (by simpa using hj))]) hw)⟩
theorem dgs_nil : DGs C [] [] gwNil := ⟨fun σ ρ W vs ds Q q S r hQ hw => by
  cases ds with
  | nil =>
    cases r
    exact tgsOf_of pgs_nil ⟨rfl, hQ σ ρ S rfl (fun _ _ => rfl) hw⟩
  | cons d ds => exact hw.elim⟩
theorem dgs_cons {is js : List Nat} {tg : Expr} {ts : List Expr} {gw : GW} {gs : GWs} (h1 : DG C is tg gw) (h2 : DGs C js ts gs)
    (hs : (assignEach (tg :: ts) C.X.env).map (·.2) = assign tg C.X.env :: (assignEach ts C.X.env).map (·.2) := by rfl) : DGs C (is ++ js) (tg :: ts) (gwCons gw gs) := ⟨fun σ ρ W vs ds Q q S r hQ hw => by
  cases ds with
  | nil => exact hw.elim
  | cons d ds =>
    cases r with
    | cons r1 r2 =>
      refine tgsOf_of (pgs_cons pg_tOf pgs_tOf hs) ⟨_, _, rfl, h1.run σ ρ W _ d _ _ S r1 (fun σ' ρ' S' l1 k1 q1 => ?_) hw⟩
      refine h2.run σ' ρ' W _ ds _ _ S' r2 (fun σ2 ρ2 S2 l2 k2 q2 => hQ σ2 ρ2 S2 (l2.trans l1) (fun j hj => ?_) q2) q1
      rw [List.mem_append, not_or] at hj
      rw [k2 j hj.2, k1 j hj.1]⟩
theorem dg_tup {is : List Nat} {ts : List Expr} {kk n : Nat} {gs : GWs} (hc : C.X.calm = true) (h : DGs C is ts gs) (hn : (assignEach ts C.X.env).length = n := by rfl) (hst : (assignEach ts C.X.env).findIdx? (·.1) = none := by rfl) :
    DG C is (.Tuple ts kk pos) (gwT n gs) := ⟨fun σ ρ W v d Q q S r hQ hw => by
  cases d with
  | tup ds =>
    cases r with
    | tup hs r2 =>
      refine tgOf_of (pg_tup hc pgs_tOf hn hst) ⟨_, _, rfl, same_tup S.ok.sub hs, by rw [r2.length]; exact hw.1, h.run σ ρ W _ ds _ _ S r2 hQ hw.2⟩
  | _ => exact hw.elim⟩

structure WK (K : PySem.W.Frag) (Ws : Wd M) (J : It) (ds : List D) : Prop where
  go : ∀ (i : Nat) (W : Wd M) d, Gs Ws W → Wok K W → ds[i]? = some d → J.go i W.H ∧ ∀ x H', J.yld i W.H x H' → ∃ W', W'.H = H' ∧ Go W W' ∧ Wok K W' ∧ W'.g = W.g ∧ Rp K W'.F W'.R x d
  stop : ∀ (i : Nat) (W : Wd M), Gs Ws W → Wok K W → ds[i]? = none → J.stop i W.H
abbrev IW (M : Ghost) := DEnv → M.G → (List D → M.G → Prop) → Prop
def iOf (X : Cx) (tg iter : Expr) : TI := fun σ H R => ∀ (pins : List (Addr × Obj)) (s : Shared), Inv X pins σ H s →
  wpAny (model X.prog X.w) X.A (eval iter X.env) (fun v s1 => wpAny (model X.prog X.w) X.A (pyIter v) (PIE X pins σ tg R) X.xe s1) X.xe s
theorem pi_tOf {X : Cx} {tg iter : Expr} : PI X tg iter (iOf X tg iter) := ⟨fun pins s _ _ _ I h => h pins s I⟩
theorem iOf_of {X : Cx} {tg iter : Expr} {t : TI} (h : PI X tg iter t) {H : Hp} {R : It → Hp → Prop} (q : t σ H R) : iOf X tg iter σ H R := fun pins s I => h.run pins s σ H R I q
structure DI (C : Ct M) (tg iter : Expr) (w : IW M) : Prop where
  run : ∀ (σ : L2.St) (ρ : DEnv) (W : Wd M) (R : It → Hp → Prop) (q : List D → M.G → Prop), Sat C σ ρ W → (∀ J ds W', Go W W' → Wok C.X.K W' → WK C.X.K W' J ds → q ds W'.g → R J W'.H) → w ρ W.g q → iOf C.X tg iter σ W.H R
/-- a list, a tuple or a text that stands still -/
def itemsOf : D → Option (List D)
  | .lst ds => some ds
  | .tup ds => some ds
  | .str x => some (x.map fun c => .str [c])
  | _ => none
@[simp] def wItems (w : EW M) : IW M := fun ρ g q => w ρ g fun d g' => ∃ ds, itemsOf d = some ds ∧ q ds g'
def iSeq (K : PySem.W.Frag) (tl : TE) : TI := fun σ H R => tl σ H fun x H1 => (∃ a xs, x = .ref a ∧ SqL K H1 a xs ∧ R (Itl K a) H1) ∨ (∃ a xs, x = .ref a ∧ SqT K H1 a xs ∧ R (Itt K a) H1) ∨ (∃ z, x = .str z ∧ R (Its z) H1)
theorem pi_seq {X : Cx} {tg l : Expr} {tl : TE} (hl : PE X l tl) : PI X tg l (iSeq X.K tl) := by
  refine ⟨fun pins s σ H R I h => ?_⟩
  refine thn (hl.run pins s σ H _ I h) fun v s1 ⟨x, H1, I1, r1, q1⟩ => ?_
  rcases q1 with ⟨a, xs, rfl, hq, q⟩ | ⟨a, xs, rfl, hq, q⟩ | ⟨z, rfl, q⟩
  · cases r1
    obtain ⟨its, rv, p, hz⟩ := I1.list hq
    refine wpAny_pyIter_list p.isList ?_
    refine ⟨s1.heap.objs.size, [s1.heap.objs.size], _, _, H1, rfl, I1.kept (t' := s1.toks) fun b o e => Heap.get?_push_of_some _ e, turn_list a _, ⟨_, Heap.get?_push_size _ rfl, rfl, rfl⟩, fun b hb => ?_, q⟩
    have e : b = s1.heap.objs.size := by simpa using hb
    subst e
    exact I1.fpOk (Nat.le_refl _) (I1.hok.fresh (Nat.le_refl _))
  · cases r1
    obtain ⟨its, rv, p, hz⟩ := I1.tuple hq
    refine wpAny_pyIter_tuple (show s1.heap.IsTuple a its.toArray from p) ?_
    refine ⟨s1.heap.objs.size, [s1.heap.objs.size], _, _, H1, rfl, I1.kept (t' := s1.toks) fun b o e => Heap.get?_push_of_some _ e, turn_tuple a _, ⟨_, Heap.get?_push_size _ rfl, rfl, rfl⟩, fun b hb => ?_, q⟩
    have e : b = s1.heap.objs.size := by simpa using hb
    subst e
    exact I1.fpOk (Nat.le_refl _) (I1.hok.fresh (Nat.le_refl _))
  · obtain ⟨t, rfl⟩ := r1
    cases ha : z.cps.all (· < 128)
    · exact wpAny_pyIter_wide ha (pi_one (tk := s1.toks) I1 _ (turn_str _ z t "str_iterator" (.inr rfl)) ⟨_, Heap.get?_push_size _ rfl, rfl, rfl⟩ q)
    · exact wpAny_pyIter_ascii ha (pi_one (tk := s1.toks) I1 _ (turn_str _ z t "str_ascii_iterator" (.inl rfl)) ⟨_, Heap.get?_push_size _ rfl, rfl, rfl⟩ q)
theorem wk_lst {K : PySem.W.Frag} {a : Addr} {vs : List V} {ds : List D} (h : W.F a = some (.lst vs)) (r : RpA K W.F W.R vs ds) : WK K W (Itl K a) ds where
  go := fun i W1 d g k e => by
    obtain ⟨v, e1, e2⟩ := r.get' e
    have hl : SqL K W1.H a vs := .of (k.sub _ _ (g.sub _ _ h))
    refine ⟨⟨vs, v, hl, e1⟩, fun x H' y => ?_⟩
    obtain ⟨rfl, y⟩ := y
    have ex : x = v := Option.some.inj ((y _ hl).symm.trans e1)
    subst ex
    exact ⟨W1, rfl, Go.refl _, k, rfl, e2.gs g⟩
  stop := fun i W1 g k e => ⟨vs, .of (k.sub _ _ (g.sub _ _ h)), by rw [r.length]; exact List.getElem?_eq_none_iff.mp e⟩
theorem wk_tup {K : PySem.W.Frag} {a : Addr} {vs : List V} {ds : List D} (h : SqT K W.F a vs) (r : RpA K W.F W.R vs ds) : WK K W (Itt K a) ds where
  go := fun i W1 d g k e => by
    obtain ⟨v, e1, e2⟩ := r.get' e
    have hl : SqT K W1.H a vs := same_tup k.sub (same_tup g.sub h)
    refine ⟨⟨vs, v, hl, e1⟩, fun x H' y => ?_⟩
    obtain ⟨rfl, y⟩ := y
    have ex : x = v := Option.some.inj ((y _ hl).symm.trans e1)
    subst ex
    exact ⟨W1, rfl, Go.refl _, k, rfl, e2.gs g⟩
  stop := fun i W1 g k e => ⟨vs, same_tup k.sub (same_tup g.sub h), by rw [r.length]; exact List.getElem?_eq_none_iff.mp e⟩
theorem wk_str {K : PySem.W.Frag} {z : Str} : WK K W (Its z) (z.cps.toList.map fun c => .str [c]) where
  go := fun i W1 d g k e => by
    rw [List.getElem?_map] at e
    cases q : z.cps.toList[i]? with
    | none => rw [q] at e; cases e
    | some c =>
      rw [q] at e
      cases e
      have hi : i < z.cps.size := by
        have := (List.getElem?_eq_some_iff.mp q).1
        simpa using this
      refine ⟨hi, fun x H' y => ?_⟩
      obtain ⟨rfl, c', e1, rfl⟩ := y
      refine ⟨W1, rfl, Go.refl _, k, rfl, .str _ _ ?_⟩
      have : z.cps.toList[i]? = some c' := by simpa using e1
      rw [q] at this
      cases this
      rfl
  stop := fun i W1 g k e => by
    have := List.getElem?_eq_none_iff.mp e
    rw [List.length_map] at this
    show z.cps.size ≤ i
    simpa using this
theorem di_seq {tg : Expr} (he : DE C e we) : DI C tg e (wItems we) := ⟨fun σ ρ W R q S hR hw => iOf_of (pi_seq pe_tOf) (he.run σ ρ W _ _ S (fun v d W' g k r q1 => by
  obtain ⟨ds, e1, q1⟩ := q1
  cases d with
  | lst ds' =>
    cases e1
    cases r with
    | lst h r2 => exact .inl ⟨_, _, rfl, .of (k.sub _ _ h), hR _ _ W' g k (wk_lst h r2) q1⟩
  | tup ds' =>
    cases e1
    cases r with
    | tup h r2 => exact .inr (.inl ⟨_, _, rfl, same_tup k.sub h, hR _ _ W' g k (wk_tup h r2) q1⟩)
  | str x =>
    cases e1
    cases r with
    | str z _ h =>
      subst h
      exact .inr (.inr ⟨z, rfl, hR _ _ W' g k wk_str q1⟩)
  | _ => cases e1) hw)⟩

def forW (gw : GW) (wb : SW M) : List D → SW M
  | [], k => k.nx
  | d :: ds, k => fun ρ g => gw d ρ fun ρ' => wb { nx := forW gw wb ds k, rt := k.rt, bk := k.nx, ct := forW gw wb ds k } ρ' g
@[simp] def wFor (wi : IW M) (gw : GW) (wb : SW M) : SW M := fun k ρ g => wi ρ g fun ds g' => forW gw wb ds k ρ g'
theorem ds_for {tg iter : Expr} {body : List Stmt} {is : List Nat} {wi : IW M} {gw : GW} {wb : SW M} (hp : PassesOwn (model C.X.prog C.X.w) C.X.A C.X.env C.X.xe) (hc : C.X.calm = true) (hi : DI C tg iter wi) (hg : DG C is tg gw) (hb : DSs C body wb)
    (hs : ∀ x, foldedSetIterable iter C.X.env x = pure x := by intro _; rfl) : DS C (.For tg iter body [] pos) (wFor wi gw wb) := ⟨fun σ ρ W k E S l h => by
  refine tsOf_of (ps_for hp hc pi_tOf pg_tOf pss_tOf hs) (hi.run σ ρ W _ _ S (fun J ds W1 g1 k1 wk q1 => ?_) h)
  refine ⟨fun i m σ H => ∃ (ρ : DEnv) (W2 : Wd M), W2.H = H ∧ Sat C σ ρ W2 ∧ Gs W1 W2 ∧ m = ds.length - i ∧ forW gw wb (ds.drop i) k ρ W2.g, ⟨ds.length, ρ, W1, rfl, S.step g1 k1, Gs.refl _, rfl, q1⟩, ?_⟩
  rintro i m σ2 H2 ⟨ρ2, W2, rfl, S2, g2, rfl, q2⟩
  cases hd : ds[i]? with
  | none =>
    have e : ds.drop i = [] := List.drop_eq_nil_of_le (List.getElem?_eq_none_iff.mp hd)
    rw [e] at q2
    exact .inl ⟨wk.stop i W2 g2 S2.ok hd, l.nx σ2 ρ2 W2 (g1.s.trans g2) S2 q2⟩
  | some d =>
    obtain ⟨hlt, hd'⟩ := List.getElem?_eq_some_iff.mp hd
    have e : ds.drop i = d :: ds.drop (i + 1) := by rw [List.drop_eq_getElem_cons hlt, hd']
    rw [e] at q2
    obtain ⟨go, yld⟩ := wk.go i W2 d g2 S2.ok hd
    refine .inr ⟨go, fun σ H => ∃ (ρ : DEnv) (W3 : Wd M), W3.H = H ∧ Sat C σ ρ W3 ∧ Gs W1 W3 ∧ forW gw wb (ds.drop (i + 1)) k ρ W3.g, ?_, fun x H' y => ?_⟩
    · rintro σ' H' ⟨ρ3, W3, e3, S3, g3, q3⟩
      exact ⟨ds.length - (i + 1), by omega, ρ3, W3, e3, S3, g3, rfl, q3⟩
    · obtain ⟨W3, rfl, g3, k3, e3, r3⟩ := yld x H' y
      rw [← e3] at q2
      refine hg.run σ2 ρ2 W3 x d _ _ (S2.step g3 k3) r3 (fun σ4 ρ4 S4 _ _ q4 => ?_) q2
      have g13 : Gs W1 W3 := g2.trans g3.s
      have nx : ∀ σ' ρ' W', Gs W3 W' → Sat C σ' ρ' W' → forW gw wb (ds.drop (i + 1)) k ρ' W'.g → ∃ (ρ : DEnv) (W4 : Wd M), W4.H = W'.H ∧ Sat C σ' ρ W4 ∧ Gs W1 W4 ∧ forW gw wb (ds.drop (i + 1)) k ρ W4.g :=
        fun σ' ρ' W' g S' q => ⟨ρ', W', rfl, S', g13.trans g, q⟩
      exact hb.run σ4 ρ4 W3 { nx := forW gw wb (ds.drop (i + 1)) k, rt := k.rt, bk := k.nx, ct := forW gw wb (ds.drop (i + 1)) k } _ S4 ⟨nx, l.rt, fun σ' ρ' W' g S' q => l.nx σ' ρ' W' ((g1.s.trans g13).trans g) S' q, nx⟩ q4⟩

end
end DL
set_option Elab.async false
set_option linter.all false
set_option maxRecDepth 100000
set_option maxHeartbeats 1000000
namespace DL
open PySem L2
section
variable {M : Ghost} {C : Ct M} {W W1 W2 W' : Wd M} {σ : L2.St} {ρ : DEnv} {e : Expr} {es : List Expr} {we : EW M} {pos : Pos}

@[simp] def wipeD (ρ : DEnv) : List Nat → DEnv
  | [] => ρ
  | v :: vs => (wipeD ρ vs).set v .no
theorem Sat.setNo (S : Sat C σ ρ W) (i : Nat) : Sat C (σ.set i none) (ρ.set i .no) W := by
  refine ⟨S.ok, S.go, by rw [List.length_set, List.length_set, S.len], fun j t e => ?_, fun j l ds es p e1 e2 w1 w2 e3 e4 => ?_, S.gs⟩
  · by_cases hij : i = j
    · subst hij
      have hlt : i < ρ.length := by
        have := (List.getElem?_eq_some_iff.mp e).1
        rwa [List.length_set] at this
      rw [List.getElem?_set_self hlt] at e
      cases e
      exact ⟨none, by rw [List.getElem?_set_self (by rw [S.len]; exact hlt)], trivial⟩
    · rw [List.getElem?_set_ne hij] at e
      obtain ⟨o, h1, h2⟩ := S.sl j t e
      exact ⟨o, by rw [List.getElem?_set_ne hij]; exact h1, h2⟩
  · have nj : ∀ (j : Nat) d, (ρ.set i .no)[j]? = some d → d.isOwn = true → i ≠ j ∧ ρ[j]? = some d := fun j d e wd => by
      by_cases hij : i = j
      · subst hij
        have hlt : i < ρ.length := by
          have := (List.getElem?_eq_some_iff.mp e).1
          rwa [List.length_set] at this
        rw [List.getElem?_set_self hlt] at e
        cases e
        cases wd
      · rw [List.getElem?_set_ne hij] at e
        exact ⟨hij, e⟩
    obtain ⟨n1, e1'⟩ := nj j ds e1 w1
    obtain ⟨n2, e2'⟩ := nj l es e2 w2
    rw [List.getElem?_set_ne n1] at e3
    rw [List.getElem?_set_ne n2] at e4
    exact S.dis j l ds es p e1' e2' w1 w2 e3 e4
theorem Sat.wipe (S : Sat C σ ρ W) : ∀ vs : List Nat, Sat C (L2.wipe σ vs) (wipeD ρ vs) W
  | [] => S
  | v :: vs => (Sat.wipe S vs).setNo v
theorem wipe_in {σ : L2.St} {i : Nat} : ∀ {vs : List Nat}, i ∈ vs → (L2.wipe σ vs)[i]? = if i < σ.length then some none else none
  | [], h => by cases h
  | v :: vs, h => by
    unfold L2.wipe
    by_cases hi : v = i
    · subst hi
      by_cases hv : v < σ.length
      · rw [if_pos hv, List.getElem?_set_self (by rw [wipe_length]; exact hv)]
      · rw [if_neg hv, List.getElem?_eq_none (by rw [List.length_set, wipe_length]; omega)]
    · rw [List.getElem?_set_ne hi]
      exact wipe_in ((List.mem_cons.mp h).resolve_left fun z => hi z.symm)
theorem wipe_eq {σ σ' : L2.St} {vs : List Nat} (hl : σ'.length = σ.length) (h : ∀ j, j ∉ vs → σ'[j]? = σ[j]?) : L2.wipe σ' vs = L2.wipe σ vs := by
  refine List.ext_getElem? fun j => ?_
  by_cases hj : j ∈ vs
  · rw [wipe_in hj, wipe_in hj, hl]
  · rw [wipe_out hj, wipe_out hj, h j hj]
abbrev Ct.blk (C : Ct M) (s : Shared) (H : Hp) (scope : Scope) (cenv : Env) (fp : List Addr) : Ct M := ⟨C.X.blk s H scope cenv fp, C.W0, fun _ _ _ => False, C.B⟩
abbrev Ct.bk (C : Ct M) (s : Shared) (H : Hp) (scope : Scope) (cl : List (Str × Addr)) (Cc : Addr) (fp : List Addr) : Ct M := C.blk s H scope (compEnvC scope cl Cc C.X.env) fp
theorem Sat.blk (S : Sat C σ ρ W) {s : Shared} {H : Hp} {scope : Scope} {cenv : Env} {fp : List Addr} : Sat (C.blk s H scope cenv fp) σ ρ W := ⟨S.ok, S.go, S.len, S.sl, S.dis, S.gs⟩
def ttsOf (X : Cx) (ifs : List Expr) : TT := fun σ H Q => ∀ (pins : List (Addr × Obj)) (s : Shared), Inv X pins σ H s →
  wpAny (model X.prog X.w) X.A (forIn ifs true fun c r => if r = true then do let ok ← isTrue c X.env (eval c X.env); pure (ForInStep.yield ok) else pure (ForInStep.yield r)) (TP X pins σ Q) X.xe s
structure DTs (C : Ct M) (ifs : List Expr) (w : TW M) : Prop where
  run : ∀ (σ : L2.St) (ρ : DEnv) (W : Wd M) (Q : Bool → Hp → Prop) (q : Bool → M.G → Prop), Sat C σ ρ W → (∀ b W', Go W W' → Wok C.X.K W' → q b W'.g → Q b W'.H) → w ρ W.g q → ttsOf C.X ifs σ W.H Q
@[simp] def wYes : TW M := fun _ g q => q true g
theorem dts_nil : DTs C [] wYes := ⟨fun σ ρ W Q q S hQ hw pins s I => pts_nil.run pins s σ W.H Q I (hQ true W (Go.refl W) S.ok hw)⟩
theorem dts_one {c : Expr} {wt : TW M} (h : DT C c wt) : DTs C [c] wt := ⟨fun σ ρ W Q q S hQ hw pins s I => (pts_one pt_tOf).run pins s σ W.H Q I (h.run σ ρ W Q q S hQ hw)⟩
def lcW (gw : GW) (wt : TW M) (we : EW M) (ρ : DEnv) : List D → M.G → (List D → M.G → Prop) → Prop
  | [], g, q => q [] g
  | d :: ds, g, q => gw d ρ fun ρ' => wt ρ' g fun b g1 => if b = true then we ρ' g1 fun y g2 => lcW gw wt we ρ ds g2 fun ys g3 => q (y :: ys) g3 else lcW gw wt we ρ ds g1 q
@[simp] def wLc (wi : IW M) (gw : GW) (wt : TW M) (we : EW M) (vs : List Nat) : NW M := fun ρ g q => wi ρ g fun ds g' => ds.length ≤ sizeLine ∧ lcW gw wt we (wipeD ρ vs) ds g' q
theorem lcW_mono {gw : GW} {wt : TW M} {ds : List D} {g : M.G} {q q' : List D → M.G → Prop} (h : lcW gw wt we ρ ds g q) (e : q = q') : lcW gw wt we ρ ds g q' := e ▸ h
section
variable {elt tg iter : Expr} {ifs : List Expr} {scope : Scope} {own : List (Str × Nat)} {wi : IW M} {gw : GW} {wt : TW M} {is : List Nat}
def teB (C : Ct M) (scope : Scope) (e : Expr) : TE := fun σ H Q => ∀ s H0 Cc cl fp, tOf (C.X.blk s H0 scope (compEnvC scope cl Cc C.X.env) fp) e σ H Q
def ttB (C : Ct M) (scope : Scope) (e : List Expr) : TT := fun σ H Q => ∀ s H0 Cc cl fp, ttsOf (C.X.blk s H0 scope (compEnvC scope cl Cc C.X.env) fp) e σ H Q
def tgB (C : Ct M) (scope : Scope) (e : Expr) : TG := fun v σ H Q => ∀ s H0 Cc cl fp, tgOf (C.X.blk s H0 scope (compEnvC scope cl Cc C.X.env) fp) e v σ H Q
structure DIg (C : Ct M) (ti : TI) (w : IW M) : Prop where
  run : ∀ (σ : L2.St) (ρ : DEnv) (W : Wd M) (R : It → Hp → Prop) (q : List D → M.G → Prop), Sat C σ ρ W → (∀ J ds W', Go W W' → Wok C.X.K W' → WK C.X.K W' J ds → q ds W'.g → R J W'.H) → w ρ W.g q → ti σ W.H R
theorem lc_run {ti : TI} (hi : DIg C ti wi) (hvs : ∀ j ∈ is, j ∈ own.map (·.2)) (hg : ∀ s H Cc cl fp, DG (C.bk s H scope cl Cc fp) is tg gw) (ht : ∀ s H Cc cl fp, DTs (C.bk s H scope cl Cc fp) ifs wt)
    (he : ∀ s H Cc cl fp, DE (C.bk s H scope cl Cc fp) elt we) {Q : VK} {q : List D → M.G → Prop} (S : Sat C σ ρ W)
    (hQ : ∀ p vs ds W', Go W W' → Wok C.X.K W' → W'.H p = some (.lst vs) → W'.F p = none → p ∉ W'.R → W.H p = none → RpA C.X.K W'.F W'.R vs ds → q ds W'.g → Q (.ref p) W'.H)
    (hw : wLc wi gw wt we (own.map (·.2)) ρ W.g q) : tLc ti (tgB C scope tg) (ttB C scope ifs) (teB C scope elt) (own.map (·.2)) σ W.H Q := by
  refine hi.run σ ρ W _ _ S (fun J ds W1 g1 k1 wk q1 P hP => ?_) hw
  obtain ⟨hz, q1⟩ := q1
  have hP0 : W.H P = none := by
    cases z : W.H P with
    | none => rfl
    | some o => exact absurd hP (g1.live P (by rw [z]; simp))
  refine ⟨fun i m H => ∃ (W2 : Wd M) (acc : List V) (as : List D), W2.H = H ∧ Go W1 W2 ∧ Wok C.X.K W2 ∧ H P = some (.lst acc) ∧ W2.F P = none ∧ P ∉ W2.R ∧ RpA C.X.K W2.F W2.R acc as ∧ as.length ≤ i ∧ m = ds.length - i ∧
      lcW gw wt we (wipeD ρ (own.map (·.2))) (ds.drop i) W2.g fun ys g' => q (as ++ ys) g',
    ⟨ds.length, W1.new P (.lst []), [], [], rfl, Go.new k1 hP, k1.new hP, upd_same, k1.noF hP, k1.noR hP, .nil, Nat.zero_le _, rfl, q1⟩, ?_⟩
  rintro i m H ⟨W2, acc, as, rfl, g2, k2, h1, h2, h3, r, hl, rfl, q2⟩
  cases hd : ds[i]? with
  | none =>
    have e : ds.drop i = [] := List.drop_eq_nil_of_le (List.getElem?_eq_none_iff.mp hd)
    rw [e] at q2
    have q3 : q (as ++ []) W2.g := q2
    rw [List.append_nil] at q3
    exact .inl ⟨wk.stop i W2 g2.s k2 hd, hQ P acc as W2 (g1.trans g2) k2 h1 h2 h3 hP0 r q3⟩
  | some d =>
    obtain ⟨hlt, hd'⟩ := List.getElem?_eq_some_iff.mp hd
    have e : ds.drop i = d :: ds.drop (i + 1) := by rw [List.drop_eq_getElem_cons hlt, hd']
    rw [e] at q2
    obtain ⟨go, yld⟩ := wk.go i W2 d g2.s k2 hd
    refine .inr ⟨go, fun H => ∃ (W2 : Wd M) (acc : List V) (as : List D), W2.H = H ∧ Go W1 W2 ∧ Wok C.X.K W2 ∧ H P = some (.lst acc) ∧ W2.F P = none ∧ P ∉ W2.R ∧ RpA C.X.K W2.F W2.R acc as ∧ as.length ≤ i + 1 ∧
      lcW gw wt we (wipeD ρ (own.map (·.2))) (ds.drop (i + 1)) W2.g fun ys g' => q (as ++ ys) g', ?_, fun x H' y => ?_⟩
    · rintro H' ⟨W3, a3, d3, b1, b2, b3, b4, b5, b6, b7, b8, b9⟩
      exact ⟨ds.length - (i + 1), by omega, W3, a3, d3, b1, b2, b3, b4, b5, b6, b7, b8, rfl, b9⟩
    · obtain ⟨W3, rfl, g3, k3, e3, r3⟩ := yld x H' y
      rw [← e3] at q2
      have Sw : Sat C (L2.wipe σ (own.map (·.2))) (wipeD ρ (own.map (·.2))) W3 := (S.step ((g1.trans g2).trans g3) k3).wipe _
      -- the new list stays as it is
      have stay : ∀ {W4 : Wd M}, Go W2 W4 → W4.H P = some (.lst acc) ∧ W4.F P = none ∧ P ∉ W4.R := fun {W4} g => by
        refine ⟨g.keep _ _ h1 h3, ?_, g.notR (by rw [h1]; simp) h3⟩
        cases z : W4.F P with
        | none => rfl
        | some o =>
          rcases g.young P (by rw [z]; simp) with a | a
          · exact absurd h2 a
          · rw [h1] at a; cases a
      intro s0 H0 Cc cl fp
      refine (hg s0 H0 Cc cl fp).run _ _ W3 x d _ _ Sw.blk r3 (fun σ4 ρ4 S4 l4 n4 q4 => ⟨?_, fun s1 H1 Cc1 cl1 fp1 => ?_⟩) q2
      · rw [wipe_eq (σ := L2.wipe σ (own.map (·.2))) l4 fun j hj => n4 j fun z => hj (hvs j z)]
        exact wipe_eq (wipe_length _ _) fun j hj => wipe_out hj
      · refine (ht s1 H1 Cc1 cl1 fp1).run σ4 ρ4 W3 _ _ ⟨S4.ok, S4.go, S4.len, S4.sl, S4.dis, S4.gs⟩ (fun b W5 g5 k5 q5 => ?_) q4
        cases b with
        | false =>
          obtain ⟨a1, a2, a3⟩ := stay (g3.trans g5)
          exact iteF ⟨W5, acc, as, rfl, (g2.trans g3).trans g5, k5, a1, a2, a3, r.step (g3.trans g5), by omega, q5⟩
        | true =>
          refine iteT fun s2 H2 Cc2 cl2 fp2 => ?_
          have S5 := S4.step g5 k5
          refine (he s2 H2 Cc2 cl2 fp2).run σ4 ρ4 W5 _ _ ⟨S5.ok, S5.go, S5.len, S5.sl, S5.dis, S5.gs⟩ (fun v dy W6 g6 k6 r6 q6 => ?_) q5
          obtain ⟨a1, a2, a3⟩ := stay ((g3.trans g5).trans g6)
          refine ⟨acc, a1, by rw [r.length]; omega, W6.put P (.lst (acc ++ [v])), acc ++ [v], as ++ [dy], rfl, Go.put (((g2.trans g3).trans g5).trans g6) hP, k6.put a2 a3, upd_same, a2, a3,
            (r.step ((g3.trans g5).trans g6)).append (.cons r6 .nil), by rw [List.length_append, List.length_singleton]; omega, ?_⟩
          refine lcW_mono q6 ?_
          funext ys g'
          rw [List.append_assoc]
          rfl
theorem dn_lc (hc : C.X.calm = true) (hN : C.X.N.Nodup) (hi : DI C tg iter wi) (ok : BlkOk C.X.N C.X.env.scope scope own) (hvs : ∀ j ∈ is, j ∈ own.map (·.2)) (hg : ∀ s H Cc cl fp, DG (C.bk s H scope cl Cc fp) is tg gw)
    (ht : ∀ s H Cc cl fp, DTs (C.bk s H scope cl Cc fp) ifs wt) (he : ∀ s H Cc cl fp, DE (C.bk s H scope cl Cc fp) elt we) (hs : ∀ x, foldedSetIterable iter C.X.env x = pure x := by intro _; rfl) :
    DN C (.ListComp elt [⟨tg, iter, ifs, 0⟩] scope pos) (wLc wi gw wt we (own.map (·.2))) := ⟨fun σ ρ W Q q S hQ hw =>
  tOf_of (pe_lc (wi := iOf C.X tg iter) (g := tgB C scope tg) (tt := ttB C scope ifs) (te := teB C scope elt) hc hN pi_tOf ok (fun s H Cc cl fp => ⟨fun pins s' σ H' v u Q I r h => h s H Cc cl fp pins s' u I r⟩)
    (fun s H Cc cl fp => ⟨fun pins s' σ H' Q I h => h s H Cc cl fp pins s' I⟩) (fun s H Cc cl fp => ⟨fun pins s' σ H' Q I h => h s H Cc cl fp pins s' I⟩) hs) (lc_run ⟨hi.run⟩ hvs hg ht he S hQ hw)⟩
end

abbrev AW (M : Ghost) := DEnv → M.G → (List D → M.G → Prop) → Prop
def aOf (X : Cx) (es : List Expr) : TA := fun σ H Q => ∀ (pos : Pos) (pins : List (Addr × Obj)) (s : Shared), Inv X pins σ H s → wpAny (model X.prog X.w) X.A (spliced (backTo pos (starEach es X.env))) (AP X pins σ Q) X.xe s
theorem pa_tOf {X : Cx} {es : List Expr} : PA X es (aOf X es) := ⟨fun pos pins s _ _ _ I h => h pos pins s I⟩
theorem aOf_of {X : Cx} {es : List Expr} {t : TA} (h : PA X es t) {H : Hp} {Q : List V → Hp → Prop} (q : t σ H Q) : aOf X es σ H Q := fun pos pins s I => h.run pos pins s σ H Q I q
structure DA (C : Ct M) (es : List Expr) (w : AW M) : Prop where
  run : ∀ (σ : L2.St) (ρ : DEnv) (W : Wd M) (Q : List V → Hp → Prop) (q : List D → M.G → Prop), Sat C σ ρ W → (∀ vs ds W', Go W W' → Wok C.X.K W' → RpA C.X.K W'.F W'.R vs ds → q ds W'.g → Q vs W'.H) → w ρ W.g q → aOf C.X es σ W.H Q
structure DAP (C : Ct M) (es : List Expr) (w : AW M) : Prop where
  run : ∀ (σ : L2.St) (ρ : DEnv) (W : Wd M) (Q : List V → Hp → Prop) (q : List D → M.G → Prop), Sat C σ ρ W → (∀ vs ds W', Go W W' → Wok C.X.K W' → Paired (RdP C.X.K W') vs ds → q ds W'.g → Q vs W'.H) → w ρ W.g q → aOf C.X es σ W.H Q
@[simp] def wANil : AW M := fun _ g q => q [] g
@[simp] def wACons (w : EW M) (u : AW M) : AW M := fun ρ g q => w ρ g fun d g1 => u ρ g1 fun ds g2 => q (d :: ds) g2
variable {wa : AW M}
theorem da_nil : DA C [] wANil := ⟨fun σ ρ W Q q S hQ hw => aOf_of pa_nil (hQ [] [] W (Go.refl W) S.ok .nil hw)⟩
theorem da_cons (he : DE C e we) (hr : DA C es wa) (hs : starEach (e :: es) C.X.env = (false, eval e C.X.env) :: starEach es C.X.env := by rfl) : DA C (e :: es) (wACons we wa) := ⟨fun σ ρ W Q q S hQ hw =>
  aOf_of (pa_cons pe_tOf pa_tOf hs) (he.run σ ρ W _ _ S (fun v d W1 g1 k1 r1 q1 => hr.run σ ρ W1 _ _ (S.step g1 k1) (fun vs ds W2 g2 k2 r2 q2 => hQ (v :: vs) (d :: ds) W2 (g1.trans g2) k2 (.cons (r1.step g2) r2) q2) q1) hw)⟩
theorem dap_nil : DAP C [] wANil := ⟨fun σ ρ W Q q S hQ hw => aOf_of pa_nil (hQ [] [] W (Go.refl W) S.ok .nil hw)⟩
theorem dap_cons (he : DP C e we) (hr : DAP C es wa) (hs : starEach (e :: es) C.X.env = (false, eval e C.X.env) :: starEach es C.X.env := by rfl) : DAP C (e :: es) (wACons we wa) := ⟨fun σ ρ W Q q S hQ hw =>
  aOf_of (pa_cons pe_tOf pa_tOf hs) (he.run σ ρ W _ _ S (fun v d W1 g1 k1 r1 q1 => hr.run σ ρ W1 _ _ (S.step g1 k1) (fun vs ds W2 g2 k2 r2 q2 => hQ (v :: vs) (d :: ds) W2 (g1.trans g2) k2 (.cons (r1.step g2) r2) q2) q1) hw)⟩

@[simp] def wTup (wa : AW M) : EW M := fun ρ g q => wa ρ g fun ds g' => ds.length ≤ sizeLine ∧ q (.tup ds) g'
theorem de_tup {kk : Nat} (ha : DA C es wa) : DE C (.Tuple es kk pos) (wTup wa) := ⟨fun σ ρ W Q q S hQ hw =>
  tOf_of (pe_tup pa_tOf) (ha.run σ ρ W _ _ S (fun vs ds W1 g1 k1 r1 q1 => ⟨by rw [r1.length]; exact q1.1, fun p hp => hQ (.ref p) (.tup ds) (W1.lay p (.tup vs)) (g1.trans (Go.lay k1 hp)) (k1.lay hp) (.tup (.of upd_same) (r1.mono (same_new (k1.noF hp)) fun _ _ z => z)) q1.2⟩) hw)⟩
@[simp] def wLst (wa : AW M) : NW M := fun ρ g q => wa ρ g fun ds g' => ds.length ≤ sizeLine ∧ q ds g'
theorem dn_lst (ha : DA C es wa) : DN C (.List es pos) (wLst wa) := ⟨fun σ ρ W Q q S hQ hw =>
  tOf_of (pe_lst pa_tOf) (ha.run σ ρ W _ _ S (fun vs ds W1 g1 k1 r1 q1 => ⟨by rw [r1.length]; exact q1.1, fun p hp => hQ p vs ds (W1.new p (.lst vs)) (g1.trans (Go.new k1 hp)) (k1.new hp) upd_same (k1.noF hp) (k1.noR hp) (by
    cases z : W.H p with
    | none => rfl
    | some o => exact absurd hp (g1.live p (by rw [z]; simp))) r1 q1.2⟩) hw)⟩

abbrev DSp (M : Ghost) := List D → M.G → (D → M.G → Prop) → (Exn → M.G → Prop) → Prop
/-- an exception by its class's name and its fields -/
def ExR (K : PySem.W.Frag) (W : Wd M) (x : Exn) (cls : Value) (d : Option Addr) : Prop :=
  PySem.W.nsIn K mainGlobals x.cls = some (some cls) ∧ (∃ C : Addr, cls = .ref C) ∧ ((x.ns = [] ∧ x.ds = [] ∧ d = none) ∨ ∃ dd vs, d = some dd ∧ W.F dd = some (.xd (x.ns.zip vs)) ∧ x.ns.length = vs.length ∧ RpA K W.F W.R vs x.ds)
def EXk (K : PySem.W.Frag) (W0 : Wd M) (ex : Exn → M.G → Prop) : XK := fun cls d H => ∃ x W', W'.H = H ∧ Go W0 W' ∧ Wok K W' ∧ ExR K W' x cls d ∧ ex x W'.g
/-- nothing is handled, or an exception that stands frozen and whose context is None -/
def HotF (A : Around) (F : Hp) : Prop := A.handled = none ∨ ∃ (a : Addr) (oe : Obj) (fv : Array Value), A.handled = some (.ref a) ∧ F a = some (.frz oe exU) ∧ oe.data = .fields fv ∧ fv[2]? = some .none
theorem HotF.mono {A : Around} {F F' : Hp} (h : HotF A F) (s : Same F F') : HotF A F' := by
  rcases h with h | ⟨a, oe, fv, h1, h2, h3, h4⟩
  · exact .inl h
  · exact .inr ⟨a, oe, fv, h1, s a _ h2, h3, h4⟩
def liftSp (K : PySem.W.Frag) (mg : Str → Option Value) (n : Nat) (sp : DSp M) : Sp := fun vs H Q E => ∃ (W : Wd M) (ds : List D) (q : D → M.G → Prop) (ex : Exn → M.G → Prop), W.H = H ∧ Wok K W ∧ RpA K W.F W.R vs ds ∧ ds.length = n ∧ sp ds W.g q ex ∧
  (∀ v d W', Go W W' → Wok K W' → Rp K W'.F W'.R v d → q d W'.g → Q v W'.H) ∧ ∀ cls d H', EXk K W ex cls d H' → E cls d H'
def liftSpH (K : PySem.W.Frag) (mg : Str → Option Value) (n : Nat) (sp : DSp M) (A : Around) : Sp := fun vs H Q E => ∃ (W : Wd M) (ds : List D) (q : D → M.G → Prop) (ex : Exn → M.G → Prop), W.H = H ∧ Wok K W ∧ RpA K W.F W.R vs ds ∧ ds.length = n ∧ sp ds W.g q ex ∧
  ((∀ v d W', Go W W' → Wok K W' → Rp K W'.F W'.R v d → q d W'.g → Q v W'.H) ∧ ∀ cls d H', EXk K W ex cls d H' → E cls d H') ∧ HotF A W.F
/-- what leaves the code is what is wished of exceptions, at the slots as they stand -/
def EXs (C : Ct M) (σ : L2.St) : XK := fun cls d H => ∃ x ρ W', W'.H = H ∧ Sat C σ ρ W' ∧ ExR C.X.K W' x cls d ∧ C.EX x ρ W'.g
def TakesD (C : Ct M) : Prop := L2N.Takes C.X fun cls d σ H => EXs C σ cls d H
abbrev xno : Exn → DEnv → M.G → Prop := fun _ _ _ => False
abbrev xk (ex : Exn → M.G → Prop) : Exn → DEnv → M.G → Prop := fun x _ g => ex x g
theorem takesD_blk {s : Shared} {H : Hp} {scope : Scope} {cenv : Env} {fp : List Addr} : TakesD (C.blk s H scope cenv fp) := fun u s' x => by
  obtain ⟨_, _, _, _, _, _, _, _, _, _, _, _, _, _, _, _, z⟩ := x
  obtain ⟨_, _, _, _, _, _, w⟩ := z
  exact w.elim
theorem ExR.step {K : PySem.W.Frag} {x : Exn} {cls : Value} {d : Option Addr} (h : ExR K W x cls d) (g : Go W W1) : ExR K W1 x cls d := by
  obtain ⟨h1, h2, h3⟩ := h
  refine ⟨h1, h2, ?_⟩
  rcases h3 with h3 | ⟨dd, vs, e1, e2, e3, e4⟩
  · exact .inl h3
  · exact .inr ⟨dd, vs, e1, g.sub _ _ e2, e3, e4.step g⟩
/-- a call's exception is the caller's -/
theorem exs_of {EX : Exn → M.G → Prop} {cls : Value} {d : Option Addr} {H : Hp} (S : Sat C σ ρ W) (hx : ∀ x g, EX x g → C.EX x ρ g) (h : EXk C.X.K W EX cls d H) : EXs C σ cls d H := by
  obtain ⟨x, W', h1, h2, h3, h4, h5⟩ := h
  exact ⟨x, ρ, W', h1, S.step h2 h3, h4, hx _ _ h5⟩
@[simp] def startD (N : List Str) (ds : List D) : DEnv := ds.map .im ++ List.replicate (N.length - ds.length) .no
theorem sat_start {N : List Str} {vs : List V} {ds : List D} (ok : Wok C.X.K W) (h0 : C.W0 = W) (hB : C.B = W) (r : RpA C.X.K W.F W.R vs ds) : Sat C (L2.start N vs) (startD N ds) W := by
  have hg : Gs C.B W := by rw [hB]; exact Gs.refl _
  subst h0
  refine ⟨ok, Go.refl _, ?_, fun i s e => ?_, fun i j s1 s2 p e1 e2 w1 w2 e3 e4 => ?_, hg⟩
  · unfold L2.start startD
    rw [List.length_append, List.length_append, List.length_map, List.length_map, List.length_replicate, List.length_replicate, r.length]
  · unfold startD at e
    by_cases hi : i < ds.length
    · rw [List.getElem?_append_left (by rw [List.length_map]; exact hi), List.getElem?_map] at e
      cases hd : ds[i]? with
      | none => rw [hd] at e; cases e
      | some d =>
        rw [hd] at e
        cases e
        obtain ⟨v, h1, h2⟩ := r.get' hd
        refine ⟨some v, ?_, v, rfl, h2⟩
        unfold L2.start
        rw [List.getElem?_append_left (by rw [List.length_map, r.length]; exact hi), List.getElem?_map, h1]
        rfl
    · rw [List.getElem?_append_right (by rw [List.length_map]; omega), List.length_map] at e
      obtain ⟨hlt, e'⟩ := List.getElem?_eq_some_iff.mp e
      rw [List.getElem_replicate] at e'
      subst e'
      rw [List.length_replicate] at hlt
      refine ⟨none, ?_, trivial⟩
      unfold L2.start
      rw [List.getElem?_append_right (by rw [List.length_map, r.length]; omega), List.length_map, r.length, List.getElem?_replicate, if_pos hlt]
  · exfalso
    unfold startD at e1
    by_cases hi : i < ds.length
    · rw [List.getElem?_append_left (by rw [List.length_map]; exact hi), List.getElem?_map] at e1
      cases hd : ds[i]? with
      | none => rw [hd] at e1; cases e1
      | some d => rw [hd] at e1; cases e1; cases w1
    · rw [List.getElem?_append_right (by rw [List.length_map]; omega), List.length_map] at e1
      obtain ⟨hlt, e'⟩ := List.getElem?_eq_some_iff.mp e1
      rw [List.getElem_replicate] at e'
      subst e'
      cases w1
end
end DL
set_option Elab.async false
set_option linter.all false
set_option maxRecDepth 100000
set_option maxHeartbeats 1000000
namespace DL
open PySem L2
/-- as the layer's promise of a def, under no guard -/
structure FnG (P : Program) (w : World) (K : PySem.W.Frag) (mg : Str → Option Value) (base : Heap) (k : Nat) (f : Addr) (fd : FuncData) (ps : List Str) (sp : Sp) : Prop where
  len : ∀ xs H Q E, sp xs H Q E → xs.length = ps.length
  run : ∀ (A : Around) (fr : List Env) (s : Shared) (H : Hp) (as : Args) (us : List Value) (xs : List V) (Q : VK) (E : XK), Room k A → A.guards = some [] →
    Env0 P w K mg base A fr s H → BindsTo s fd as (ps.zip us) → Vals xs us → sp xs H Q E → codeAny (model P w) A (.call (.ref f) as) (CR (L2N.CX P w) fr P w H s Q E) s
section
variable {P : Program} {w : World} {K : PySem.W.Frag} {mg : Str → Option Value} {base : Heap}
theorem FnG.mono {j k : Nat} {f : Addr} {fd : FuncData} {ps : List Str} {sp : Sp} (F : FnG P w K mg base j f fd ps sp) (h : j ≤ k) : FnG P w K mg base k f fd ps sp :=
  ⟨F.len, fun A fr s H as us xs Q E room => F.run A fr s H as us xs Q E (room.mono h)⟩
theorem fng_of {x qual : Str} {st : Stmt} {f : Addr} {fd : FuncData} {N ps : List Str} {k : Nat} {sp : Sp} (F : Fun K x qual st f fd) (Sc : FnScope N ps (defScope st)) (len : ∀ xs H Q E, sp xs H Q E → xs.length = ps.length)
    (hb : ∀ (cdv : Value) (A : Around) (fr : List Env) (s : Shared) (H : Hp) (xs : List V) (Q : VK) (E : XK), Room k (A.deeper (PyProof.Rows.envOfC qual (defScope st) s.heap.objs.size f cdv)) → A.guards = some [] → sp xs H Q E →
      ∃ t, PSs (cxOf (L2N.CX P w) P w K mg base N qual (defScope st) f cdv A fr s H E) (defBody st) t ∧ t { nx := fun _ H' => Q .non H', rt := Q } (L2.start N xs) H) :
    FnG P w K mg base (k + 1) f fd ps sp := by
  obtain ⟨oc, od, kV, doc, pm, an, cdv, ct, osl, rfl, lk, hcd⟩ := F.ex
  refine ⟨len, fun A fr s H as us xs Q E room gd e0 bd rel want => ?_⟩
  have hlen := len _ _ _ _ want
  have kin : K.In s.heap := e0.mod.kin.keeps fun b o e => (e0.bs b o e).1
  have hk : ((ps.zip us).all fun y => (defScope st).names.lookup y.1 == some .local || (defScope st).names.lookup y.1 == some .cell) = true := by
    rw [List.all_eq_true]
    rintro ⟨n, v⟩ hm
    rcases Sc.par n (List.of_mem_zip hm).1 with q | q
    · rw [q]; rfl
    · rw [q]; rfl
  refine Att.call_fn kin (e0.mod.nolimit.keeps fun b o e => (e0.bs b o e).1) lk hcd room.depth bd hk (fun s1 inC => ?_) Sc.co Sc.gen Sc.kind
  obtain ⟨t, ht, hq⟩ := hb cdv A fr s H xs Q E (room.deeper _) gd want
  have inv := inv_start (CX := L2N.CX P w) (N := N) (E := E) Sc room.hd e0 hlen rel inC
  refine wpAny_mono (ht.run [] s1 _ H _ inv hq) (fun fl s2 hs => ?_) fun e s2 hs => hs
  have back : ∀ {σ2 : L2.St} {H2 : Hp} {v : V} {u : Value}, Inv (cxOf (L2N.CX P w) P w K mg base N qual (defScope st) f cdv A fr s H E) [] σ2 H2 s2 → RelV v u → Q v H2 → CE fr P w H s Q u s2 :=
    fun {σ2 H2 v u} J rv q => ⟨v, H2, J.os, J.bare, J.base, J.hok, rv, q⟩
  match fl, hs with
  | .ret u, ⟨v, σ2, H2, J, rv, q⟩ => exact back J rv q
  | .next, ⟨σ2, H2, J, q⟩ => exact back (v := .non) (u := .none) J rfl q
  | .brk, ⟨_, _, _, q⟩ => exact q.elim
  | .cont, ⟨_, _, _, q⟩ => exact q.elim
end
section
variable {X : Cx} {k : Nat} {f : Addr} {fd : FuncData} {ps : List Str} {sp : Sp} {E : L2.St → XK} {x : Str} {p pos : Pos} {e : Expr} {es : List Expr} {t : TA}
theorem run_fng {pins : List (Addr × Obj)} {σ : L2.St} {H : Hp} {s : Shared} {Q : VK} {us : List Value} {xs : List V} (F : FnG X.prog X.w X.K X.mg X.base k f fd ps sp) (gd : X.A.guards = some []) (room : Room k X.A) (hb : Binds X.K fd ps [])
    (hx : ∀ σ, PassesAt (L2N.CX X.prog X.w) X σ (E σ)) (I : Inv X pins σ H s) (rel : Vals xs us) (want : sp xs H Q (E σ)) : wpAny (model X.prog X.w) X.A (call (.ref f) us) (EP X pins σ Q) X.xe s := by
  have hl : (us ++ []).length = ps.length := by rw [List.append_nil, ← rel.length]; exact F.len _ _ _ _ want
  have bd := hb s us I.kIn hl
  rw [List.append_nil] at bd
  refine wpAny_call (codeAny_mono (F.run X.A X.stack s H ⟨us, []⟩ us xs Q (E σ) room gd I.env0 bd rel want) fun r s2 hq => ?_)
  match r, hq with
  | .error er, hq => exact hx σ pins H s er s2 I hq
  | .ok (.ret u), hq => exact I.after hq
  | .ok .next, hq => exact False.elim hq
  | .ok .brk, hq => exact False.elim hq
  | .ok .cont, hq => exact False.elim hq
def tCallG (sp : Sp) (E : L2.St → XK) (t : TA) : TE := fun σ H Q => t σ H fun xs H1 => sp xs H1 Q (E σ)
theorem pe_callG (F : FnG X.prog X.w X.K X.mg X.base k f fd ps sp) (gd : X.A.guards = some []) (room : Room k X.A) (hg : Gl X x) (hm : X.mg x = some (.ref f)) (hk : PySem.W.keepIn X.K (.ref f) = true) (hb : Binds X.K fd ps []) (hx : ∀ σ, PassesAt (L2N.CX X.prog X.w) X σ (E σ))
    (ha : PA X (e :: es) t) (hdb : (x == ("__debug__" : Str)) = false := by decide) (he : starEach (e :: es) X.env = (false, eval e X.env) :: starEach es X.env := by rfl) (hpl : (backTo pos (starEach es X.env)).any (·.1) = false := by rfl) :
    PE X (.Call (.Name x p) (e :: es) [] pos) (tCallG sp E t) := ⟨fun pins s σ H Q I h =>
  wpAny_Call_Name_kw (ld_glob I hg hm (PySem.W.callWith_K (h₀ := X.base) I.ok.mod.kin hk (thn (ha.run pos pins s σ H _ I h) fun us s1 ⟨xs, H1, I1, rel, want⟩ => ⟨I1.kIn, run_fng F gd room hb hx I1 rel want⟩) he hpl) hdb)⟩
end
theorem _root_.L2H.RoomH.units {k : Nat} {A : Around} (r : L2H.RoomH k A) : A.units + 64 < cLine := by have := r.un; omega

open L2H in
structure FnQ (P : Program) (w : World) (K : PySem.W.Frag) (mg : Str → Option Value) (base : Heap) (k : Nat) (f : Addr) (fd : FuncData) (ps : List Str) (sp : Around → Sp) : Prop where
  len : ∀ A xs H Q E, sp A xs H Q E → xs.length = ps.length
  run : ∀ (A : Around) (fr : List Env) (s : Shared) (H : Hp) (as : Args) (us : List Value) (xs : List V) (Q : VK) (E : XK), RoomH k A → A.guards = some [] →
    Env0 P w K mg base A fr s H → BindsTo s fd as (ps.zip us) → Vals xs us → sp A xs H Q E → codeAny (model P w) A (.call (.ref f) as) (CR (L2N.CX P w) fr P w H s Q E) s
section
open L2H
variable {P : Program} {w : World} {K : PySem.W.Frag} {mg : Str → Option Value} {base : Heap}
theorem FnQ.g {k : Nat} {f : Addr} {fd : FuncData} {ps : List Str} {sp : Around → Sp} {sp' : Sp} (F : FnQ P w K mg base k f fd ps sp) (hl : ∀ xs H Q E, sp' xs H Q E → xs.length = ps.length) (h : ∀ A xs H Q E, A.handled = none → sp' xs H Q E → sp A xs H Q E) : FnG P w K mg base k f fd ps sp' :=
  ⟨hl, fun A fr s H as us xs Q E room gd e0 bd rel want => F.run A fr s H as us xs Q E (roomH_of room) gd e0 bd rel (h A xs H Q E room.hd want)⟩
end
section
open L2H
variable {X : Cx} {k : Nat} {f : Addr} {fd : FuncData} {ps : List Str} {sp : Around → Sp} {E : L2.St → XK} {x : Str} {p pos : Pos} {e : Expr} {es : List Expr} {t : TA}
end
end DL
set_option Elab.async false
set_option linter.all false
set_option maxRecDepth 100000
set_option maxHeartbeats 1000000
namespace DL
open PySem L2
def S (x : List Nat) : Str := ⟨x.toArray⟩
theorem S_list (x : List Nat) : (S x).cps.toList = x := by simp [S]
theorem S_of (z : Str) : S z.cps.toList = z := by simp [S]
theorem str_len (z : Str) : z.length = z.cps.toList.length := by simp [Str.length]
theorem str_app (a b : Str) : (a ++ b).cps.toList = a.cps.toList ++ b.cps.toList := PySem.W.KT.app_list a b
section
variable {M : Ghost} {C : Ct M} {W W1 W2 W' : Wd M} {σ : L2.St} {ρ : DEnv} {e : Expr} {es : List Expr} {we : EW M} {pos : Pos}
theorem rp_str {K : PySem.W.Frag} {F : Hp} {R : List Addr} (z : Str) : Rp K F R (.str z) (.str z.cps.toList) := .str z _ rfl
theorem rp_strS {K : PySem.W.Frag} {F : Hp} {R : List Addr} (z : Str) {x : List Nat} (h : z.cps.toList = x) : Rp K F R (.str z) (.str x) := .str z _ h

def oAdd : D → D → (D → Prop) → Prop
  | .int i, .int j, q => q (.int (i + j))
  | .int i, .bl k, q => q (.int (i + PyProof.Rows.b2i k))
  | .str x, .str y, q => x.length + y.length ≤ sizeLine ∧ q (.str (x ++ y))
  | .tup x, .tup y, q => x.length + y.length ≤ sizeLine ∧ q (.tup (x ++ y))
  | _, _, _ => False
theorem opd_add : OpD C (binaryOp .Add) oAdd := by
  refine ⟨_, ((op_add.or op_add_ib).or op_add_str).or op_catA, fun W x y d e Q q k r1 r2 hQ h => ?_⟩
  cases d with
  | int i =>
    cases e with
    | int j => exact .inl (.inl (.inl ⟨i, j, r1.int_inv, r2.int_inv, hQ _ _ W (Go.refl W) k rfl (.int _) h⟩))
    | bl b => exact .inl (.inl (.inr ⟨i, b, r1.int_inv, r2.bl_inv, hQ _ _ W (Go.refl W) k rfl (.int _) h⟩))
    | _ => exact h.elim
  | str a =>
    cases e with
    | str b =>
      obtain ⟨z, rfl, rfl⟩ := r1.str_inv
      obtain ⟨z2, rfl, rfl⟩ := r2.str_inv
      exact .inl (.inr ⟨z, z2, rfl, rfl, by rw [str_len, str_len]; exact h.1, hQ _ _ W (Go.refl W) k rfl (rp_strS _ (str_app z z2)) h.2⟩)
    | _ => exact h.elim
  | tup a =>
    cases e with
    | tup b =>
      obtain ⟨p, vs, rfl, hs, ra⟩ := r1.tup_inv
      obtain ⟨p2, vs2, rfl, hs2, rb⟩ := r2.tup_inv
      refine .inr ⟨p, p2, vs, vs2, rfl, rfl, same_tup k.sub hs, same_tup k.sub hs2, by rw [ra.length, rb.length]; exact h.1, fun e => ?_, fun _ e => ?_, fun _ _ l hl => ?_⟩
      · subst e
        cases ra
        exact hQ _ _ W (Go.refl W) k rfl (.tup hs2 rb) h.2
      · subst e
        cases rb
        have hq := h.2
        rw [List.append_nil] at hq
        exact hQ _ _ W (Go.refl W) k rfl (.tup hs ra) hq
      · exact hQ _ _ (W.lay l (.tup (vs ++ vs2))) (Go.lay k hl) (k.lay hl) rfl (.tup (.of upd_same) ((ra.append rb).mono (same_new (k.noF hl)) fun _ _ z => z)) h.2
    | _ => exact h.elim
  | _ => exact h.elim
def oCat : D → D → (List D → Prop) → Prop
  | .lst x, .lst y, q => x.length + y.length ≤ sizeLine ∧ q (x ++ y)
  | _, _, _ => False
theorem opn_cat : OpN C (binaryOp .Add) oCat := by
  refine ⟨_, op_cat, fun W x y d e Q q k r1 r2 hQ h => ?_⟩
  cases d with
  | lst a =>
    cases e with
    | lst b =>
      obtain ⟨p, vs, rfl, hp, np, ra⟩ := r1.lst_inv k
      obtain ⟨p2, vs2, rfl, hp2, np2, rb⟩ := r2.lst_inv k
      exact ⟨p, p2, vs, vs2, rfl, rfl, hp, hp2, by rw [ra.length, rb.length]; exact h.1, fun l hl => hQ l _ _ (W.new l (.lst (vs ++ vs2))) (Go.new k hl) (k.new hl) rfl upd_same (k.noF hl) (k.noR hl) hl (ra.append rb) h.2⟩
    | _ => exact h.elim
  | _ => exact h.elim
def oSub : D → D → (D → Prop) → Prop
  | .int i, .int j, q => q (.int (i - j))
  | _, _, _ => False
theorem opd_sub : OpD C (binaryOp .Sub) oSub := by
  refine ⟨_, op_sub, fun W x y d e Q q k r1 r2 hQ h => ?_⟩
  cases d with
  | int i =>
    cases e with
    | int j => exact ⟨i, j, r1.int_inv, r2.int_inv, hQ _ _ W (Go.refl W) k rfl (.int _) h⟩
    | _ => exact h.elim
  | _ => exact h.elim
def oMul : D → D → (D → Prop) → Prop
  | .int i, .int j, q => CMul i j ∧ q (.int (i * j))
  | .str x, .int j, q => 0 ≤ j ∧ x.length * j.toNat ≤ sizeLine ∧ j ≤ 2 ^ 32 ∧ q (.str (List.replicate j.toNat x).flatten)
  | _, _, _ => False
def oRep : D → D → (List D → Prop) → Prop
  | .lst x, .int j, q => -(2 ^ 63) ≤ j ∧ j < 2 ^ 63 ∧ x.length * j.toNat ≤ sizeLine ∧ q (List.replicate j.toNat x).flatten
  | _, _, _ => False
theorem opn_rep : OpN C (binaryOp .Mult) oRep := by
  refine ⟨_, op_rep, fun W x y d e Q q k r1 r2 hQ h => ?_⟩
  cases d with
  | lst a =>
    cases e with
    | int j =>
      obtain ⟨p, vs, rfl, hp, np, ra⟩ := r1.lst_inv k
      exact ⟨p, j, vs, rfl, r2.int_inv, hp, h.1, h.2.1, by rw [ra.length]; exact h.2.2.1, fun l hl => hQ l _ _ (W.new l (.lst _)) (Go.new k hl) (k.new hl) rfl upd_same (k.noF hl) (k.noR hl) hl (ra.flat _) h.2.2.2⟩
    | _ => exact h.elim
  | _ => exact h.elim
def oDiv : D → D → (D → Prop) → Prop := fun d e q => match d, e with | .int i, .int j => CDiv i j ∧ q (.int (i / j)) | _, _ => False
def oMod : D → D → (D → Prop) → Prop := fun d e q => match d, e with | .int i, .int j => 0 < j ∧ q (.int (i % j)) | _, _ => False
def oPow : D → D → (D → Prop) → Prop := fun d e q => match d, e with | .int i, .int j => CPow i j ∧ q (.int (i ^ j.toNat)) | _, _ => False
def asI (d : D) (q : Int → Prop) : Prop := match d with
  | .int i => q i
  | _ => False
@[simp] def wNeg (w : EW M) : EW M := fun ρ g q => w ρ g fun d g' => asI d fun i => q (.int (-i)) g'
theorem de_neg {a : Expr} {wa : EW M} (ha : DE C a wa) : DE C (.UnaryOp .USub a pos) (wNeg wa) := ⟨fun σ ρ W Q q S hQ hw => tOf_of (pe_un un_neg pe_tOf) (ha.run σ ρ W _ _ S (fun v d W' g k r q1 => by
  cases d with
  | int i => exact ⟨i, by cases r; rfl, hQ _ _ W' g k (.int _) q1⟩
  | _ => exact q1.elim) hw)⟩

def oLt : D → D → (D → Prop) → Prop
  | .int i, .int j, q => q (.bl (decide (i < j)))
  | .str x, .str y, q => q (.bl (decide (x < y)))
  | _, _, _ => False
def oLe : D → D → (D → Prop) → Prop
  | .int i, .int j, q => q (.bl (decide (i ≤ j)))
  | .str x, .str y, q => q (.bl (!decide (y < x)))
  | _, _, _ => False
def oGt : D → D → (D → Prop) → Prop
  | .int i, .int j, q => q (.bl (decide (j < i)))
  | .str x, .str y, q => q (.bl (decide (y < x)))
  | _, _, _ => False
def oGe : D → D → (D → Prop) → Prop
  | .int i, .int j, q => q (.bl (decide (j ≤ i)))
  | .str x, .str y, q => q (.bl (!decide (x < y)))
  | _, _, _ => False
theorem opd_is {f : Value → Value → Sem Value} {gi : Int → Int → Bool} {gs : List Nat → List Nat → Bool} (h1 : OpR C.X f (rI0 fun i j => .bl (gi i j)))
    (h2 : OpR C.X f (fun x y H Q => ∃ i j, x = .str i ∧ y = .str j ∧ Q (.bl (gs i.cps.toList j.cps.toList)) H)) :
    OpD C f (fun d e q => match d, e with | .int i, .int j => q (.bl (gi i j)) | .str x, .str y => q (.bl (gs x y)) | _, _ => False) := by
  refine ⟨_, h1.or h2, fun W x y d e Q q k r1 r2 hQ h => ?_⟩
  cases d with
  | int i =>
    cases e with
    | int j => exact .inl ⟨i, j, r1.int_inv, r2.int_inv, hQ _ _ W (Go.refl W) k rfl (.bl _) h⟩
    | _ => exact h.elim
  | str a =>
    cases e with
    | str b =>
      obtain ⟨z, rfl, rfl⟩ := r1.str_inv
      obtain ⟨z2, rfl, rfl⟩ := r2.str_inv
      exact .inr ⟨z, z2, rfl, rfl, hQ _ _ W (Go.refl W) k rfl (.bl _) h⟩
    | _ => exact h.elim
  | _ => exact h.elim
theorem OpD.of_eq {f : Value → Value → Sem Value} {r r' : D → D → (D → Prop) → Prop} (h : OpD C f r) (e : ∀ x y q, r' x y q → r x y q) : OpD C f r' := by
  obtain ⟨rr, h1, h2⟩ := h.run
  exact ⟨rr, h1, fun W x y d e' Q q k r1 r2 hQ hr => h2 W x y d e' Q q k r1 r2 hQ (e _ _ _ hr)⟩
theorem opd_gt : OpD C (compareOp .Gt) oGt := (opd_is (gi := fun i j => decide (j < i)) (gs := fun x y => decide (y < x)) op_gt op_gt_str).of_eq fun x y q h => by cases x <;> cases y <;> exact h
mutual
def py : D → PyData
  | .non => .none
  | .bl b => .bool b
  | .int i => .int i
  | .str x => .str (S x)
  | .lst xs => .list (pyA xs)
  | .tup xs => .tuple (pyA xs)
  | .dic kvs => .dict (pyK kvs)
  | .ob _ => .none
  | .exn _ _ _ => .none
  | .tx _ => .none
  | .cl _ => .none
def pyA : List D → List PyData
  | [] => []
  | d :: ds => py d :: pyA ds
def pyK : List (Key × D) → List (PyData × PyData)
  | [] => []
  | (k, d) :: r => ((match k with | .inl i => .int i | .inr x => .str x), py d) :: pyK r
end
mutual
def pln : D → Bool
  | .lst xs => plnA xs
  | .tup xs => plnA xs
  | .dic kvs => plnK kvs
  | .ob _ => false
  | .exn _ _ _ => false
  | .tx _ => false
  | .cl _ => false
  | .non => true
  | .bl _ => true
  | .int _ => true
  | .str _ => true
def plnA : List D → Bool
  | [] => true
  | d :: ds => pln d && plnA ds
def plnK : List (Key × D) → Bool
  | [] => true
  | (_, d) :: r => pln d && plnK r
end
section
variable {K : PySem.W.Frag} {F H : Hp} {R : List Addr}
mutual
theorem rp_dp (s : Same F H) : ∀ {v : V} {d : D}, Rp K F R v d → (py d).canLay0 = true → pln d = true → Dp K H v (py d)
  | _, _, .non, _, _ => .non
  | _, _, .bl b, _, _ => .bl b
  | _, _, .int i, _, _ => .int i
  | _, _, .str z x h, _, _ => by subst h; rw [show py (.str z.cps.toList) = .str (S z.cps.toList) from rfl, S_of]; exact .str z
  | _, .lst ds, .lst h q, hc, hp => .lst (.of (s _ _ h)) (rpA_dp s q (by simpa [py, PyData.canLay0] using hc) (by simpa [pln] using hp))
  | _, .tup ds, .tup h q, hc, hp => .tup (same_tup s h) (rpA_dp s q (by simpa [py, PyData.canLay0] using hc) (by simpa [pln] using hp))
  | _, .dic ds, .dic h q, hc, _ => by simp [py, PyData.canLay0] at hc
  | _, .ob k, .ob h, _, hp => by simp [pln] at hp
  | _, .exn _ _ _, .exn0 _ _ _ _, _, hp => by simp [pln] at hp
  | _, .exn _ _ _, .exn _ _ _ _ _ _ _, _, hp => by simp [pln] at hp
  | _, .tx _, .tx _ _ _ _, _, hp => by simp [pln] at hp
  | _, .cl _, .cl _, _, hp => by simp [pln] at hp
theorem rpA_dp (s : Same F H) : ∀ {vs : List V} {ds : List D}, RpA K F R vs ds → PyData.canLayAll0 (pyA ds) = true → plnA ds = true → DpAll K H vs (pyA ds)
  | _, _, .nil, _, _ => .nil
  | _, d :: ds, .cons r t, hc, hp => by
    have h1 : (py d).canLay0 = true ∧ PyData.canLayAll0 (pyA ds) = true := by simpa [pyA, PyData.canLayAll0] using hc
    have h2 : pln d = true ∧ plnA ds = true := by simpa [plnA] using hp
    exact .cons (rp_dp s r h1.1 h2.1) (rpA_dp s t h1.2 h2.2)
end
end
theorem rdp_dp {K : PySem.W.Frag} (k : Wok K W) {v : V} {d : D} (h : RdP K W v d) (hc : (py d).canLay0 = true) (hp : pln d = true) : Dp K W.H v (py d) := by
  rcases h with h | ⟨p, vs, ds, rfl, rfl, h, n, r⟩
  · exact rp_dp k.sub h hc hp
  · exact .lst (.of h) (rpA_dp k.sub r (by simpa [py, PyData.canLay0] using hc) (by simpa [pln] using hp))
/-- == of data -/
def deq (d e : D) : Bool := PyData.eqv (py d) (py e)
def shp (d : D) : Bool := SeqAt.shaped (py d) && pln d
def oEqB (f : Bool → Bool) : D → D → (D → Prop) → Prop
  | .int i, .int j, q => q (.bl (f (decide (i = j))))
  | .str x, .str y, q => q (.bl (f (decide (x = y))))
  | .bl x, .bl y, q => q (.bl (f (decide (x = y))))
  | d, e, q => shp d = true ∧ shp e = true ∧ q (.bl (f (deq d e)))
def oEq := oEqB id
def oNe := oEqB not
theorem str_dec (z z2 : Str) : decide (V.str z = V.str z2) = decide (z.cps.toList = z2.cps.toList) := by
  refine decide_eq_decide.mpr ⟨fun h => by cases h; rfl, fun h => ?_⟩
  obtain ⟨a⟩ := z
  obtain ⟨b⟩ := z2
  rw [show a = b from Array.toList_inj.mp h]
theorem oEqB_cases {f : Bool → Bool} {d e : D} {q : D → Prop} (h : oEqB f d e q) : (∃ i j, d = .int i ∧ e = .int j ∧ q (.bl (f (decide (i = j))))) ∨ (∃ i j, d = .str i ∧ e = .str j ∧ q (.bl (f (decide (i = j))))) ∨ (∃ i j, d = .bl i ∧ e = .bl j ∧ q (.bl (f (decide (i = j))))) ∨
    (shp d = true ∧ shp e = true ∧ q (.bl (f (deq d e)))) := by
  cases d <;> cases e <;> first | exact .inl ⟨_, _, rfl, rfl, h⟩ | exact .inr (.inl ⟨_, _, rfl, rfl, h⟩) | exact .inr (.inr (.inl ⟨_, _, rfl, rfl, h⟩)) | exact .inr (.inr (.inr h))
theorem shp_and {d : D} (h : shp d = true) : SeqAt.shaped (py d) = true ∧ pln d = true := by simpa [shp] using h
theorem opd_eqB {f : Bool → Bool} {g : Value → Value → Sem Value} (h1 : OpR C.X g (fun x y H Q => scal x y = true ∧ Q (.bl (f (decide (x = y)))) H)) (h2 : OpR C.X g (fun x y H Q => ∃ d e, Dp C.X.K H x d ∧ Dp C.X.K H y e ∧ SeqAt.shaped d = true ∧ SeqAt.shaped e = true ∧ Q (.bl (f (PyData.eqv d e))) H)) :
    OpD C g (oEqB f) := by
  refine ⟨_, h1.or h2, fun W x y d e Q q k r1 r2 hQ h => ?_⟩
  rcases oEqB_cases h with ⟨i, j, rfl, rfl, h⟩ | ⟨i, j, rfl, rfl, h⟩ | ⟨i, j, rfl, rfl, h⟩ | ⟨a, b, h⟩
  · have e1 := r1.int_inv
    have e2 := r2.int_inv
    subst e1 e2
    refine .inl ⟨rfl, hQ _ _ W (Go.refl W) k rfl (.bl _) ?_⟩
    rw [dec_int, Bool.beq_eq_decide_eq]
    exact h
  · obtain ⟨z, rfl, rfl⟩ := r1.str_inv
    obtain ⟨z2, rfl, rfl⟩ := r2.str_inv
    refine .inl ⟨rfl, hQ _ _ W (Go.refl W) k rfl (.bl _) ?_⟩
    rw [str_dec]
    exact h
  · have e1 := r1.bl_inv
    have e2 := r2.bl_inv
    subst e1 e2
    refine .inl ⟨rfl, hQ _ _ W (Go.refl W) k rfl (.bl _) ?_⟩
    rw [dec_bl, Bool.beq_eq_decide_eq]
    exact h
  · obtain ⟨a1, a2⟩ := shp_and a
    obtain ⟨b1, b2⟩ := shp_and b
    exact .inr ⟨py d, py e, rdp_dp k r1 (SeqAt.canLay_of_shaped a1) a2, rdp_dp k r2 (SeqAt.canLay_of_shaped b1) b2, a1, b1, hQ _ _ W (Go.refl W) k rfl (.bl _) h⟩
theorem opd_eq (hu : C.X.A.units + 64 < cLine) : OpD C (compareOp .Eq) oEq := opd_eqB op_eq (op_eqD hu)
theorem opd_ne (hu : C.X.A.units + 64 < cLine) : OpD C (compareOp .NotEq) oNe := opd_eqB op_ne (op_neD hu)
/-- is None -/
def isN : D → Bool
  | .non => true
  | _ => false
def oIsN : D → D → (D → Prop) → Prop := fun d e q => match e with | .non => q (.bl (isN d)) | _ => False
def oNotN : D → D → (D → Prop) → Prop := fun d e q => match e with | .non => q (.bl (!isN d)) | _ => False
def oIx : D → D → (D → Prop) → Prop
  | .lst ds, .int i, q => ∃ d, atI ds i = some d ∧ q d
  | .tup ds, .int i, q => ∃ d, atI ds i = some d ∧ q d
  | .str x, .int i, q => x.length ≤ sizeLine ∧ ∃ c, atI x i = some c ∧ q (.str [c])
  | _, _, _ => False
theorem atI_get2 {K : PySem.W.Frag} {F : Hp} {R : List Addr} {vs : List V} {ds : List D} {i : Int} {d : D} (r : RpA K F R vs ds) (h : atI ds i = some d) : ∃ v, atI vs i = some v ∧ Rp K F R v d := by
  unfold atI at h ⊢
  rw [← r.length] at h
  cases hj : ixN vs.length i with
  | none => rw [hj] at h; cases h
  | some j =>
    rw [hj] at h
    exact r.get' h
variable {a b : Expr} {wa wb : EW M}
theorem de_ix (ha : DP C a wa) (hb : DP C b wb) (hs : PlainIx b) : DE C (.Subscript a b pos) (wBin oIx wa wb) := ⟨fun σ ρ W Q q S hQ hw =>
  tOf_of (pe_ix ix_seq pe_tOf pe_tOf hs) (two_run (f := fun _ _ => pure .none) ha hb S (fun W1 x y d e g k r1 r2 q1 => by
    cases d with
    | lst ds =>
      cases e with
      | int i =>
        obtain ⟨d, h1, q1⟩ := q1
        obtain ⟨p, vs, rfl, hp, np, ra⟩ := r1.lst_inv k
        obtain ⟨v, h2, h3⟩ := atI_get2 ra h1
        exact .inl ⟨p, vs, i, v, rfl, r2.int_inv, .of hp, h2, hQ v d W1 g k h3 q1⟩
      | _ => exact q1.elim
    | tup ds =>
      cases e with
      | int i =>
        obtain ⟨d, h1, q1⟩ := q1
        obtain ⟨p, vs, rfl, hp, ra⟩ := r1.tup_inv
        obtain ⟨v, h2, h3⟩ := atI_get2 ra h1
        exact .inr (.inl ⟨p, vs, i, v, rfl, r2.int_inv, same_tup k.sub hp, h2, hQ v d W1 g k h3 q1⟩)
      | _ => exact q1.elim
    | str x =>
      cases e with
      | int i =>
        obtain ⟨hz, c, h1, q1⟩ := q1
        obtain ⟨z, rfl, rfl⟩ := r1.str_inv
        exact .inr (.inr ⟨z, i, c, rfl, r2.int_inv, by rw [str_len]; exact hz, h1, hQ _ _ W1 g k (rp_strS _ rfl) q1⟩)
      | _ => exact q1.elim
    | _ => exact q1.elim) hw)⟩
abbrev OW (M : Ghost) := DEnv → M.G → (Option Int → M.G → Prop) → Prop
def oOf (X : Cx) (e : Option Expr) : TO := fun σ H Q => ∀ (pins : List (Addr × Obj)) (s : Shared), Inv X pins σ H s →
  wpAny (model X.prog X.w) X.A (evalPart e X.env) (fun u s' => ∃ o H', Inv X pins σ H' s' ∧ PySem.IsPart u o ∧ Q o H') X.xe s
theorem po_tOf {X : Cx} {e : Option Expr} : PO X e (oOf X e) := ⟨fun pins s _ _ _ I h => h pins s I⟩
structure DO (C : Ct M) (e : Option Expr) (w : OW M) : Prop where
  run : ∀ (σ : L2.St) (ρ : DEnv) (W : Wd M) (Q : Option Int → Hp → Prop) (q : Option Int → M.G → Prop), Sat C σ ρ W → (∀ o W', Go W W' → Wok C.X.K W' → q o W'.g → Q o W'.H) → w ρ W.g q → oOf C.X e σ W.H Q
@[simp] def wONone : OW M := fun _ g q => q none g
@[simp] def wOSome (w : EW M) : OW M := fun ρ g q => w ρ g fun d g' => asI d fun i => q (some i) g'
theorem do_none : DO C none wONone := ⟨fun σ ρ W Q q S hQ hw pins s I => po_none.run pins s σ W.H Q I (hQ none W (Go.refl W) S.ok hw)⟩
theorem do_some (he : DE C e we) : DO C (some e) (wOSome we) := ⟨fun σ ρ W Q q S hQ hw pins s I => (po_some pe_tOf).run pins s σ W.H Q I (he.run σ ρ W _ _ S (fun v d W' g k r q1 => by
  cases d with
  | int i => exact ⟨i, by cases r; rfl, hQ _ W' g k q1⟩
  | _ => exact q1.elim) hw)⟩
def cutL {α : Type} (xs : List α) (lo hi : Option Int) : List α := (xs.drop (HT.sIx xs.length 0 lo)).take (HT.sIx xs.length xs.length hi - HT.sIx xs.length 0 lo)
theorem RpA.cut {K : PySem.W.Frag} {F : Hp} {R : List Addr} {vs : List V} {ds : List D} (r : RpA K F R vs ds) (lo hi : Option Int) : RpA K F R (cutV vs lo hi) (cutL ds lo hi) := by
  unfold cutV cutL
  rw [r.length]
  exact (r.drop _).take _
theorem cut_all {α : Type} {xs : List α} {lo hi : Option Int} (h : HT.sIx xs.length 0 lo = 0 ∧ HT.sIx xs.length xs.length hi = xs.length) : cutL xs lo hi = xs := by
  unfold cutL
  rw [h.1, h.2]
  simp
def oSl : D → Option Int → Option Int → (D → Prop) → Prop
  | .str x, lo, hi, q => x.length ≤ sizeLine ∧ q (.str (cutL x lo hi))
  | .tup ds, lo, hi, q => q (.tup (cutL ds lo hi))
  | .lst ds, lo, hi, q => q (.lst (cutL ds lo hi))
  | _, _, _, _ => False
def oSlN : D → Option Int → Option Int → (List D → Prop) → Prop
  | .lst ds, lo, hi, q => q (cutL ds lo hi)
  | _, _, _, _ => False
@[simp] def wSl (w : EW M) (l h : OW M) : EW M := fun ρ g q => w ρ g fun d g1 => l ρ g1 fun lo g2 => h ρ g2 fun hi g3 => oSl d lo hi fun r => q r g3
variable {lo hi : Option Expr} {wl wh : OW M} {p2 : Pos}
theorem sl_run {rr : V → Option Int → Option Int → Hp → VK → Prop} (ha : DP C a wa) (hl : DO C lo wl) (hh : DO C hi wh) {Q : VK} {q : D → Option Int → Option Int → M.G → Prop} (S : Sat C σ ρ W)
    (h : ∀ W1 x d l u, Go W W1 → Wok C.X.K W1 → RdP C.X.K W1 x d → q d l u W1.g → rr x l u W1.H Q) (hw : wa ρ W.g fun d g1 => wl ρ g1 fun l g2 => wh ρ g2 fun u g3 => q d l u g3) :
    tSl rr (tOf C.X a) (oOf C.X lo) (oOf C.X hi) σ W.H Q :=
  ha.run σ ρ W _ _ S (fun v d W1 g1 k1 r1 q1 => hl.run σ ρ W1 _ _ (S.step g1 k1) (fun l W2 g2 k2 q2 => hh.run σ ρ W2 _ _ (S.step (g1.trans g2) k2) (fun u W3 g3 k3 q3 => h W3 v d l u ((g1.trans g2).trans g3) k3 ((r1.step g2).step g3) q3) q2) q1) hw
theorem de_slice (ha : DP C a wa) (hl : DO C lo wl) (hh : DO C hi wh) : DE C (.Subscript a (.Slice lo hi none p2) pos) (wSl wa wl wh) := ⟨fun σ ρ W Q q S hQ hw =>
  tOf_of (pe_slice ((sl_str.or sl_tupA).or sl_list) pe_tOf po_tOf po_tOf) (sl_run ha hl hh S (fun W1 x d l u g k r q1 => by
    cases d with
    | str y =>
      obtain ⟨z, rfl, rfl⟩ := r.str_inv
      refine .inl (.inl ⟨z, rfl, by rw [str_len]; exact q1.1, hQ _ _ W1 g k (rp_strS _ ?_) q1.2⟩)
      unfold cutS cutL
      rw [str_len]
    | tup ds =>
      obtain ⟨p, vs, rfl, hp, ra⟩ := r.tup_inv
      refine .inl (.inr ⟨p, vs, rfl, same_tup k.sub hp, fun hw => ?_, fun _ t ht => ?_⟩)
      · rw [ra.length] at hw
        rw [show oSl (.tup ds) l u (fun r => q r W1.g) = q (.tup (cutL ds l u)) W1.g from rfl, cut_all hw] at q1
        exact hQ _ _ W1 g k (.tup hp ra) q1
      · exact hQ _ _ (W1.lay t (.tup (cutV vs l u))) (g.trans (Go.lay k ht)) (k.lay ht) (.tup (.of upd_same) ((ra.cut l u).mono (same_new (k.noF ht)) fun _ _ z => z)) q1
    | lst ds =>
      obtain ⟨p, vs, rfl, hp, np, ra⟩ := r.lst_inv k
      exact .inr ⟨p, vs, rfl, .of hp, fun t ht => hQ _ _ (W1.lay t (.lst (cutV vs l u))) (g.trans (Go.lay k ht)) (k.lay ht) (.lst upd_same ((ra.cut l u).mono (same_new (k.noF ht)) fun _ _ z => z)) q1⟩
    | _ => exact q1.elim) hw)⟩
theorem nofresh (g : Go W W1) {p : Addr} (h : W1.H p = none) : W.H p = none := by
  cases z : W.H p with
  | none => rfl
  | some o => exact absurd h (g.live p (by rw [z]; simp))
structure CallD (C : Ct M) (f : Value) (r : List D → (D → Prop) → Prop) : Prop where
  run : ∃ rr, CallR C.X f rr ∧ ∀ (W : Wd M) (vs : List V) (ds : List D) (Q : VK) (q : D → Prop), Wok C.X.K W → Paired (RdP C.X.K W) vs ds →
    (∀ v d' W', Go W W' → Wok C.X.K W' → W'.g = W.g → Rp C.X.K W'.F W'.R v d' → q d' → Q v W'.H) → r ds q → rr vs W.H Q
structure CallN (C : Ct M) (f : Value) (r : List D → (List D → Prop) → Prop) : Prop where
  run : ∃ rr, CallR C.X f rr ∧ ∀ (W : Wd M) (vs : List V) (ds : List D) (Q : VK) (q : List D → Prop), Wok C.X.K W → Paired (RdP C.X.K W) vs ds →
    (∀ p vs ds W', Go W W' → Wok C.X.K W' → W'.g = W.g → W'.H p = some (.lst vs) → W'.F p = none → p ∉ W'.R → W.H p = none → RpA C.X.K W'.F W'.R vs ds → q ds → Q (.ref p) W'.H) → r ds q → rr vs W.H Q
@[simp] def wCB (r : List D → (D → Prop) → Prop) (wa : AW M) : EW M := fun ρ g q => wa ρ g fun ds g' => r ds fun d => q d g'
@[simp] def wCN (r : List D → (List D → Prop) → Prop) (wa : AW M) : NW M := fun ρ g q => wa ρ g fun ds g' => r ds fun d => q d g'
variable {x : Str} {p : Pos} {id T : String} {r : List D → (D → Prop) → Prop} {rn : List D → (List D → Prop) → Prop} {wA : AW M}
theorem de_callB (hc : CallD C (.builtin id) r) (hg : Gl C.X x) (hm : C.X.mg x = none) (hv : bootBuiltins x = some (.builtin id)) (ha : DAP C (e :: es) wA) (hn : x ≠ "__name__" := by decide) (hdb : (x == ("__debug__" : Str)) = false := by decide)
    (he : starEach (e :: es) C.X.env = (false, eval e C.X.env) :: starEach es C.X.env := by rfl) (hpl : (backTo pos (starEach es C.X.env)).any (·.1) = false := by rfl) : DE C (.Call (.Name x p) (e :: es) [] pos) (wCB r wA) := ⟨fun σ ρ W Q q S hQ hw => by
  obtain ⟨rr, h1, h2⟩ := hc.run
  exact tOf_of (pe_callB h1 hg hm hv pa_tOf hn hdb he hpl) (ha.run σ ρ W _ _ S (fun vs ds W1 g1 k1 r1 q1 => h2 W1 vs ds Q _ k1 r1 (fun v d W2 g2 k2 eg r2 q2 => hQ v d W2 (g1.trans g2) k2 r2 (eg ▸ q2)) q1) hw)⟩
theorem de_callTy (hc : CallD C (.type T) r) (hg : Gl C.X x) (hm : C.X.mg x = none) (hv : bootBuiltins x = some (.type T)) (ha : DAP C (e :: es) wA) (hn : x ≠ "__name__" := by decide) (hdb : (x == ("__debug__" : Str)) = false := by decide)
    (he : starEach (e :: es) C.X.env = (false, eval e C.X.env) :: starEach es C.X.env := by rfl) (hpl : (backTo pos (starEach es C.X.env)).any (·.1) = false := by rfl) : DE C (.Call (.Name x p) (e :: es) [] pos) (wCB r wA) := ⟨fun σ ρ W Q q S hQ hw => by
  obtain ⟨rr, h1, h2⟩ := hc.run
  exact tOf_of (pe_callTy h1 hg hm hv pa_tOf hn hdb he hpl) (ha.run σ ρ W _ _ S (fun vs ds W1 g1 k1 r1 q1 => h2 W1 vs ds Q _ k1 r1 (fun v d W2 g2 k2 eg r2 q2 => hQ v d W2 (g1.trans g2) k2 r2 (eg ▸ q2)) q1) hw)⟩
theorem dn_callB (hc : CallN C (.builtin id) rn) (hg : Gl C.X x) (hm : C.X.mg x = none) (hv : bootBuiltins x = some (.builtin id)) (ha : DAP C (e :: es) wA) (hn : x ≠ "__name__" := by decide) (hdb : (x == ("__debug__" : Str)) = false := by decide)
    (he : starEach (e :: es) C.X.env = (false, eval e C.X.env) :: starEach es C.X.env := by rfl) (hpl : (backTo pos (starEach es C.X.env)).any (·.1) = false := by rfl) : DN C (.Call (.Name x p) (e :: es) [] pos) (wCN rn wA) := ⟨fun σ ρ W Q q S hQ hw => by
  obtain ⟨rr, h1, h2⟩ := hc.run
  exact tOf_of (pe_callB h1 hg hm hv pa_tOf hn hdb he hpl) (ha.run σ ρ W _ _ S (fun vs ds W1 g1 k1 r1 q1 => h2 W1 vs ds Q _ k1 r1 (fun p vs ds W2 g2 k2 eg a1 a2 a3 a4 r2 q2 => hQ p vs ds W2 (g1.trans g2) k2 a1 a2 a3 (nofresh g1 a4) r2 (eg ▸ q2)) q1) hw)⟩
def cLen : List D → (D → Prop) → Prop
  | [.str x], q => x.length ≤ sizeLine ∧ q (.int x.length)
  | [.lst ds], q => q (.int ds.length)
  | [.tup ds], q => q (.int ds.length)
  | _, _ => False
theorem pair1 {α β : Type} {P : α → β → Prop} {xs : List α} {y : β} (h : Paired P xs [y]) : ∃ x, xs = [x] ∧ P x y := by
  cases h with
  | cons a b => cases b; exact ⟨_, rfl, a⟩
theorem one_of {r : List D → (D → Prop) → Prop} {ds : List D} {q : D → Prop} (h : r ds q) (f : ∀ q, ¬ r [] q) (f2 : ∀ a b c q, ¬ r (a :: b :: c) q) : ∃ d, ds = [d] := by
  cases ds with
  | nil => exact absurd h (f q)
  | cons a t =>
    cases t with
    | nil => exact ⟨a, rfl⟩
    | cons b c => exact absurd h (f2 a b c q)
theorem calld_len : CallD C (.builtin "len") cLen := by
  refine ⟨_, call_len, fun W vs ds Q q k r hQ h => ?_⟩
  obtain ⟨d, rfl⟩ := one_of h (fun _ h => h) (fun a _ _ _ h => by cases a <;> exact h)
  obtain ⟨v, rfl, r0⟩ := pair1 r
  cases d with
  | str x =>
    obtain ⟨z, rfl, rfl⟩ := r0.str_inv
    refine ⟨_, z.length, rfl, ⟨by rw [str_len]; exact h.1, rfl⟩, hQ _ _ W (Go.refl W) k rfl (.int _) ?_⟩
    rw [str_len]
    exact h.2
  | lst ds =>
    obtain ⟨p, vs, rfl, hp, np, ra⟩ := r0.lst_inv k
    exact ⟨_, vs.length, rfl, .inl ⟨vs, .of hp, rfl⟩, hQ _ _ W (Go.refl W) k rfl (.int _) (by rw [ra.length]; exact h)⟩
  | tup ds =>
    obtain ⟨p, vs, rfl, hp, ra⟩ := r0.tup_inv
    exact ⟨_, vs.length, rfl, .inr ⟨vs, same_tup k.sub hp, rfl⟩, hQ _ _ W (Go.refl W) k rfl (.int _) (by rw [ra.length]; exact h)⟩
  | _ => exact h.elim
def cTuple : List D → (D → Prop) → Prop
  | [.lst ds], q => q (.tup ds)
  | [.tup ds], q => q (.tup ds)
  | _, _ => False
theorem calld_tuple : CallD C (.type "tuple") cTuple := by
  refine ⟨_, call_tuple_of, fun W vs ds Q q k r hQ h => ?_⟩
  obtain ⟨d, rfl⟩ := one_of h (fun _ h => h) (fun a _ _ _ h => by cases a <;> exact h)
  obtain ⟨v, rfl, r0⟩ := pair1 r
  cases d with
  | lst ds =>
    obtain ⟨p, vs, rfl, hp, np, ra⟩ := r0.lst_inv k
    exact ⟨p, vs, rfl, .inl ⟨.of hp, fun t ht => hQ _ _ (W.lay t (.tup vs)) (Go.lay k ht) (k.lay ht) rfl (.tup (.of upd_same) (ra.mono (same_new (k.noF ht)) fun _ _ z => z)) h⟩⟩
  | tup ds =>
    obtain ⟨p, vs, rfl, hp, ra⟩ := r0.tup_inv
    exact ⟨p, vs, rfl, .inr ⟨same_tup k.sub hp, hQ _ _ W (Go.refl W) k rfl (.tup hp ra) h⟩⟩
  | _ => exact h.elim
def cList : List D → (List D → Prop) → Prop
  | [.lst ds], q => q ds
  | [.tup ds], q => q ds
  | _, _ => False
def cMin2 : List D → (D → Prop) → Prop
  | [.int i, .int j], q => q (.int (if j < i then j else i))
  | _, _ => False
def cMax2 : List D → (D → Prop) → Prop
  | [.int i, .int j], q => q (.int (if j > i then j else i))
  | _, _ => False
def jn (sep : List Nat) : List (List Nat) → List Nat := TL.joinL sep
def oJoin (sep : List Nat) (d : D) (q : D → Prop) : Prop := ∃ ds xs, (d = .lst ds ∨ d = .tup ds) ∧ ds = xs.map D.str ∧ (xs.map (·.length)).sum + xs.length * sep.length ≤ 16777216 ∧ q (.str (jn sep xs))
def asS (d : D) (q : List Nat → Prop) : Prop := match d with
  | .str i => q i
  | _ => False
@[simp] def wJoin (wo we : EW M) : EW M := fun ρ g q => wo ρ g fun s g1 => asS s fun sep => we ρ g1 fun d g2 => oJoin sep d fun r => q r g2
theorem join_list (a : Str) (zs : List Str) : (PySem.Txt.join a zs).cps.toList = jn a.cps.toList (zs.map (·.cps.toList)) := by
  rw [TL.join_eq]
  exact TL.tl_join a zs
theorem de_join {o : Expr} {wo : EW M} {apos : Pos} (ho : DE C o wo) (he : DP C e we) (hs : starEach [e] C.X.env = [(false, eval e C.X.env)] := by rfl) (hbase : attributeBase o "join" C.X.env (eval o C.X.env) = eval o C.X.env := by rfl) (hline : (apos.endLine == pos.line) = true := by rfl) :
    DE C (.Call (.Attribute o "join" apos) [e] [] pos) (wJoin wo we) := ⟨fun σ ρ W Q q S hQ hw =>
  tOf_of (pe_join pe_tOf pe_tOf hs hbase hline) (ho.run σ ρ W _ _ S (fun v d W1 g1 k1 r1 q1 => by
    cases d with
    | str sep =>
      cases r1 with
      | str z _ hz =>
        subst hz
        refine ⟨⟨z, rfl⟩, he.run σ ρ W1 _ _ (S.step g1 k1) (fun u d2 W2 g2 k2 r2 q2 => ?_) q1⟩
        obtain ⟨ds, xs, hd, e1, hl, q2⟩ := q2
        subst e1
        have fin : ∀ {vs : List V}, RpA C.X.K W2.F W2.R vs (xs.map D.str) → ∃ zs : List Str, vs = zs.map V.str ∧ (zs.map (·.length)).sum + zs.length * z.length ≤ 16777216 ∧ Q (.str (PySem.Txt.join z zs)) W2.H := fun {vs} r => by
          obtain ⟨zs, e1, e2⟩ := r.strs
          refine ⟨zs, e1, ?_, hQ _ _ W2 (g1.trans g2) k2 (rp_strS _ (by rw [join_list, e2])) q2⟩
          subst e2
          have e3 : (List.map (fun x : Str => x.cps.toList) zs).map (·.length) = zs.map (·.length) := by
            rw [List.map_map]
            exact List.map_congr_left fun x _ => (str_len x).symm
          rw [e3, List.length_map, ← str_len] at hl
          exact hl
        rcases hd with rfl | rfl
        · obtain ⟨p, vs, rfl, hp, np, ra⟩ := r2.lst_inv k2
          obtain ⟨zs, rfl, h1, h2⟩ := fin ra
          exact ⟨z, p, zs, rfl, rfl, .inl (.of hp), h1, h2⟩
        · obtain ⟨p, vs, rfl, hp, ra⟩ := r2.tup_inv
          obtain ⟨zs, rfl, h1, h2⟩ := fin ra
          exact ⟨z, p, zs, rfl, rfl, .inr (same_tup k2.sub hp), h1, h2⟩
    | _ => exact q1.elim) hw)⟩
end
end DL
set_option Elab.async false
set_option linter.all false
set_option maxRecDepth 100000
set_option maxHeartbeats 1000000
namespace DL
open PySem L2
/-- (text, number), in Python's order -/
def leTI (p q : List Nat × Int) : Prop := p.1 < q.1 ∨ (p.1 = q.1 ∧ p.2 ≤ q.2)
theorem perm_map_inv {α β : Type} {f : α → β} : ∀ {l l2 : List β}, l.Perm l2 → ∀ rs : List α, l2 = rs.map f → ∃ rs' : List α, rs'.Perm rs ∧ l = rs'.map f := by
  intro l l2 h
  induction h with
  | nil =>
    intro rs e
    cases rs with
    | nil => exact ⟨[], .refl _, rfl⟩
    | cons a r => cases e
  | cons x h ih =>
    intro rs e
    cases rs with
    | nil => cases e
    | cons a r =>
      injection e with e1 e2
      obtain ⟨rs', p, e3⟩ := ih r e2
      exact ⟨a :: rs', p.cons a, by rw [e1, e3]; rfl⟩
  | swap x y l =>
    intro rs e
    cases rs with
    | nil => cases e
    | cons a r =>
      cases r with
      | nil => cases e
      | cons b r =>
        injection e with e1 e2
        injection e2 with e2 e3
        exact ⟨b :: a :: r, List.Perm.swap a b r, by rw [e1, e2, e3]; rfl⟩
  | trans h1 h2 ih1 ih2 =>
    intro rs e
    obtain ⟨r1, p1, e1⟩ := ih2 rs e
    obtain ⟨r2, p2, e2⟩ := ih1 r1 e1
    exact ⟨r2, p2.trans p1, e2⟩
abbrev RTI := Addr × Str × Int
def keyTI (r : RTI) : List (Int ⊕ List Nat) := [.inr r.2.1.cps.toList, .inl r.2.2]
def rSortedTI (K : PySem.W.Frag) : List V → Hp → VK → Prop := fun vs H Q => ∃ (a : Addr) (rs : List (Addr × Str × Int)), vs = [.ref a] ∧ SqL K H a (rs.map fun r => V.ref r.1) ∧ (∀ r ∈ rs, SqT K H r.1 [.str r.2.1, .int r.2.2]) ∧
  ∀ (rs' : List (Addr × Str × Int)) (p : Addr), rs'.Perm rs → rs'.Pairwise (fun r q => leTI (r.2.1.cps.toList, r.2.2) (q.2.1.cps.toList, q.2.2)) → H p = none → Q (.ref p) (upd H p (.lst (rs'.map fun r => V.ref r.1)))
theorem vals_refs : ∀ {rs : List RTI} {us : List Value}, Vals (rs.map fun r => V.ref r.1) us → us = rs.map fun r => Value.ref r.1
  | [], _, .nil => rfl
  | r :: rs, _, .cons a t => by
    have e : _ = Value.ref r.1 := a
    rw [e, vals_refs t]
    rfl
theorem refs_vals : ∀ rs : List RTI, Vals (rs.map fun r => V.ref r.1) (rs.map fun r => Value.ref r.1)
  | [] => .nil
  | r :: rs => .cons rfl (refs_vals rs)
theorem zip_refs : ∀ rs : List RTI, (rs.map fun r => Value.ref r.1).zip (rs.map fun r => Value.ref r.1) = rs.map fun r => (Value.ref r.1, Value.ref r.1)
  | [] => rfl
  | r :: rs => by rw [List.map_cons, List.map_cons, List.zip_cons_cons, zip_refs rs]
theorem kle_TI {r q : RTI} (h : (PyProof.Rows.G.tupKindC hp sh).kle (keyTI r) (keyTI q)) : leTI (r.2.1.cps.toList, r.2.2) (q.2.1.cps.toList, q.2.2) := by
  have h' : (decide (q.2.1.cps.toList < r.2.1.cps.toList) || (!decide (r.2.1.cps.toList < q.2.1.cps.toList) && (decide (q.2.2 < r.2.2) || (!decide (r.2.2 < q.2.2) && false)))) = false := h
  simp only [Bool.or_eq_false_iff, Bool.and_eq_false_iff, decide_eq_false_iff_not, Bool.not_eq_false', decide_eq_true_eq, Bool.and_false, Bool.or_false] at h'
  obtain ⟨h1, h2⟩ := h'
  by_cases h3 : r.2.1.cps.toList < q.2.1.cps.toList
  · exact .inl h3
  · refine .inr ⟨List.le_antisymm (List.not_lt.mp h1) (List.not_lt.mp h3), ?_⟩
    rcases h2 with h2 | h2
    · exact absurd h2 h3
    · show r.2.2 ≤ q.2.2
      simp at h2
      omega
theorem cr_sortedTI {X : Cx} : CallR X (.builtin "sorted") (rSortedTI X.K) := by
  intro pins s σ H vs us Q I r h
  obtain ⟨a, rs, rfl, hs, ht, q⟩ := h
  obtain ⟨its, rv, hl, hz⟩ := I.list hs
  obtain ⟨u, rfl, ru⟩ := vals1 r
  obtain rfl : u = Value.ref a := ru
  have eits := vals_refs rv
  subst eits
  -- each item, in the heap
  have at_ : ∀ r ∈ rs, ∃ o t1 t2 n, s.heap.get? r.1 = some o ∧ o.cls = .type "tuple" ∧ o.data = .seq #[.str r.2.1 t1, .int r.2.2 t2] n := fun r hr => by
    obtain ⟨its2, r2, ⟨o, ho, hc, n, hd⟩, _⟩ := I.tuple (ht r hr)
    obtain ⟨u1, u2, rfl, ⟨t1, rfl⟩, ⟨t2, rfl⟩⟩ := vals2 r2
    exact ⟨o, t1, t2, n, ho, hc, hd⟩
  have key : ∀ r ∈ rs, PyProof.Rows.G.tupKeyC s.heap (fun i => i == 0) (.ref r.1) = some (keyTI r) := fun r hr => by
    obtain ⟨o, t1, t2, n, ho, hc, hd⟩ := at_ r hr
    simp [PyProof.Rows.G.tupKeyC, PyProof.Rows.G.isTupObj, PyProof.Rows.tupKey, ho, hc, hd, PyProof.Rows.tupItems, keyTI]
  have tups : ∀ l : List RTI, (∀ r ∈ l, r ∈ rs) → ∃ fs, PyProof.Rows.TupsOf s.heap (fun i => i == 0) (l.map fun r => Value.ref r.1) fs := fun l => by
    induction l with
    | nil => exact fun _ => ⟨[], .nil⟩
    | cons r l ih =>
      intro hm
      obtain ⟨fs, hf⟩ := ih fun x hx => hm x (List.mem_cons_of_mem _ hx)
      obtain ⟨o, t1, t2, n, ho, hc, hd⟩ := at_ r (hm r List.mem_cons_self)
      exact ⟨.str r.2.1 t1 :: fs, .cons ⟨r.1, o, _, n, rfl, ho, hc, hd, rfl, fun z => by simp at z, fun _ => ⟨_, _, rfl⟩⟩ hf⟩
  obtain ⟨fs, hf⟩ := tups rs fun _ h => h
  have hlen : (rs.map fun r => Value.ref r.1).length ≤ sizeLine := by
    rw [List.length_map] at hz ⊢
    exact hz
  refine PyProof.Rows.G.sorted_tups hl.isList hf (fun v hv => ?_) hlen fun st' hp hsd _ => ?_
  · obtain ⟨r, hr, rfl⟩ := List.mem_map.mp hv
    exact ⟨_, key r hr⟩
  · obtain ⟨ep, he'⟩ := PyProof.Rows.sortedAll_at s.heap (rs.map fun r => Value.ref r.1) ((PyProof.Rows.arrOf st').map (·.2))
    have hp' : (PyProof.Rows.arrOf st').toList.Perm (rs.map fun r => (Value.ref r.1, Value.ref r.1)) := by
      have e : (PyProof.Rows.pairsOf (rs.map fun r => Value.ref r.1)).toList = rs.map fun r => (Value.ref r.1, Value.ref r.1) := by
        rw [PyProof.Rows.pairsOf_toList]
        exact zip_refs rs
      rw [← e]
      exact Array.perm_iff_toList_perm.mp hp
    obtain ⟨rs', p2, e2⟩ := perm_map_inv (f := fun r : RTI => (Value.ref r.1, Value.ref r.1)) hp' rs rfl
    have eo : ((PyProof.Rows.arrOf st').map (·.2)).toList = rs'.map fun r => Value.ref r.1 := by
      rw [Array.toList_map, e2, List.map_map]
      rfl
    have hin : ∀ r ∈ rs', r ∈ rs := fun r hr => p2.mem_iff.mp hr
    have kk : ∀ (i : Nat) r, rs'[i]? = some r → PyProof.Rows.KK (PyProof.Rows.G.tupKindC s.heap (fun i => i == 0)) (PyProof.Rows.arrOf st') i = keyTI r := fun i r e => by
      have h1 : (PyProof.Rows.arrOf st')[i]? = some (Value.ref r.1, Value.ref r.1) := by
        rw [← Array.getElem?_toList, e2, List.getElem?_map, e]
        rfl
      unfold PyProof.Rows.KK
      rw [h1]
      show (PyProof.Rows.G.tupKeyC s.heap (fun i => i == 0) (.ref r.1)).getD _ = _
      rw [key r (hin r (List.mem_of_getElem? e))]
      rfl
    have srt : rs'.Pairwise (fun r q => leTI (r.2.1.cps.toList, r.2.2) (q.2.1.cps.toList, q.2.2)) := by
      rw [List.pairwise_iff_getElem]
      intro i j hi hj hij
      have hjs : j < (PyProof.Rows.pairsOf (rs.map fun r => Value.ref r.1)).size := by
        rw [PyProof.Rows.pairsOf_size, List.length_map, ← p2.length_eq]
        exact hj
      have := hsd i j (Nat.le_of_lt hij) hjs
      rw [kk i _ (List.getElem?_eq_getElem hi), kk j _ (List.getElem?_eq_getElem hj)] at this
      exact kle_TI this
    refine ⟨.ref (s.heap.objs.size + 1), upd H (s.heap.objs.size + 1) (.lst (rs'.map fun r => V.ref r.1)), I.laid (t' := s.toks) (fun _ _ => PyProof.Rows.sortedAll_old) (Nat.le_succ _) ⟨?_, rs'.map fun r => Value.ref r.1, ep, refs_vals rs', ?_⟩, rfl,
      q rs' _ p2 srt (I.hok.fresh (Nat.le_succ _))⟩
    · rw [List.length_map, p2.length_eq, ← List.length_map (f := fun r : RTI => V.ref r.1)]
      exact hz
    · rw [he', ← eo]
section
variable {M : Ghost} {C : Ct M} {W W1 W2 W' : Wd M} {σ : L2.St} {ρ : DEnv} {e : Expr} {es : List Expr} {we : EW M} {pos : Pos}
def pairTI (p : List Nat × Int) : D := .tup [.str p.1, .int p.2]
/-- sorted of pairs (text, number) -/
def cSortedTI (ds : List D) (q : List D → Prop) : Prop := ∃ xs : List (List Nat × Int), ds = [.lst (xs.map pairTI)] ∧ ∀ ys : List (List Nat × Int), ys.Perm xs → ys.Pairwise leTI → q (ys.map pairTI)
theorem rpa_TI {K : PySem.W.Frag} {F : Hp} {R : List Addr} : ∀ {vs : List V} {xs : List (List Nat × Int)}, RpA K F R vs (xs.map pairTI) → ∃ rs : List RTI, vs = rs.map (fun r => V.ref r.1) ∧ xs = rs.map (fun r => (r.2.1.cps.toList, r.2.2)) ∧ ∀ r ∈ rs, SqT K F r.1 [.str r.2.1, .int r.2.2]
  | _, [], .nil => ⟨[], rfl, rfl, fun _ h => by cases h⟩
  | _, (x, i) :: xs, h => by
    have h' : RpA K F R _ (D.tup [.str x, .int i] :: xs.map pairTI) := h
    cases h' with
    | cons a t =>
      cases a with
      | tup hs b =>
        cases b with
        | cons b1 b2 =>
          cases b1 with
          | str z _ hz =>
            cases b2 with
            | cons b3 b4 =>
              cases b3
              cases b4
              obtain ⟨rs, e1, e2, h2⟩ := rpa_TI t
              refine ⟨(_, z, i) :: rs, by rw [e1]; rfl, by rw [e2, List.map_cons, hz], fun r hr => ?_⟩
              rcases List.mem_cons.mp hr with rfl | hr
              · exact hs
              · exact h2 r hr
theorem TI_rpa {K : PySem.W.Frag} {F : Hp} {R : List Addr} : ∀ {rs : List RTI}, (∀ r ∈ rs, SqT K F r.1 [.str r.2.1, .int r.2.2]) → RpA K F R (rs.map fun r => V.ref r.1) ((rs.map (fun r => (r.2.1.cps.toList, r.2.2))).map pairTI)
  | [], _ => .nil
  | r :: rs, h => .cons (.tup (h r List.mem_cons_self) (.cons (rp_str _) (.cons (.int _) .nil))) (TI_rpa fun x hx => h x (List.mem_cons_of_mem _ hx))
theorem calln_sortedTI : CallN C (.builtin "sorted") cSortedTI := by
  refine ⟨_, cr_sortedTI, fun W vs ds Q q k r hQ h => ?_⟩
  obtain ⟨xs, rfl, h⟩ := h
  obtain ⟨v, rfl, r0⟩ := pair1 r
  obtain ⟨p, vs, rfl, hp, np, ra⟩ := r0.lst_inv k
  obtain ⟨rs, rfl, rfl, hs⟩ := rpa_TI ra
  refine ⟨p, rs, rfl, .of hp, fun r hr => same_tup k.sub (hs r hr), fun rs' t p2 srt ht => ?_⟩
  refine hQ t _ _ (W.new t (.lst _)) (Go.new k ht) (k.new ht) rfl upd_same (k.noF ht) (k.noR ht) ht (TI_rpa fun r hr => hs r (p2.mem_iff.mp hr)) (h (rs'.map fun r => (r.2.1.cps.toList, r.2.2)) (p2.map _) ?_)
  rw [List.pairwise_map]
  exact srt

def repOk (d : D) : Prop := (py d).showable = true ∧ pln d = true ∧ (py d).depth ≤ 60 ∧ (py d).shown.length ≤ sizeLine
end
end DL
set_option Elab.async false
set_option linter.all false
set_option maxRecDepth 100000
set_option maxHeartbeats 1000000
namespace DL
open PySem L2
/-- the stream: its list at R[0], the large cells' list at R[1], all cells frozen; at most n numbers were mixed -/
def StrOk (K : PySem.W.Frag) (n : Nat) (R : List Addr) (F H : Hp) : Prop := ∃ (a b c : Addr) (L cs : List Int) (m : Int), R[0]? = some a ∧ R[1]? = some b ∧ a ≠ b ∧ H a = some (.lst [.ref b, .ref c, .int m]) ∧ H b = some (.lst (L.map V.int)) ∧
  F c = some (.lst (cs.map V.int)) ∧ 0 ≤ m ∧ m ≤ n ∧ cs ≠ []
@[reducible] def stg : Ghost where
  G := Nat
  ok := fun K n R F H => R.length = 2 ∧ (n ≤ 2 ^ 60 → StrOk K n R F H)
  keep := fun {K g R F H F' H'} h s k => ⟨h.1, fun hn => by
    obtain ⟨a, b, c, L, cs, m, h1, h2, h3, h4, h5, h6, h7⟩ := h.2 hn
    exact ⟨a, b, c, L, cs, m, h1, h2, h3, by rw [k a (List.mem_of_getElem? h1)]; exact h4, by rw [k b (List.mem_of_getElem? h2)]; exact h5, s _ _ h6, h7⟩⟩
/-- a thing of the region, written -/
abbrev Wd.reg {M : Ghost} (W : Wd M) (p : Addr) (o : HO) (g : M.G) : Wd M := { W with H := upd W.H p o, g := g }
section
variable {M : Ghost} {K : PySem.W.Frag} {W : Wd M} {p : Addr} {o : HO} {g : M.G}
theorem Go.reg' (h : p ∈ W.R) : Go W (W.reg p o g) := by
  refine ⟨Same.refl _, fun a x e n => ?_, fun a e => ?_, fun _ z => .inl z, [], by simp, by simp⟩
  · show upd W.H p o a = some x
    rw [upd_ne (show a ≠ p from fun z => n (z ▸ h))]
    exact e
  · show upd W.H p o a ≠ none
    by_cases z : a = p
    · subst z; rw [upd_same]; simp
    · rw [upd_ne z]; exact e
theorem Wok.reg (k : Wok K W) (h : p ∈ W.R) (gh : M.ok K g W.R W.F (upd W.H p o)) : Wok K (W.reg p o g) := by
  refine ⟨fun a x e => ?_, gh, k.rf, fun a ha => ?_⟩
  · show upd W.H p o a = some x
    rw [upd_ne (show a ≠ p from fun z => by subst z; rw [k.rf _ h] at e; cases e)]
    exact k.sub _ _ e
  · show upd W.H p o a ≠ none
    by_cases z : a = p
    · subst z; rw [upd_same]; simp
    · rw [upd_ne z]; exact k.rh a ha
end
/-- a draw below many -/
def dDraw : DSp stg := fun ds g q _ => ∃ many : Int, ds = [.ob 0, .int many] ∧ 0 < many ∧ many < 1152921504606846976 ∧ g + 1 ≤ 2 ^ 60 ∧ ∀ v : Int, 0 ≤ v → v < many → q (.int v) (g + 1)
theorem map_int_get {L : List Int} {i : Nat} {x : V} (h : (L.map V.int)[i]? = some x) : ∃ j, x = .int j ∧ L[i]? = some j := by
  rw [List.getElem?_map] at h
  cases q : L[i]? with
  | none => rw [q] at h; cases h
  | some j => rw [q] at h; cases h; exact ⟨j, rfl, rfl⟩
/-- the stream is made -/
def spStream (K : PySem.W.Frag) : Sp := fun vs H Q _ => ∃ (a : Addr) (ns : List Int), vs = [.ref a] ∧ SqL K H a (ns.map V.int) ∧ ns.length ≤ 63 ∧
  ∀ (H' : Hp) (p b c : Addr) (L cs : List Int), Same H H' → H p = none → H b = none → H c = none → p ≠ b → p ≠ c → b ≠ c → H' p = some (.lst [.ref b, .ref c, .int 0]) → H' b = some (.lst (L.map V.int)) → H' c = some (.lst (cs.map V.int)) → cs ≠ [] → Q (.ref p) H'
/-- what the rest of a draw needs of the state -/
structure DrawAt (K : PySem.W.Frag) (W W1 : Wd stg) (a b c : Addr) (L cs : List Int) (m : Int) : Prop where
  go : Go W W1
  ok : Wok K W1
  g : W1.g = W.g
  r0 : W1.R[0]? = some a
  r1 : W1.R[1]? = some b
  ne : a ≠ b
  ha : W1.H a = some (.lst [.ref b, .ref c, .int m])
  hb : W1.H b = some (.lst (L.map V.int))
  hc : W1.F c = some (.lst (cs.map V.int))
  m0 : 0 ≤ m
  mn : m ≤ W.g
  cs0 : cs ≠ []
section
variable {K : PySem.W.Frag} {W W1 W2 : Wd stg} {a b c : Addr} {L cs : List Int} {m : Int}
theorem DrawAt.new (d : DrawAt K W W1 a b c L cs m) {p : Addr} {o : HO} (h : W1.H p = none) : DrawAt K W (W1.new p o) a b c L cs m := by
  have na : a ≠ p := ne_of_none d.ha h
  have nb : b ≠ p := ne_of_none d.hb h
  exact ⟨d.go.trans (Go.new d.ok h), d.ok.new h, d.g, d.r0, d.r1, d.ne, (upd_ne na).trans d.ha, (upd_ne nb).trans d.hb, d.hc, d.m0, d.mn, d.cs0⟩
theorem DrawAt.setB (d : DrawAt K W W1 a b c L cs m) (L' : List Int) : DrawAt K W (W1.reg b (.lst (L'.map V.int)) W1.g) a b c L' cs m := by
  have hb := List.mem_of_getElem? d.r1
  have ok' : Wok K (W1.reg b (.lst (L'.map V.int)) W1.g) := d.ok.reg hb ⟨d.ok.gh.1, fun hn => ⟨a, b, c, L', cs, m, d.r0, d.r1, d.ne, (upd_ne d.ne).trans d.ha, upd_same, d.hc, d.m0, by rw [show ((W1.g : Nat) : Int) = ((W.g : Nat) : Int) from congrArg Int.ofNat d.g]; exact d.mn, d.cs0⟩⟩
  exact ⟨d.go.trans (Go.reg' hb), ok', d.g, d.r0, d.r1, d.ne, (upd_ne d.ne).trans d.ha, upd_same, d.hc, d.m0, d.mn, d.cs0⟩
end

theorem wok_more {K : PySem.W.Frag} {W : Wd stg} (k : Wok K W) {n : Nat} (h : W.g ≤ n) : Wok K ({ W with g := n } : Wd stg) := by
  refine ⟨k.sub, ⟨k.gh.1, fun hn => ?_⟩, k.rf, k.rh⟩
  obtain ⟨a, b, c, L, cs, m, h1, h2, h3, h4, h5, h6, h7, h8, h9⟩ := k.gh.2 (Nat.le_trans h hn)
  refine ⟨a, b, c, L, cs, m, h1, h2, h3, h4, h5, h6, h7, ?_, h9⟩
  exact Int.le_trans h8 (Int.ofNat_le.mpr h)
theorem go_more {W : Wd stg} {n : Nat} : Go W ({ W with g := n } : Wd stg) := ⟨Same.refl _, fun _ _ h _ => h, fun _ h => h, fun _ h => .inl h, [], by simp, by simp⟩

section
variable {M : Ghost} {C : Ct M} {W W1 W2 W' : Wd M} {σ : L2.St} {ρ : DEnv} {e e2 : Expr} {we wi : EW M} {pos apos cpos p1 : Pos}
@[simp] def wApp (i : Nat) (we : EW M) : SW M := fun k ρ g => ∃ ds, ρ[i]? = some (.own ds) ∧ we ρ g fun d g' => ds.length < sizeLine ∧ k.nx (ρ.set i (.own (ds ++ [d]))) g'
/-- x.append(e), x a list of one's own -/
theorem ds_append {i : Nat} {x : Str} (hv : PE C.X (.Name x p1) (tVar i)) (he : DE C e we) (hline : (apos.endLine == cpos.line) = true := by rfl)
    (hs : swapsWith (.Call (.Attribute (.Name x p1) "append" apos) [e] [] cpos) none pos.line C.X.env = pure false := by rfl)
    (hst : starEach [e] C.X.env = (false, eval e C.X.env) :: starEach [] C.X.env := by rfl) (hbase : attributeBase (.Name x p1) "append" C.X.env (eval (.Name x p1) C.X.env) = eval (.Name x p1) C.X.env := by rfl)
    (hpl : (backTo cpos (starEach [] C.X.env)).any (·.1) = false := by rfl)
    (hfew : ((backTo cpos (starEach [e] C.X.env)).all (fun x => !x.1) && (backToKw cpos (keywordEach [] C.X.env)).all (fun x => x.1.isSome) && decide ([e].length + ([] : List Keyword).length + (if ([] : List Keyword).isEmpty then 0 else 1) < 30)) = true := by rfl) :
    DS C (.Expr (.Call (.Attribute (.Name x p1) "append" apos) [e] [] cpos) pos) (wApp i we) := ⟨fun σ ρ W k E S l h => by
  obtain ⟨ds, e0, h⟩ := h
  obtain ⟨o, h1, p, vs, h2, h3, h4, h5, h6, r⟩ := S.sl i _ e0
  subst h2
  refine tsOf_of (ps_expr (pe_bm PySem.F.plainAttrs_list PySem.F.slot_list_append PySem.F.type_list_append mt_append hv (pa_cons pe_tOf pa_nil hst) hbase hfew hline hst hpl) hs) ⟨.ref p, h1, .inl ⟨rfl, vs, .of h3⟩, ?_⟩
  refine he.run σ ρ W _ _ S (fun v d W1 g1 k1 r1 q1 => ?_) h
  have S1 := S.step g1 k1
  obtain ⟨o2, a1, p2, vs2, a2, a3, a4, a5, a6, r2⟩ := S1.sl i _ e0
  subst a2
  rw [h1] at a1
  cases a1
  have ev : vs2 = vs := by
    have := g1.keep _ _ h3 h5
    rw [a3] at this
    cases this
    rfl
  subst ev
  obtain ⟨S2, g2⟩ := S1.write e0 h1 (r2.append (.cons r1 .nil))
  exact ⟨p, vs2, v, rfl, rfl, a3, by rw [r2.length]; exact q1.1, l.nx _ _ _ (g1.s.trans g2) S2 q1.2⟩⟩
@[simp] def wStore (i : Nat) (we wi : EW M) : SW M := fun k ρ g => ∃ ds, ρ[i]? = some (.own ds) ∧ we ρ g fun d g1 => wi ρ g1 fun x g2 => asI x fun j => ∃ m, ixN ds.length j = some m ∧ k.nx (ρ.set i (.own (ds.set m d))) g2
/-- x[e2] = e, x a list of one's own -/
theorem ds_store {i : Nat} {x : Str} {spos : Pos} (hv : PE C.X (.Name x p1) (tVar i)) (he : DE C e we) (hi : DE C e2 wi)
    (ha : ∀ v, assign (.Subscript (.Name x p1) e2 spos) C.X.env v = (do
      let ov ← holding [v] (eval (.Name x p1) C.X.env)
      let iv ← holding [v, ov] (eval e2 C.X.env)
      standAt spos
      holding [v, ov, iv] (setItem ov iv v)
      release [v, ov, iv] []) := by intro _; rfl)
    (hs : swapsWithSole [.Subscript (.Name x p1) e2 spos] e pos.line C.X.env = pure false := by rfl) (hw : swappedStores [.Subscript (.Name x p1) e2 spos] e C.X.env = pure none := by rfl)
    (h1 : (assignEach [.Subscript (.Name x p1) e2 spos] C.X.env).map (·.2) = [assign (.Subscript (.Name x p1) e2 spos) C.X.env] := by rfl) :
    DS C (.Assign [.Subscript (.Name x p1) e2 spos] e pos) (wStore i we wi) := ⟨fun σ ρ W k E S l h => by
  obtain ⟨ds, e0, h⟩ := h
  obtain ⟨o, h1', p, vs, h2, h3, h4, h5, h6, r⟩ := S.sl i _ e0
  subst h2
  refine tsOf_of (ps_asg pe_tOf (pg_sub hv pe_tOf set_list ha) hs hw h1) ?_
  refine he.run σ ρ W _ _ S (fun v d W1 g1 k1 r1 q1 => ⟨.ref p, h1', ?_⟩) h
  refine hi.run σ ρ W1 _ _ (S.step g1 k1) (fun u x W2 g2 k2 r2 q2 => ?_) q1
  cases x with
  | int j =>
    obtain ⟨m, hm, q2⟩ := q2
    have S2 := S.step (g1.trans g2) k2
    obtain ⟨o2, a1, p2, vs2, a2, a3, a4, a5, a6, r3⟩ := S2.sl i _ e0
    subst a2
    rw [h1'] at a1
    cases a1
    obtain ⟨S3, g3⟩ := S2.write e0 h1' (r3.set (r1.step g2) m)
    exact ⟨p, vs2, j, m, rfl, by cases r2; rfl, a3, by rw [r3.length]; exact hm, l.nx _ _ _ ((g1.trans g2).s.trans g3) S3 q2⟩
  | _ => exact q2.elim⟩
end
end DL
set_option Elab.async false
set_option linter.all false
set_option maxRecDepth 100000
set_option maxHeartbeats 1000000
namespace DL
open PySem PySem.Spec PyProof.Rows L2
/-- the tracked heap of a law's entry: the script alone, or nothing where the script is the module's own -/
def hp0 (K : PySem.W.Frag) (a : Addr) (ob : Obj) (ns : List Int) : Hp := fun b => if b = a ∧ K.lookup a = none then some (.frz ob (.lst (ns.map V.int))) else none
theorem hp0_some {K : PySem.W.Frag} {a b : Addr} {ob : Obj} {ns : List Int} {u : HO} (h : hp0 K a ob ns b = some u) : b = a ∧ K.lookup a = none ∧ u = .frz ob (.lst (ns.map V.int)) := by
  unfold hp0 at h
  split at h
  · rename_i q
    exact ⟨q.1, q.2, (Option.some.inj h).symm⟩
  · cases h
theorem law_callG {P : Program} {w : World} {K : PySem.W.Frag} {mg mb : Str → Option Value} {k : Nat} {fa a : Addr} {fd : FuncData} {x : Str} {sp : Sp} {s1 : Shared} {vs : List Value} {ns : List Int}
    (kin : K.In s1.heap) (nsG : s1.heap.Ns mainGlobals mg) (nsB : s1.heap.Ns builtinsNs mb) (boot : ∀ x : Str, x ≠ "__name__" → mb x = bootBuiltins x) (lim : s1.heap.NoLimit) (gens : s1.gens = #[])
    (ha : s1.heap.get? a = some { cls := .type "list", data := .seq vs.toArray }) (hi : IntsAre vs ns) (hl : ns.length ≤ sizeLine) (room : Room k callerA) (mods : ∃ mm, s1.heap.Ns sysModules mm)
    (F : ∀ base : Heap, K.In base → base.Ns mainGlobals mg → SmB base → FnG P w K mg base k fa fd [x] sp) (hbind : ∀ (s : Shared) (u : Value), BindsTo s fd ⟨[u], []⟩ [(x, u)])
    (want : ∀ H : Hp, SqL K H a (ns.map V.int) → sp [.ref a] H (fun v _ => v = .bl true) fun _ _ _ => False) :
    codeAny (model P w) callerA (.call (.ref fa) ⟨[.ref a], []⟩) (fun r s' => r = .ok (.ret (.bool true)) ∧ OldK s1.heap s'.heap ∧ s'.os = s1.os ∧ AllBare s'.gens) s1 := by
  have rel := vals_ints hi
  generalize hob : ({ cls := .type "list", data := .seq vs.toArray } : Obj) = ob at ha
  -- the script is read in it
  have seq : SqL K (hp0 K a ob ns) a (ns.map V.int) := by
    cases q : K.lookup a with
    | none => exact .inl (.inr ⟨ob, by unfold hp0; rw [if_pos ⟨rfl, q⟩]⟩)
    | some o =>
      have e := kin a o q
      rw [ha] at e
      cases e
      subst hob
      exact .inr ⟨_, vs.toArray, _, q, rfl, rfl, rfl, by rw [List.size_toArray, hi.length]; exact hl, by simpa using rel⟩
  have held : HOk P w (hp0 K a ob ns) s1.heap := fun b u e => by
    obtain ⟨rfl, _, rfl⟩ := hp0_some e
    subst hob
    exact ⟨ha, by rw [List.length_map]; exact hl, vs, _, rel, ha⟩
  -- what is not the script stands in the base
  have keep : ∀ {b : Addr} {o : Obj}, s1.heap.get? b = some o → hp0 K a ob ns b = none → (hidT s1.heap (hp0 K a ob ns)).get? b = some o := fun e n => hidT_get e n
  have dict : ∀ {b : Addr} {m : Str → Option Value}, s1.heap.Ns b m → (hidT s1.heap (hp0 K a ob ns)).Ns b m := fun {b m} ⟨o, es, ep, e, d, r⟩ => by
    refine ⟨o, es, ep, keep e ?_, d, r⟩
    cases q : hp0 K a ob ns b with
    | none => rfl
    | some u =>
      obtain ⟨rfl, _, _⟩ := hp0_some q
      rw [ha] at e
      cases e
      subst hob
      cases d
  have kin' : K.In (hidT s1.heap (hp0 K a ob ns)) := fun b o e => keep (kin b o e) (by
    cases q : hp0 K a ob ns b with
    | none => rfl
    | some u =>
      obtain ⟨rfl, z, _⟩ := hp0_some q
      rw [z] at e
      cases e)
  have modl : Mod K mg (hidT s1.heap (hp0 K a ob ns)) := ⟨kin', dict nsG, ⟨mb, dict nsB, boot⟩, let ⟨mc, q1, q2⟩ := lim; ⟨mc, dict q1, q2⟩⟩
  have entry : Env0 P w K mg (hidT s1.heap (hp0 K a ob ns)) callerA [] s1 (hp0 K a ob ns) :=
    ⟨rfl, modl, fun b o e => of_hidT e, Nat.le_of_eq (hidT_size _ _), trivial, (fun b hb => by cases hb), held, .of_eq gens⟩
  have smb : SmB (hidT s1.heap (hp0 K a ob ns)) := by
    obtain ⟨mm, hm⟩ := mods
    obtain ⟨o, es, ep, e, _⟩ := dict hm
    exact ⟨o, e⟩
  have run := (F _ kin' (dict nsG) smb).run callerA [] s1 (hp0 K a ob ns) ⟨[.ref a], []⟩ [.ref a] [.ref a] _ _ room rfl entry (hbind s1 (.ref a)) (.cons rfl .nil) (want _ seq)
  refine codeAny_mono run fun r s2 h => ?_
  match r, h with
  | .error e, h =>
    obtain ⟨_, _, _, _, _, _, _, _, _, _, _, _, z⟩ := h
    exact z.elim
  | .ok (.ret u), ⟨v, H2, os, bare, un, held2, ru, q⟩ =>
    have q' : v = .bl true := q
    subst q'
    obtain rfl : u = Value.bool true := ru
    refine ⟨rfl, OldK.of_keep fun b o e => ?_, os, bare⟩
    cases z : hp0 K a ob ns b with
    | none => exact un.keep b o e z (by intro y; cases y) (by simp)
    | some u =>
      obtain ⟨_, _, rfl⟩ := hp0_some z
      obtain ⟨e1, _⟩ := held b _ z
      obtain ⟨e2, _⟩ := held2 b _ (un.frzs b ob _ z)
      rw [e] at e1
      cases e1
      exact e2
/-- the goal that k_head leaves, from the law's promise -/
theorem walkG {l : PySem.W.OpenLaw} {n k : Nat} {q : Program} {loose : List Str} {XP : (Str → Option Value) → Heap → Prop} {YP : World → Heap → Prop} {d : DefRec} {K : Params → PySem.W.Frag} {sp : World → Sp} {x : Str}
    (hn : l.most = some n) (hi : importsNone q = true) (hn2 : n ≤ sizeLine) (hdf : d.params.defaults = []) (room : Room k callerA) (hY : ∀ (w : World) (h : Heap), YP w h → (K w.params).In h)
    (F : ∀ (w : World) (mg : Str → Option Value) (fa : Addr) (h : Heap), (K w.params).In h → h.Ns mainGlobals mg → mg d.name = some (.ref fa) →
      ∃ fd : FuncData, (∀ (s : Shared) (u : Value), BindsTo s fd ⟨[u], []⟩ [(x, u)]) ∧ ∀ base : Heap, (K w.params).In base → base.Ns mainGlobals mg → SmB base → FnG l.prog w (K w.params) mg base k fa fd [x] (sp w))
    (want : ∀ (w : World) (H : Hp) (a : Addr) (ns : List Int), ns.length ≤ n → SqL (K w.params) H a (ns.map V.int) → sp w [.ref a] H (fun v _ => v = .bl true) fun _ _ _ => False) :
    PySem.W.WalkO q loose XP YP l.row.toRowW d [] (fun f vs => PySem.call f vs) :=
  Att.attach_call hn hdf fun w s0 s1 mg mb fa o pm cd doc a vs ns G Y ho hd hcd hmg hobj hints hlen hg => by
    obtain ⟨fd, hb, hF⟩ := F w mg fa _ (hY w _ Y) G.T.g hmg
    exact law_callG (hY w _ Y) G.T.g G.T.b G.T.builtins G.T.nolimit hg hobj hints (Nat.le_trans hlen hn2) room (let ⟨mm, h, _⟩ := (G.T.seer hi).mods; ⟨mm, h⟩) hF hb fun H hS => want w H a ns hlen hS
/-- a law whose first statement makes the stream; the rest by data -/
def spLaw (K : PySem.W.Frag) : Sp := fun vs H Q _ => ∃ (a : Addr) (ns : List Int), vs = [.ref a] ∧ SqL K H a (ns.map V.int) ∧ ns.length ≤ 63 ∧ ∀ H', Q (.bl true) H'
@[simp] def kLaw : K3 stg := { nx := fun _ _ => False, rt := fun d _ => d = .bl true, bk := fun _ _ => False, ct := fun _ _ => False }
/-- the slots at the law's first step: the script is not looked at any more -/
@[simp] def rhoLaw (n i : Nat) : DEnv := (List.replicate n Sl.no).set i (.im (.ob 0))
theorem takes_none {M : Ghost} {X : Cx} {W0 B : Wd M} : TakesD (M := M) ⟨X, W0, xno, B⟩ := fun u s' x => by
  obtain ⟨_, _, _, _, _, _, _, _, _, _, _, _, _, _, _, _, z⟩ := x
  obtain ⟨_, _, _, _, _, _, y⟩ := z
  exact y.elim
theorem law_of {P : Program} {w : World} {K : PySem.W.Frag} {mg : Str → Option Value} {base : Heap} {x qual scr : Str} {st st0 : Stmt} {rest : List Stmt} {f : Addr} {fd : FuncData} {N : List Str} {k i : Nat} {wr : SW stg} (F : Fun K x qual st f fd) (Sc : FnScope N [scr] (defScope st)) (hi : 0 < i)
    (hst : defBody st = st0 :: rest)
    (h0 : ∀ (cdv : Value) (A : Around) (outer : List Env) (s : Shared) (H : Hp) (E : XK), Room k (A.deeper (envOfC qual (defScope st) s.heap.objs.size f cdv)) → A.guards = some [] →
      PS (cxOf (L2N.CX P w) P w K mg base N qual (defScope st) f cdv A outer s H E) st0 (tAsg (tCallG (spStream K) (fun _ => E0) (tCons (tVar 0) tNil)) (gName i)))
    (hbody : ∀ (cdv : Value) (A : Around) (outer : List Env) (s : Shared) (H : Hp) (E : XK) (W0 : Wd stg), Room k (A.deeper (envOfC qual (defScope st) s.heap.objs.size f cdv)) → A.guards = some [] →
      TakesD (M := stg) ⟨cxOf (L2N.CX P w) P w K mg base N qual (defScope st) f cdv A outer s H E, W0, xno, W0⟩ → DSs (M := stg) ⟨cxOf (L2N.CX P w) P w K mg base N qual (defScope st) f cdv A outer s H E, W0, xno, W0⟩ rest wr)
    (hpure : wr kLaw (rhoLaw N.length i) 0) : FnG P w K mg base (k + 1) f fd [scr] (spLaw K) := by
  refine fng_of F Sc (fun vs H Q E h => ?_) (fun cdv A outer s H vs Q E hr hgd h => ?_)
  · obtain ⟨a, ns, rfl, _⟩ := h
    rfl
  · obtain ⟨a, ns, rfl, hS, hlen, hQ⟩ := h
    rw [hst]
    refine ⟨_, pss_cons (h0 cdv A outer s H E hr hgd) pss_tOf, ?_⟩
    have hN : 0 < N.length := by
      have := congrArg List.length Sc.pre
      rw [List.length_take] at this
      simp at this
      omega
    refine ⟨.ref a, ?_, a, ns, rfl, hS, hlen, fun H1 p b c L cs sm np nb nc pb pc bc hp hb hc hcs => ?_⟩
    · unfold L2.start
      rw [List.map_cons, List.cons_append]
      rfl
    have none1 : ∀ {q r : Addr} {o : HO}, q ≠ r → upd (fun _ => none) r o q = none := fun h => upd_ne h
    have sub1 : Same (upd (fun _ => none) c (.lst (cs.map V.int))) H1 := fun q o e => by
      by_cases z : q = c
      · subst z; rw [upd_same] at e; cases e; exact hc
      · rw [none1 z] at e; cases e
    generalize hW1 : ({ F := upd (fun _ => none) c (.lst (cs.map V.int)), H := H1, R := [p, b], g := (0 : Nat) } : Wd stg) = W1
    have ok1 : Wok K W1 := by
      subst hW1
      refine ⟨sub1, ⟨rfl, fun _ => ⟨p, b, c, L, cs, 0, rfl, rfl, pb, hp, hb, upd_same (H := fun _ => none) (a := c) (o := .lst (cs.map V.int)), Int.le_refl _, Int.le_refl _, hcs⟩⟩, fun q hq => ?_, fun q hq => ?_⟩
      · rcases List.mem_cons.mp hq with rfl | hq
        · exact none1 pc
        · rw [List.mem_singleton.mp hq]; exact none1 bc
      · rcases List.mem_cons.mp hq with rfl | hq
        · show H1 q ≠ none; rw [hp]; simp
        · rw [List.mem_singleton.mp hq]; show H1 b ≠ none; rw [hb]; simp
    have eH : W1.H = H1 := by subst hW1; rfl
    have eg : W1.g = (0 : Nat) := by subst hW1; rfl
    have eR : W1.R = [p, b] := by subst hW1; rfl
    have sat : Sat (M := stg) ⟨cxOf (L2N.CX P w) P w K mg base N qual (defScope st) f cdv A outer s H E, W1, xno, W1⟩ ((L2.start N [.ref a]).set i (some (.ref p))) (rhoLaw N.length i) W1 := by
      refine ⟨ok1, Go.refl _, ?_, fun j t e => ?_, fun j l s1 s2 q e1 _ w1 _ _ _ => ?_, Gs.refl _⟩
      · unfold rhoLaw L2.start
        simp
        omega
      · unfold rhoLaw at e
        have hj : j < N.length := by
          have := (List.getElem?_eq_some_iff.mp e).1
          simpa using this
        have hs : (L2.start N [.ref a]).length = N.length := by
          unfold L2.start
          simp
          omega
        by_cases z : i = j
        · subst z
          rw [List.getElem?_set_self (by simpa using hj)] at e
          cases e
          exact ⟨_, List.getElem?_set_self (by rw [hs]; exact hj), .ref p, rfl, .ob (by rw [eR]; rfl)⟩
        · rw [List.getElem?_set_ne z, List.getElem?_replicate, if_pos hj] at e
          cases e
          exact ⟨_, List.getElem?_eq_getElem (by rw [List.length_set, hs]; exact hj), trivial⟩
      · unfold rhoLaw at e1
        by_cases z : i = j
        · subst z
          have hj := (List.getElem?_eq_some_iff.mp e1).1
          rw [List.length_set] at hj
          rw [List.getElem?_set_self hj] at e1
          cases e1
          cases w1
        · rw [List.getElem?_set_ne z, List.getElem?_replicate] at e1
          split at e1 <;> cases e1
          cases w1
    show tssOf _ rest _ _ H1
    rw [← eH]
    refine (hbody cdv A outer s H E W1 hr hgd takes_none).run _ _ W1 kLaw _ sat ⟨fun _ _ _ _ _ z => z.elim, fun v d W' _ _ r z => ?_, fun _ _ _ _ _ z => z.elim, fun _ _ _ _ _ z => z.elim⟩ (by rw [eg]; exact hpure)
    have z' : d = .bl true := z
    subst z'
    rw [r.bl_inv]
    exact hQ _
theorem passLN {X : Cx} : L2.Passes (L2N.CX X.prog X.w) X E0 := fun pins σ H s e s' I c => by
  obtain ⟨a, B, H', cls, d, _, _, _, _, _, _, _, z⟩ := c
  exact z.elim
end DL
set_option Elab.async false
set_option linter.all false
set_option maxRecDepth 100000
set_option maxHeartbeats 1000000
namespace DL
open PySem L2
/-- a def of the text that keeps a promise by data: called by its name -/
structure FnB (P : Program) (w : World) (K : PySem.W.Frag) (mg : Str → Option Value) (base : Heap) (k : Nat) (x : Str) (ps : List Str) (sp : Sp) : Prop where
  ex : ∃ (f : Addr) (fd : FuncData), FnG P w K mg base k f fd ps sp ∧ mg x = some (.ref f) ∧ PySem.W.keepIn K (.ref f) = true ∧ Binds K fd ps []
section
variable {M : Ghost} {C : Ct M} {W W1 W2 W' : Wd M} {σ : L2.St} {ρ : DEnv} {e : Expr} {es : List Expr} {we : EW M} {pos p : Pos} {wa : AW M}
@[simp] def wCallB (n : Nat) (sp : DSp M) (wa : AW M) (EX : Exn → DEnv → M.G → Prop) : EW M := fun ρ g q => wa ρ g fun ds g' => ds.length = n ∧ sp ds g' q fun x g2 => EX x ρ g2
theorem de_callF {k : Nat} {ps : List Str} {n : Nat} {sp : DSp M} {x : Str} (F : FnB C.X.prog C.X.w C.X.K C.X.mg C.X.base k x ps (liftSp C.X.K C.X.mg n sp)) (hgd : C.X.A.guards = some []) (hr : Room k C.X.A) (tk : TakesD C) (ha : DA C (e :: es) wa)
    (hg : Gl C.X x := by rfl) (hdb : (x == ("__debug__" : Str)) = false := by decide) (he : starEach (e :: es) C.X.env = (false, eval e C.X.env) :: starEach es C.X.env := by rfl) (hpl : (backTo pos (starEach es C.X.env)).any (·.1) = false := by rfl) :
    DE C (.Call (.Name x p) (e :: es) [] pos) (wCallB n sp wa C.EX) := ⟨fun σ ρ W Q q S hQ hw => by
  obtain ⟨f, fd, F, hm, hk, hb⟩ := F.ex
  exact tOf_of (pe_callG (E := fun σ => EXs C σ) F hgd hr hg hm hk hb (fun σ => L2N.passAt tk σ) pa_tOf hdb he hpl) (ha.run σ ρ W _ _ S (fun vs ds W1 g1 k1 r1 q1 =>
    ⟨W1, ds, q, fun x g => C.EX x ρ g, rfl, k1, r1, q1.1, q1.2, fun v d W2 g2 k2 r2 q2 => hQ v d W2 (g1.trans g2) k2 r2 q2, fun cls d H' h => exs_of (S.step g1 k1) (fun _ _ z => z) h⟩) hw)⟩
/-- .. that may be called where an exception is handled -/
structure FnQB (P : Program) (w : World) (K : PySem.W.Frag) (mg : Str → Option Value) (base : Heap) (k : Nat) (x : Str) (ps : List Str) (sp : Around → Sp) : Prop where
  ex : ∃ (f : Addr) (fd : FuncData), FnQ P w K mg base k f fd ps sp ∧ mg x = some (.ref f) ∧ PySem.W.keepIn K (.ref f) = true ∧ Binds K fd ps []
theorem lift_hot {M : Ghost} {K : PySem.W.Frag} {mg : Str → Option Value} {n : Nat} {sp : DSp M} {A : Around} {xs : List V} {H : Hp} {Q : VK} {E : XK} (hd : A.handled = none) (h : liftSp K mg n sp xs H Q E) : liftSpH K mg n sp A xs H Q E := by
  obtain ⟨W, ds, q, ex, h1, h2, h3, h4, h5, h6⟩ := h
  exact ⟨W, ds, q, ex, h1, h2, h3, h4, h5, h6, .inl hd⟩
theorem lift_len {M : Ghost} {K : PySem.W.Frag} {mg : Str → Option Value} {n : Nat} {sp : DSp M} {xs : List V} {H : Hp} {Q : VK} {E : XK} (h : liftSp K mg n sp xs H Q E) : xs.length = n := by
  obtain ⟨W, ds, q, ex, h1, h2, h3, h4, _⟩ := h
  rw [h3.length, h4]
theorem FnQB.b {M : Ghost} {P : Program} {w : World} {K : PySem.W.Frag} {mg : Str → Option Value} {base : Heap} {k n : Nat} {x : Str} {ps : List Str} {sp : DSp M} (F : FnQB P w K mg base k x ps (liftSpH K mg n sp)) (hn : n = ps.length := by rfl) : FnB P w K mg base k x ps (liftSp K mg n sp) := by
  subst hn
  obtain ⟨f, fd, F, h⟩ := F.ex
  exact ⟨f, fd, F.g (fun _ _ _ _ => lift_len) (fun _ _ _ _ _ hd => lift_hot hd), h⟩
theorem fnB_of {P : Program} {w : World} {K : PySem.W.Frag} {mg : Str → Option Value} {base : Heap} {x qual : Str} {st : Stmt} {f : Addr} {fd : FuncData} {k : Nat} {ps : List Str} {sp : Sp} (F : Fun K x qual st f fd) (g : mg x = some (.ref f)) (G : FnG P w K mg base k f fd ps sp) (b : Binds K fd ps []) : FnB P w K mg base k x ps sp :=
  ⟨f, fd, G, g, F.kp, b⟩

/-- the end of a def over the stream: the bound may be given greater -/
@[simp] def kEndS (q : D → Nat → Prop) : K3 stg := { nx := fun _ (g : Nat) => ∃ n : Nat, g ≤ n ∧ q .non n, rt := fun d (g : Nat) => ∃ n : Nat, g ≤ n ∧ q d n, bk := fun _ _ => False, ct := fun _ _ => False }
theorem fnS_of {P : Program} {w : World} {K : PySem.W.Frag} {mg : Str → Option Value} {base : Heap} {x qual : Str} {st : Stmt} {f : Addr} {fd : FuncData} {N ps : List Str} {k : Nat} {sp : DSp stg} {wb : (Exn → stg.G → Prop) → SW stg} (F : Fun K x qual st f fd) (Sc : FnScope N ps (defScope st))
    (hbody : ∀ (cdv : Value) (A : Around) (outer : List Env) (s : Shared) (H : Hp) (E : XK) (W0 : Wd stg) (EX : Exn → stg.G → Prop), Room k (A.deeper (PyProof.Rows.envOfC qual (defScope st) s.heap.objs.size f cdv)) → A.guards = some [] →
      TakesD (M := stg) ⟨cxOf (L2N.CX P w) P w K mg base N qual (defScope st) f cdv A outer s H E, W0, xk EX, W0⟩ → DSs (M := stg) ⟨cxOf (L2N.CX P w) P w K mg base N qual (defScope st) f cdv A outer s H E, W0, xk EX, W0⟩ (defBody st) (wb EX))
    (hpure : ∀ (ds : List D) (g : Nat) (q : D → Nat → Prop) (ex : Exn → Nat → Prop), ds.length = ps.length → sp ds g q ex → wb ex (kEndS q) (startD N ds) g) :
    FnG P w K mg base (k + 1) f fd ps (liftSp K mg ps.length sp) := by
  refine fng_of F Sc (fun vs H Q E h => ?_) (fun cdv A outer s H vs Q E hr hgd h => ?_)
  · obtain ⟨W, ds, q, ex, _, _, r, hl, _⟩ := h
    rw [r.length, hl]
  · obtain ⟨W, ds, q, ex, rfl, ok, r, hl, hsp, hQ, hE⟩ := h
    have tk : TakesD (M := stg) ⟨cxOf (L2N.CX P w) P w K mg base N qual (defScope st) f cdv A outer s W.H E, W, xk ex, W⟩ := fun u s' x =>
      L2N.takes_of (X := cxOf (L2N.CX P w) P w K mg base N qual (defScope st) f cdv A outer s W.H E) rfl rfl rfl rfl u s' (by
        obtain ⟨a, B, sI, pins, σ, H, cls, d, e, I, nb, up, sky, na, os, ag, x, ρ, W', z1, z2, z3, z4⟩ := x
        exact ⟨a, B, sI, pins, σ, H, cls, d, e, I, nb, up, sky, na, os, ag, hE _ _ _ ⟨x, W', z1, z2.go, z2.ok, z3, z4⟩⟩)
    refine ⟨_, pss_tOf, ?_⟩
    refine (hbody cdv A outer s W.H E W ex hr hgd tk).run _ _ W (kEndS q) _ (sat_start ok rfl rfl r) ⟨fun σ' ρ' W' g S' h => ?_, fun v d W' g k r h => ?_, fun _ _ _ _ _ h => h.elim, fun _ _ _ _ _ h => h.elim⟩ (hpure ds W.g q ex hl hsp)
    · obtain ⟨n, hn, h⟩ := h
      exact hQ .non .non ({ W' with g := n } : Wd stg) (S'.go.trans (go_more (n := n))) (wok_more S'.ok hn) .non h
    · obtain ⟨n, hn, h⟩ := h
      exact hQ v d ({ W' with g := n } : Wd stg) (g.trans (go_more (n := n))) (wok_more k hn) r h
theorem wk_rng {K : PySem.W.Frag} (lo : Int) (n : Nat) : WK K W (Itr lo n) ((List.range n).map fun (i : Nat) => D.int (lo + i)) where
  go := fun i W1 d g k e => by
    rw [List.getElem?_map] at e
    by_cases hi : i < n
    · rw [List.getElem?_range hi] at e
      cases e
      refine ⟨hi, fun x H' y => ?_⟩
      obtain ⟨rfl, rfl⟩ := y
      exact ⟨W1, rfl, Go.refl _, k, rfl, .int _⟩
    · rw [List.getElem?_eq_none (by simpa using hi)] at e
      cases e
  stop := fun i W1 g k e => by
    have := List.getElem?_eq_none_iff.mp e
    rw [List.length_map, List.length_range] at this
    exact this
def rngL (lo hi : Int) : List D := (List.range (hi - lo).toNat).map fun (i : Nat) => D.int (lo + i)
@[simp] def wRng1 (wa : EW M) : IW M := fun ρ g q => wa ρ g fun d g' => asI d fun j => -(2 ^ 62) ≤ j ∧ j < 2 ^ 62 ∧ q (rngL 0 j) g'
theorem di_range1 {tg a : Expr} {wa : EW M} (hm : C.X.mg "range" = none) (ha : DE C a wa) (hg : Gl C.X "range" := by rfl) (hs : starEach [a] C.X.env = [(false, eval a C.X.env)] := by rfl) (hs2 : starEach [a] C.X.env = (false, eval a C.X.env) :: starEach [] C.X.env := by rfl) :
    DI C tg (.Call (.Name "range" p) [a] [] pos) (wRng1 wa) := ⟨fun σ ρ W R q S hR hw => iOf_of (pi_range1 hg hm (pa_cons pe_tOf pa_nil hs2) hs) (ha.run σ ρ W _ _ S (fun v d W1 g1 k1 r1 q1 => by
  cases d with
  | int j =>
    cases r1
    refine ⟨j, rfl, q1.1, q1.2.1, ?_⟩
    have e : rngL 0 j = (List.range j.toNat).map fun (i : Nat) => D.int (0 + i) := by unfold rngL; rw [Int.sub_zero]
    exact hR _ _ W1 g1 k1 (e ▸ wk_rng 0 j.toNat) q1.2.2
  | _ => exact q1.elim) hw)⟩
@[simp] def wRng2 (wa wb : EW M) : IW M := fun ρ g q => wa ρ g fun d g1 => wb ρ g1 fun e g2 => asI d fun i => asI e fun j => (-(2 ^ 62) ≤ i ∧ i < 2 ^ 62 ∧ -(2 ^ 62) ≤ j ∧ j < 2 ^ 62) ∧ q (rngL i j) g2
theorem di_range2 {tg a b : Expr} {wa wb : EW M} (hm : C.X.mg "range" = none) (ha : DE C a wa) (hb : DE C b wb) (hg : Gl C.X "range" := by rfl) (hs : starEach [a, b] C.X.env = [(false, eval a C.X.env), (false, eval b C.X.env)] := by rfl) (hs2 : starEach [b] C.X.env = [(false, eval b C.X.env)] := by rfl)
    (h1 : starEach [a, b] C.X.env = (false, eval a C.X.env) :: starEach [b] C.X.env := by rfl) (h2 : starEach [b] C.X.env = (false, eval b C.X.env) :: starEach [] C.X.env := by rfl) :
    DI C tg (.Call (.Name "range" p) [a, b] [] pos) (wRng2 wa wb) := ⟨fun σ ρ W R q S hR hw => iOf_of (pi_range2 hg hm (pa_cons pe_tOf (pa_cons pe_tOf pa_nil h2) h1) hs hs2) (ha.run σ ρ W _ _ S (fun v d W1 g1 k1 r1 q1 => by
  refine hb.run σ ρ W1 _ _ (S.step g1 k1) (fun u d2 W2 g2 k2 r2 q2 => ?_) q1
  cases d with
  | int i =>
    cases d2 with
    | int j =>
      cases r1
      cases r2
      exact ⟨i, j, rfl, q2.1, hR _ _ W2 (g1.trans g2) k2 (wk_rng i (j - i).toNat) q2.2⟩
    | _ => exact q2.elim
  | _ => exact q2.elim) hw)⟩

end
end DL
set_option Elab.async false
set_option linter.all false
set_option maxRecDepth 100000
set_option maxHeartbeats 1000000
namespace DL
open PySem
section
variable {prog : Program} {w : World} {A : Around} {E : Value → Shared → Prop} {s : Shared}
def Slot0 (v : Value) : Prop := v = .none ∨ ∃ T : Nat, v = rawInt T
abbrev enObj (s0 : Value) (f : Bool) (it : Addr) (i : Int) (old : Value) : Obj := { cls := .type "enumerate", dict := none, data := .fields #[s0, .bool f, .ref it, rawInt i, .none, old], slots := #[] }
abbrev ziObj (s0 : Value) (f : Bool) (TI TO : Addr) : Obj := { cls := .type "zip", dict := none, data := .fields #[s0, .bool f, .bool false, .ref TI, .ref TO], slots := #[] }
def EnA (h : Heap) (e it : Addr) (i : Int) : Prop := ∃ s0 f old, Slot0 s0 ∧ h.get? e = some (enObj s0 f it i old)
def ZiA (h : Heap) (z TI TO : Addr) : Prop := ∃ s0 f, Slot0 s0 ∧ h.get? z = some (ziObj s0 f TI TO)
theorem alive_any {a : Addr} {Q : Option Obj → Shared → Prop} (h : Q (s.heap.get? a) s) : wpAny (model prog w) A (loadIfAlive a) Q E s := fun _ _ _ => h
theorem free_en {e it : Addr} {s0 old : Value} {f : Bool} {i : Int} {Q : Bool → Shared → Prop} (he : s.heap.get? e = some (enObj s0 f it i old)) (hs : Slot0 s0) (h1 : Q true s)
    (h2 : ∀ h' f', h'.get? e = some (enObj s0 f' it i old) → Heap.SameBut e s.heap h' → Q false { s with heap := h' }) : wpAny (model prog w) A (Builtin.SmallTypes.ownedTupleIsFree (.ref e)) Q E s := by
  unfold Builtin.SmallTypes.ownedTupleIsFree
  refine wpAny_bind (wpAny_field he rfl (x := s0) rfl ?_)
  rcases hs with rfl | ⟨T, rfl⟩
  · exact wpAny_pure h1
  · show wpAny _ _ (loadIfAlive ((T : Int).toNat) >>= _) _ _ _
    rw [Int.toNat_natCast]
    refine wpAny_bind (alive_any ?_)
    cases s.heap.get? T with
    | none => exact wpAny_pure h1
    | some oT =>
      simp only [Option.isNone_some, Bool.false_eq_true, if_false]
      refine wpAny_bind (wpAny_field he rfl (x := .bool f) rfl ?_)
      cases f with
      | true =>
        rw [if_neg (show ¬ ((Value.bool true != Value.bool true) = true) from Bool.false_ne_true)]
        exact wpAny_pure (h2 s.heap true he (Heap.SameBut.refl _ _))
      | false =>
        rw [if_pos (show (Value.bool false != Value.bool true) = true from rfl)]
        exact wpAny_bind (wpAny_setField_rec he (by simp) fun h₁ hz₁ hs₁ => wpAny_pure (h2 h₁ true hz₁ hs₁))
theorem free_zi {z TI TO : Addr} {s0 : Value} {f : Bool} {Q : Bool → Shared → Prop} (he : s.heap.get? z = some (ziObj s0 f TI TO)) (hs : Slot0 s0) (h1 : Q true s)
    (h2 : ∀ h' f', h'.get? z = some (ziObj s0 f' TI TO) → Heap.SameBut z s.heap h' → Q false { s with heap := h' }) : wpAny (model prog w) A (Builtin.SmallTypes.ownedTupleIsFree (.ref z)) Q E s := by
  unfold Builtin.SmallTypes.ownedTupleIsFree
  refine wpAny_bind (wpAny_field he rfl (x := s0) rfl ?_)
  rcases hs with rfl | ⟨T, rfl⟩
  · exact wpAny_pure h1
  · show wpAny _ _ (loadIfAlive ((T : Int).toNat) >>= _) _ _ _
    rw [Int.toNat_natCast]
    refine wpAny_bind (alive_any ?_)
    cases s.heap.get? T with
    | none => exact wpAny_pure h1
    | some oT =>
      simp only [Option.isNone_some, Bool.false_eq_true, if_false]
      refine wpAny_bind (wpAny_field he rfl (x := .bool f) rfl ?_)
      cases f with
      | true =>
        rw [if_neg (show ¬ ((Value.bool true != Value.bool true) = true) from Bool.false_ne_true)]
        exact wpAny_pure (h2 s.heap true he (Heap.SameBut.refl _ _))
      | false =>
        rw [if_pos (show (Value.bool false != Value.bool true) = true from rfl)]
        exact wpAny_bind (wpAny_setField_rec he (by simp) fun h₁ hz₁ hs₁ => wpAny_pure (h2 h₁ true hz₁ hs₁))
/-- what the draws of an iterator are, which may lay new things -/
structure Dr (prog : Program) (w : World) (A : Around) (it : Addr) (fp wr : List Addr) (n : Nat) (P : Nat → Value → Nat → Nat → Heap → Prop) (St : Nat → Heap → Prop) : Prop where
  sub : ∀ b ∈ wr, b ∈ fp
  mem : it ∈ wr
  live : ∀ i h, St i h → ∀ b ∈ wr, ∃ o, h.get? b = some o
  frame : ∀ i h h', St i h → (∀ b ∈ fp, ∀ o, h.get? b = some o → h'.get? b = some o) → St i h'
  grow : ∀ i x N Z h h', P i x N Z h → (∀ b o, N ≤ b → h.get? b = some o → h'.get? b = some o) → P i x N Z h'
  item : ∀ i (s : Shared) (Q : Value → Shared → Prop) (E : Value → Shared → Prop), i < n → St i s.heap →
    (∀ x h' tk, P i x s.heap.objs.size h'.objs.size h' → St (i + 1) h' → s.heap.objs.size ≤ h'.objs.size → (∀ b o, b ∉ wr → s.heap.get? b = some o → h'.get? b = some o) → Q x { s with heap := h', toks := tk }) →
    wpAny (model prog w) A (Builtin.SmallTypes.nextOf (.ref it)) Q E s
  done : ∀ (s : Shared) (Q : Value → Shared → Prop) (E : Value → Shared → Prop), St n s.heap →
    (∀ h' tk e, (∀ b o, b ∉ wr → s.heap.get? b = some o → h'.get? b = some o) → (∃ o, h'.get? e = some o ∧ o.cls = .type "StopIteration") → E (.ref e) { s with heap := h', toks := tk }) →
    wpAny (model prog w) A (Builtin.SmallTypes.nextOf (.ref it)) Q E s
theorem Dr.of {it : Addr} {fp : List Addr} {n : Nat} {P : Nat → Value → Prop} {St : Nat → Heap → Prop} (D : Draws prog w A it fp n P St) (hm : it ∈ fp) : Dr prog w A it fp [it] n (fun i x _ _ _ => P i x) St where
  sub := fun b hb => by rw [List.mem_singleton.mp hb]; exact hm
  mem := List.mem_singleton_self _
  live := fun i h st b hb => by rw [List.mem_singleton.mp hb]; exact D.live i h st
  frame := D.frame
  grow := fun _ _ _ _ _ _ h _ => h
  item := fun i s Q E hi st hQ => D.item i s Q E hi st fun x h' tk p st' sb => hQ x h' tk p st' (by rw [sb.1]; exact Nat.le_refl _) fun b o hb e => sb.extBut b o (fun q => hb (by simp [q])) e
  done := fun s Q E st hE => D.done s Q E st fun h' e k he => hE h' s.toks e (fun b o hb x => k b o (fun q => hb (by simp [q])) x) he

theorem en_item {e it : Addr} {fp wr : List Addr} {n i : Nat} {P : Nat → Value → Nat → Nat → Heap → Prop} {St : Nat → Heap → Prop} {Q : Value → Shared → Prop}
    (D : Dr prog w A it fp wr n P St) (he : EnA s.heap e it (i : Nat)) (hst : St i s.heap) (hlt : i < n) (hef : e ∉ fp)
    (hQ : ∀ x h' tk T t Z, P i x s.heap.objs.size Z h' → s.heap.objs.size ≤ Z → Z ≤ T → T < h'.objs.size → EnA h' e it ((i + 1 : Nat) : Int) → St (i + 1) h' →
      h'.get? T = some { cls := .type "tuple", data := .seq #[.int (i : Nat) t, x] } →
      (∀ b o, b ≠ e → b ∉ wr → s.heap.get? b = some o → h'.get? b = some o) → Q (.ref T) { s with heap := h', toks := tk }) :
    wpAny (model prog w) A (Builtin.«enumerate.__next__» ⟨[.ref e], []⟩) (fun fin s' => ∃ v, fin = .done (.ret v) ∧ Q v s') E s := by
  have hew : e ∉ wr := fun q => hef (D.sub e q)
  obtain ⟨s0, f, old, hs0, he⟩ := he
  obtain ⟨hp, g, d, tk₀, os⟩ := s
  show wpAny _ _ (field (.ref e) 2 >>= _) _ _ _
  refine wpAny_bind (wpAny_field he rfl (x := .ref it) rfl ?_)
  refine wpAny_bind (D.item i _ _ _ hlt hst fun x h₁ tk hPx hit₁ hle₁ hk₁ => ?_)
  replace hk₁ : ∀ b o, b ∉ wr → hp.get? b = some o → h₁.get? b = some o := hk₁
  replace hle₁ : hp.objs.size ≤ h₁.objs.size := hle₁
  have he₁ : h₁.get? e = some (enObj s0 f it i old) := hk₁ e _ hew he
  show wpAny _ _ (field (.ref e) 3 >>= _) _ _ ⟨h₁, g, d, tk, os⟩
  refine wpAny_bind (wpAny_field he₁ rfl (x := rawInt i) rfl ?_)
  show wpAny _ _ (field (.ref e) 4 >>= _) _ _ ⟨h₁, g, d, tk, os⟩
  refine wpAny_bind (wpAny_field he₁ rfl (x := .none) rfl ?_)
  show wpAny _ _ (mkInt i >>= _) _ _ ⟨h₁, g, d, tk, os⟩
  refine wpAny_bind (wpAny_mkInt ?_)
  show wpAny _ _ (setField (.ref e) 3 (rawInt ((i : Int) + 1)) >>= _) _ _ ⟨h₁, g, d, tk + 1, os⟩
  refine wpAny_bind (wpAny_setField_rec he₁ (by simp) fun h₂ he₂ hs₂ => ?_)
  replace hs₂ : Heap.SameBut e h₁ h₂ := hs₂
  replace he₂ : h₂.get? e = some (enObj s0 f it ((i : Int) + 1) old) := he₂
  show wpAny _ _ (setField (.ref e) 4 .none >>= _) _ _ ⟨h₂, g, d, tk + 1, os⟩
  refine wpAny_bind (wpAny_setField_rec he₂ (by simp) fun h₃ he₃ hs₃ => ?_)
  replace hs₃ : Heap.SameBut e h₂ h₃ := hs₃
  replace he₃ : h₃.get? e = some (enObj s0 f it ((i : Int) + 1) old) := he₃
  show wpAny _ _ (newTuple [.int i tk, x] >>= _) _ _ ⟨h₃, g, d, tk + 1, os⟩
  refine wpAny_bind (wpAny_newTuple ?_)
  have he₄ : (h₃.push { cls := .type "tuple", data := .seq #[.int i tk, x] }).get? e = some (enObj s0 f it ((i : Int) + 1) old) := Heap.get?_push_of_some _ he₃
  have hsz : h₃.objs.size = h₁.objs.size := by rw [hs₃.1, hs₂.1]
  have hel : e < h₁.objs.size := Heap.lt_size he₁
  have help : e < hp.objs.size := Heap.lt_size he
  have e1 : ((i + 1 : Nat) : Int) = (i : Int) + 1 := by omega
  generalize hh₄ : h₃.push { cls := .type "tuple", data := .seq #[.int i tk, x] } = h₄ at he₄
  have ht₄ : h₄.get? h₁.objs.size = some { cls := .type "tuple", data := .seq #[.int i tk, x] } := by rw [← hh₄, ← hsz]; exact Heap.get?_push_size _ rfl
  have hz₄ : h₄.objs.size = h₁.objs.size + 1 := by rw [← hh₄, Heap.size_push, hsz]
  have hk₄ : ∀ b o, b ≠ e → h₁.get? b = some o → h₄.get? b = some o := fun b o hbe hb => by
    rw [← hh₄]; exact Heap.get?_push_of_some _ (hs₃.extBut b o hbe (hs₂.extBut b o hbe hb))
  have fin : ∀ h₅ (tk5 : Nat), EnA h₅ e it ((i : Int) + 1) → h₅.objs.size = h₄.objs.size → (∀ b o, b ≠ e → h₄.get? b = some o → h₅.get? b = some o) → Q (.ref h₁.objs.size) ⟨h₅, g, d, tk5, os⟩ := fun h₅ tk5 en z5 k5 => by
    refine hQ x h₅ tk5 h₁.objs.size tk h₁.objs.size ?_ hle₁ (Nat.le_refl _) (by rw [z5, hz₄]; exact Nat.lt_succ_self _) (by rw [e1]; exact en) ?_ (k5 _ _ (Nat.ne_of_gt hel) ht₄) ?_
    · exact D.grow _ _ _ _ _ _ hPx fun b o hb q => k5 b o (fun z => absurd (z ▸ hb) (Nat.not_le_of_lt help)) (hk₄ b o (fun z => absurd (z ▸ hb) (Nat.not_le_of_lt help)) q)
    · exact D.frame _ _ _ hit₁ fun b hb o y => k5 b o (fun q => hef (q ▸ hb)) (hk₄ b o (fun q => hef (q ▸ hb)) y)
    · exact fun b o hbe hbw y => k5 b o hbe (hk₄ b o hbe (hk₁ b o hbw y))
  show wpAny _ _ (Builtin.SmallTypes.ownedTupleIsFree (.ref e) >>= _) _ _ ⟨h₄, g, d, tk + 1, os⟩
  rw [hsz]
  refine wpAny_bind (free_en (s := ⟨h₄, g, d, tk + 1, os⟩) he₄ hs0 ?_ fun h₅ f' he₅ hs₅ => ?_)
  · simp only [if_true]
    refine wpAny_bind (wpAny_rule ?_)
    refine wpAny_bind (wpAny_field he₄ rfl (x := old) rfl ?_)
    refine wpAny_bind (wpAny_setField_rec he₄ (by simp) fun h₅ he₅ hs₅ => ?_)
    replace hs₅ : Heap.SameBut e h₄ h₅ := hs₅
    replace he₅ : h₅.get? e = some (enObj s0 f it ((i : Int) + 1) x) := he₅
    show wpAny _ _ (Builtin.SmallTypes.ownedTupleHandOut (.ref e) (.ref h₁.objs.size) >>= _) _ _ ⟨h₅, g, d, tk + 1, os⟩
    refine wpAny_bind ?_
    unfold Builtin.SmallTypes.ownedTupleHandOut
    refine wpAny_bind (wpAny_setField_rec he₅ (by simp) fun h₆ he₆ hs₆ => ?_)
    replace hs₆ : Heap.SameBut e h₅ h₆ := hs₆
    replace he₆ : h₆.get? e = some (enObj (rawInt h₁.objs.size) f it ((i : Int) + 1) x) := he₆
    refine wpAny_setField_rec he₆ (by simp) fun h₇ he₇ hs₇ => ?_
    replace hs₇ : Heap.SameBut e h₆ h₇ := hs₇
    replace he₇ : h₇.get? e = some (enObj (rawInt h₁.objs.size) false it ((i : Int) + 1) x) := he₇
    refine wpAny_bind (wpAny_letGo (wpAny_pure ⟨_, rfl, fin h₇ (tk + 1) ⟨_, _, _, .inr ⟨_, rfl⟩, he₇⟩ (by rw [hs₇.1, hs₆.1, hs₅.1]) fun b o hbe hb => hs₇.extBut b o hbe (hs₆.extBut b o hbe (hs₅.extBut b o hbe hb))⟩))
  · simp only [Bool.false_eq_true, if_false]
    exact wpAny_pure ⟨_, rfl, fin h₅ (tk + 1) ⟨_, _, _, hs0, he₅⟩ hs₅.1 fun b o hbe hb => hs₅.extBut b o hbe hb⟩
theorem en_pyNext_item {e it : Addr} {fp wr : List Addr} {n i : Nat} {P : Nat → Value → Nat → Nat → Heap → Prop} {St : Nat → Heap → Prop} {Q : Option Value → Shared → Prop}
    (D : Dr prog w A.in1 it fp wr n P St) (he : EnA s.heap e it (i : Nat)) (hst : St i s.heap) (hlt : i < n) (hef : e ∉ fp)
    (hQ : ∀ x h' tk T t Z, P i x s.heap.objs.size Z h' → s.heap.objs.size ≤ Z → Z ≤ T → T < h'.objs.size → EnA h' e it ((i + 1 : Nat) : Int) → St (i + 1) h' →
      h'.get? T = some { cls := .type "tuple", data := .seq #[.int (i : Nat) t, x] } →
      (∀ b o, b ≠ e → b ∉ wr → s.heap.get? b = some o → h'.get? b = some o) → Q (some (.ref T)) { s with heap := h', toks := tk }) :
    wpAny (model prog w) A (pyNext (.ref e)) Q E s := by
  have hT : s.TypeIs (.ref e) "enumerate" := by obtain ⟨_, _, _, _, q⟩ := he; exact ⟨_, q, rfl⟩
  unfold pyNext
  exact wpAny_bind (wpAny_attempt (wpAny_callSpecial?_slot (name := Str.ofString "__next__") hT F.slot_enumerate_next
    (wpAny_call_entry F.slot_enumerate_next hT F.entry_enumerate_next
      (en_item D he hst hlt hef fun x h' tk T t Z a1 a2 a3 a4 a5 a6 a7 a8 => wpAny_pure (hQ x h' tk T t Z a1 a2 a3 a4 a5 a6 a7 a8)) (F.args_enumerate_next_1 _))))
theorem en_pyNext_end {e it : Addr} {fp wr : List Addr} {n : Nat} {P : Nat → Value → Nat → Nat → Heap → Prop} {St : Nat → Heap → Prop} {i : Int} {Q : Option Value → Shared → Prop}
    (D : Dr prog w A.in1 it fp wr n P St) (he : EnA s.heap e it i) (hst : St n s.heap)
    (hQ : ∀ h' tk, (∀ b o, b ∉ wr → s.heap.get? b = some o → h'.get? b = some o) → Q none { s with heap := h', toks := tk }) : wpAny (model prog w) A (pyNext (.ref e)) Q E s := by
  obtain ⟨s0, f, old, hs0, he⟩ := he
  have hT : s.TypeIs (.ref e) "enumerate" := ⟨_, he, rfl⟩
  unfold pyNext
  refine wpAny_bind (wpAny_attempt (wpAny_callSpecial?_slot (name := Str.ofString "__next__") hT F.slot_enumerate_next
    (wpAny_call_entry F.slot_enumerate_next hT F.entry_enumerate_next ?_ (F.args_enumerate_next_1 _))))
  show wpAny _ _ (field (.ref e) 2 >>= _) _ _ _
  refine wpAny_bind (wpAny_field he rfl (x := .ref it) rfl ?_)
  refine wpAny_bind (D.done _ _ _ hst fun h' tk x he' hx' => ?_)
  obtain ⟨o, ho, hc⟩ := hx'
  refine wpAny_bind (wpAny_isInstance (T := "StopIteration") (b := true) ⟨o, ho, hc⟩ isSubtype_stop ?_)
  exact wpAny_pure (hQ _ _ he')
theorem en_go {tg : Expr} {e it : Addr} {u : Value} {i : Int} {Q : Unit → Shared → Prop} (he : EnA s.heap e it i)
    (hQ : ∀ h', EnA h' e it i → Heap.SameBut e s.heap h' → Q () { s with heap := h' }) : wpAny (model prog w) A (letOwnedTupleGo tg (.ref e) u) Q E s := by
  have hk : Q () s := hQ s.heap he (Heap.SameBut.refl _ _)
  obtain ⟨s0, f, old, hs0, he⟩ := he
  have go : ∀ a : Addr, wpAny (model prog w) A (do
      let o ← load e
      match o.cls, o.data with
      | .type n, .fields vs =>
        if ["enumerate", "zip", "dict_itemiterator", "dict_reverseitemiterator", "odict_iterator", "itertools.zip_longest", "itertools.pairwise"].contains n && vs[0]? == some (rawInt a) then
          rule "for.unpacks-the-owned-tuple"
          updateField e 0 .none
      | _, _ => pure ()) Q E s := by
    intro a
    refine wpAny_bind (wpAny_load he ?_)
    show wpAny _ A (if (_ && (some s0 == some (rawInt a))) = true then _ else _) Q E s
    split
    · refine wpAny_bind (wpAny_rule ?_)
      show wpAny _ A (setField (.ref e) 0 .none) Q E s
      exact wpAny_setField_rec he (by simp) fun h' he' hs' => hQ h' ⟨_, _, _, .inl rfl, he'⟩ hs'
    · exact wpAny_pure hk
  unfold letOwnedTupleGo
  cases tg <;> first | exact wpAny_pure hk | (cases u <;> first | exact wpAny_pure hk | exact go _)
end
section
variable {prog : Program} {w : World} {A : Around} {E : Value → Shared → Prop} {s : Shared} {z TI TO i1 i2 : Addr} {fp1 fp2 : List Addr} {n1 n2 i : Nat} {P1 P2 : Nat → Value → Prop} {St1 St2 : Nat → Heap → Prop} {a1 a2 : Value}
def OutZ (h : Heap) (TO : Addr) : Prop := ∃ a1 a2, IsTupOf2 h TO a1 a2
theorem zi_item {Q : Value → Shared → Prop} (S : ZipSep2 z TI TO i1 i2 fp1 fp2) (D1 : Draws prog w A i1 fp1 n1 P1 St1) (D2 : Draws prog w A i2 fp2 n2 P2 St2)
    (hz : ZiA s.heap z TI TO) (hTI : IsTupOf2 s.heap TI (.ref i1) (.ref i2)) (hTO : OutZ s.heap TO) (st1 : St1 i s.heap) (st2 : St2 i s.heap) (hlt1 : i < n1) (hlt2 : i < n2)
    (hQ : ∀ x1 x2 h' tk, P1 i x1 → P2 i x2 → ZiA h' z TI TO → OutZ h' TO → St1 (i + 1) h' → St2 (i + 1) h' → IsTupOf2 h' s.heap.objs.size x1 x2 → h'.objs.size = s.heap.objs.size + 1 →
      (∀ c o, c ≠ z → c ≠ TO → c ≠ i1 → c ≠ i2 → s.heap.get? c = some o → h'.get? c = some o) → Q (.ref s.heap.objs.size) { s with heap := h', toks := tk }) :
    wpAny (model prog w) A (Builtin.«zip.__next__» ⟨[.ref z], []⟩) (fun fin s' => ∃ v, fin = .done (.ret v) ∧ Q v s') E s := by
  obtain ⟨s0, f, hs0, hz⟩ := hz
  obtain ⟨a1, a2, hTO⟩ := hTO
  obtain ⟨hp, g, d, tk0, os⟩ := s
  show wpAny _ _ (field (.ref z) 2 >>= _) _ _ _
  refine wpAny_bind (wpAny_field hz rfl (x := .bool false) rfl ?_)
  show wpAny _ _ (field (.ref z) 3 >>= _) _ _ _
  refine wpAny_bind (wpAny_field hz rfl (x := .ref TI) rfl ?_)
  refine wpAny_bind (wpAny_seqItems hTI rfl ?_)
  show wpAny _ _ (Builtin.SmallTypes.ownedTupleIsFree (.ref z) >>= _) _ _ _
  refine wpAny_bind (free_zi (s := ⟨hp, g, d, tk0, os⟩) hz hs0 ?_ fun g0 f' hz0 hs0' => ?_)
  · simp only [if_true]
    refine wpAny_bind (wpAny_rule ?_)
    refine wpAny_bind (wpAny_field hz rfl (x := .ref TO) rfl ?_)
    refine wpAny_bind (wpAny_setField_rec hz (by simp) fun g0 hz0 hs0 => ?_)
    replace hz0 : g0.get? z = some (ziObj .ellipsis f TI TO) := hz0
    replace hs0 : Heap.SameBut z hp g0 := hs0
    refine wpAny_bind ?_
    simp only [List.zipIdx_cons, List.zipIdx_nil, List.forIn_cons, List.forIn_nil]
    refine wpAny_bind (wpAny_bind (wpAny_onRaise ?_))
    show wpAny _ _ (Builtin.SmallTypes.nextOf (.ref i1) >>= _) _ _ ⟨g0, g, d, tk0, os⟩
    refine wpAny_bind (D1.item i _ _ _ hlt1 (D1.over st1 hs0 S.zf1) fun x1 p1 tk1 hx1 sn1 hp1 => wpAny_pure ?_)
    replace hp1 : Heap.SameBut i1 g0 p1 := hp1
    have hU1 : IsTupOf2 p1 TO a1 a2 := hp1.extBut _ _ S.Ti1 (hs0.extBut _ _ S.TOz hTO)
    refine wpAny_bind (wpAny_seqItems (s := ⟨p1, g, d, tk1, os⟩) hU1 rfl ?_)
    refine wpAny_bind (updateSeq_IsTupOf2 (s := ⟨p1, g, d, tk1, os⟩) hU1 fun g1 hT1 hs1 => ?_)
    replace hT1 : IsTupOf2 g1 TO x1 a2 := hT1
    replace hs1 : Heap.SameBut TO p1 g1 := hs1
    refine wpAny_bind (wpAny_letGo (wpAny_pure ?_))
    refine wpAny_bind (wpAny_bind (wpAny_onRaise ?_))
    show wpAny _ _ (Builtin.SmallTypes.nextOf (.ref i2) >>= _) _ _ ⟨g1, g, d, tk1, os⟩
    refine wpAny_bind (D2.item i _ _ _ hlt2 (D2.over (D2.over (D2.over st2 hs0 S.zf2) hp1 S.sep1_2) hs1 S.Tf2) fun x2 p2 tk2 hx2 sn2 hp2 => wpAny_pure ?_)
    replace hp2 : Heap.SameBut i2 g1 p2 := hp2
    have hU2 : IsTupOf2 p2 TO x1 a2 := hp2.extBut _ _ S.Ti2 hT1
    refine wpAny_bind (wpAny_seqItems (s := ⟨p2, g, d, tk2, os⟩) hU2 rfl ?_)
    refine wpAny_bind (updateSeq_IsTupOf2 (s := ⟨p2, g, d, tk2, os⟩) hU2 fun g2 hT2 hs2 => ?_)
    replace hT2 : IsTupOf2 g2 TO x1 x2 := hT2
    replace hs2 : Heap.SameBut TO p2 g2 := hs2
    refine wpAny_bind (wpAny_letGo (wpAny_pure (wpAny_pure ?_)))
    refine wpAny_bind (wpAny_seqItems (s := ⟨g2, g, d, tk2, os⟩) hT2 rfl ?_)
    refine wpAny_bind (wpAny_newTuple ?_)
    have hsz : g2.objs.size = hp.objs.size := by rw [hs2.1, hp2.1, hs1.1, hp1.1, hs0.1]
    have hzz : g2.get? z = some (ziObj .ellipsis f TI TO) := (hs2.extBut _ _ S.TOz.symm (hp2.extBut _ _ S.zi2 (hs1.extBut _ _ S.TOz.symm (hp1.extBut _ _ S.zi1 hz0))))
    have hkk : ∀ c o, c ≠ z → c ≠ TO → c ≠ i1 → c ≠ i2 → hp.get? c = some o → g2.get? c = some o := fun c o cz cT c1 c2 e =>
      (hs2.extBut _ _ cT (hp2.extBut _ _ c2 (hs1.extBut _ _ cT (hp1.extBut _ _ c1 (hs0.extBut _ _ cz e)))))
    have hj1 : St1 (i + 1) g2 := (D1.over (D1.over (D1.over sn1 hs1 S.Tf1) hp2 S.sep2_1) hs2 S.Tf1)
    have hj2 : St2 (i + 1) g2 := (D2.over sn2 hs2 S.Tf2)
    have hzlt : z < g2.objs.size := Heap.lt_size hzz
    show wpAny _ _ (Builtin.SmallTypes.ownedTupleHandOut (.ref z) (.ref g2.objs.size) >>= _) _ _ ⟨g2.push { cls := .type "tuple", data := .seq #[x1, x2] }, g, d, tk2, os⟩
    refine wpAny_bind ?_
    unfold Builtin.SmallTypes.ownedTupleHandOut
    have hz₆ : (g2.push { cls := .type "tuple", data := .seq #[x1, x2] }).get? z = some (ziObj .ellipsis f TI TO) := Heap.get?_push_of_some _ hzz
    refine wpAny_bind (wpAny_setField_rec hz₆ (by simp) fun h₇ hz₇ hs₇ => ?_)
    replace hz₇ : h₇.get? z = some (ziObj (rawInt g2.objs.size) f TI TO) := hz₇
    refine wpAny_setField_rec hz₇ (by simp) fun h₈ hz₈ hs₈ => ?_
    replace hz₈ : h₈.get? z = some (ziObj (rawInt g2.objs.size) false TI TO) := hz₈
    replace hs₇ : Heap.SameBut z (g2.push { cls := .type "tuple", data := .seq #[x1, x2] }) h₇ := hs₇
    replace hs₈ : Heap.SameBut z h₇ h₈ := hs₈
    have up : ∀ c o, c ≠ z → g2.get? c = some o → h₈.get? c = some o := fun c o c1 e => hs₈.extBut _ _ c1 (hs₇.extBut _ _ c1 (Heap.get?_push_of_some _ e))
    have hT₈ : IsTupOf2 h₈ g2.objs.size x1 x2 := hs₈.extBut _ _ (Nat.ne_of_gt hzlt) (hs₇.extBut _ _ (Nat.ne_of_gt hzlt) (Heap.get?_push_size _ rfl))
    have hz8 : h₈.objs.size = g2.objs.size + 1 := by rw [hs₈.1, hs₇.1, Heap.size_push]
    rw [hsz] at hz₈ hT₈ hz8
    refine wpAny_pure ⟨_, rfl, ?_⟩
    show Q (.ref g2.objs.size) ⟨h₈, g, d, tk2, os⟩
    rw [hsz]
    exact hQ x1 x2 h₈ tk2 hx1 hx2 ⟨_, _, .inr ⟨_, rfl⟩, hz₈⟩ ⟨_, _, up _ _ S.TOz hT2⟩ (D1.frame _ _ _ hj1 fun b hb o e => up b o (fun q => S.zf1 (q ▸ hb)) e) (D2.frame _ _ _ hj2 fun b hb o e => up b o (fun q => S.zf2 (q ▸ hb)) e) hT₈ hz8 fun c o cz cT c1 c2 e => up c o cz (hkk c o cz cT c1 c2 e)
  · replace hs0' : Heap.SameBut z hp g0 := hs0'
    simp only [Bool.false_eq_true, if_false]
    refine wpAny_bind ?_
    rw [← Array.forIn_toList]
    simp only [List.forIn_cons, List.forIn_nil]
    refine wpAny_bind (wpAny_bind (wpAny_holding ?_))
    show wpAny _ _ (Builtin.SmallTypes.nextOf (.ref i1) >>= _) _ _ ⟨g0, g, d, tk0, os⟩
    refine wpAny_bind (D1.item i _ _ _ hlt1 (D1.over st1 hs0' S.zf1) fun x1 p1 tk1 hx1 sn1 hp1 => wpAny_pure ?_)
    replace hp1 : Heap.SameBut i1 g0 p1 := hp1
    refine wpAny_pure ?_
    refine wpAny_bind (wpAny_bind (wpAny_holding ?_))
    show wpAny _ _ (Builtin.SmallTypes.nextOf (.ref i2) >>= _) _ _ ⟨p1, g, d, tk1, os⟩
    refine wpAny_bind (D2.item i _ _ _ hlt2 (D2.over (D2.over st2 hs0' S.zf2) hp1 S.sep1_2) fun x2 p2 tk2 hx2 sn2 hp2 => wpAny_pure ?_)
    replace hp2 : Heap.SameBut i2 p1 p2 := hp2
    refine wpAny_pure (wpAny_pure ?_)
    show wpAny _ _ (newTuple [x1, x2] >>= _) _ _ ⟨p2, g, d, tk2, os⟩
    refine wpAny_bind (wpAny_newTuple ?_)
    have hsz : p2.objs.size = hp.objs.size := by rw [hp2.1, hp1.1, hs0'.1]
    have hz₃ : p2.get? z = some (ziObj s0 f' TI TO) := hp2.extBut _ _ S.zi2 (hp1.extBut _ _ S.zi1 hz0)
    have hk : ∀ c o, c ≠ z → c ≠ i1 → c ≠ i2 → hp.get? c = some o → p2.get? c = some o := fun c o c1 c2 c3 e => hp2.extBut _ _ c3 (hp1.extBut _ _ c2 (hs0'.extBut _ _ c1 e))
    have hj1 : St1 (i + 1) p2 := D1.over sn1 hp2 S.sep2_1
    refine wpAny_pure ⟨_, rfl, ?_⟩
    show Q (.ref p2.objs.size) ⟨p2.push { cls := .type "tuple", data := .seq #[x1, x2] }, g, d, tk2, os⟩
    have hpr : IsTupOf2 (p2.push { cls := .type "tuple", data := .seq #[x1, x2] }) p2.objs.size x1 x2 := Heap.get?_push_size _ rfl
    have hz4 : (p2.push { cls := .type "tuple", data := .seq #[x1, x2] }).objs.size = p2.objs.size + 1 := Heap.size_push ..
    rw [hsz] at hpr hz4 ⊢
    exact hQ x1 x2 _ tk2 hx1 hx2 ⟨_, _, hs0, Heap.get?_push_of_some _ hz₃⟩ ⟨_, _, Heap.get?_push_of_some _ (hk _ _ S.TOz S.Ti1 S.Ti2 hTO)⟩ (D1.frame _ _ _ hj1 fun b hb o e => Heap.get?_push_of_some _ e) (D2.frame _ _ _ sn2 fun b hb o e => Heap.get?_push_of_some _ e) hpr hz4
      fun c o c1 _ c2 c3 e => Heap.get?_push_of_some _ (hk c o c1 c2 c3 e)
theorem zi_end {Q : Fin → Shared → Prop} (S : ZipSep2 z TI TO i1 i2 fp1 fp2) (D1 : Draws prog w A i1 fp1 n1 P1 St1) (D2 : Draws prog w A i2 fp2 n2 P2 St2)
    (hz : ZiA s.heap z TI TO) (hTI : IsTupOf2 s.heap TI (.ref i1) (.ref i2)) (hTO : OutZ s.heap TO) (st1 : St1 i s.heap) (st2 : St2 i s.heap) (hle1 : i ≤ n1) (hle2 : i ≤ n2) (hend : i = n1 ∨ i = n2)
    (hE : ∀ h' tk e, (∀ c o, c ≠ z → c ≠ TO → c ≠ i1 → c ≠ i2 → s.heap.get? c = some o → h'.get? c = some o) → (∃ o, h'.get? e = some o ∧ o.cls = .type "StopIteration") → E (.ref e) { s with heap := h', toks := tk }) :
    wpAny (model prog w) A (Builtin.«zip.__next__» ⟨[.ref z], []⟩) Q E s := by
  obtain ⟨s0, f, hs0, hz⟩ := hz
  obtain ⟨a1, a2, hTO⟩ := hTO
  obtain ⟨hp, g, d, tk0, os⟩ := s
  show wpAny _ _ (field (.ref z) 2 >>= _) _ _ _
  refine wpAny_bind (wpAny_field hz rfl (x := .bool false) rfl ?_)
  show wpAny _ _ (field (.ref z) 3 >>= _) _ _ _
  refine wpAny_bind (wpAny_field hz rfl (x := .ref TI) rfl ?_)
  refine wpAny_bind (wpAny_seqItems hTI rfl ?_)
  show wpAny _ _ (Builtin.SmallTypes.ownedTupleIsFree (.ref z) >>= _) _ _ _
  refine wpAny_bind (free_zi (s := ⟨hp, g, d, tk0, os⟩) hz hs0 ?_ fun g0 f' hz0 hs0' => ?_)
  · simp only [if_true]
    refine wpAny_bind (wpAny_rule ?_)
    refine wpAny_bind (wpAny_field hz rfl (x := .ref TO) rfl ?_)
    refine wpAny_bind (wpAny_setField_rec hz (by simp) fun g0 hz0 hs0 => ?_)
    replace hz0 : g0.get? z = some (ziObj .ellipsis f TI TO) := hz0
    replace hs0 : Heap.SameBut z hp g0 := hs0
    refine wpAny_bind ?_
    simp only [List.zipIdx_cons, List.zipIdx_nil, List.forIn_cons, List.forIn_nil]
    refine wpAny_bind (wpAny_bind (wpAny_onRaise ?_))
    show wpAny _ _ (Builtin.SmallTypes.nextOf (.ref i1) >>= _) _ _ ⟨g0, g, d, tk0, os⟩
    by_cases hlt1 : i < n1
    · refine wpAny_bind (D1.item i _ _ _ hlt1 (D1.over st1 hs0 S.zf1) fun x1 p1 tk1 hx1 sn1 hp1 => wpAny_pure ?_)
      replace hp1 : Heap.SameBut i1 g0 p1 := hp1
      have hU1 : IsTupOf2 p1 TO a1 a2 := hp1.extBut _ _ S.Ti1 (hs0.extBut _ _ S.TOz hTO)
      refine wpAny_bind (wpAny_seqItems (s := ⟨p1, g, d, tk1, os⟩) hU1 rfl ?_)
      refine wpAny_bind (updateSeq_IsTupOf2 (s := ⟨p1, g, d, tk1, os⟩) hU1 fun g1 hT1 hs1 => ?_)
      replace hT1 : IsTupOf2 g1 TO x1 a2 := hT1
      replace hs1 : Heap.SameBut TO p1 g1 := hs1
      refine wpAny_bind (wpAny_letGo (wpAny_pure ?_))
      have hi2 : i = n2 := by omega
      refine wpAny_bind (wpAny_bind (wpAny_onRaise ?_))
      show wpAny _ _ (Builtin.SmallTypes.nextOf (.ref i2) >>= _) _ _ ⟨g1, g, d, tk1, os⟩
      refine wpAny_bind (D2.done ⟨g1, g, d, tk1, os⟩ _ _ (by rw [← hi2]; exact (D2.over (D2.over (D2.over st2 hs0 S.zf2) hp1 S.sep1_2) hs1 S.Tf2)) fun q e hq he => ?_)
      replace hq : Heap.ExtBut i2 g1 q := hq
      obtain ⟨oe, hoe, hce⟩ := he
      replace hoe : q.get? e = some oe := hoe
      have hzq : q.get? z = some (ziObj .ellipsis f TI TO) := hq _ _ S.zi2 (hs1.extBut _ _ S.TOz.symm (hp1.extBut _ _ S.zi1 hz0))
      have hez : e ≠ z := fun x => by subst x; rw [hzq] at hoe; cases hoe; simp at hce
      refine wpAny_setField_rec (s := ⟨q, g, d, tk1, os⟩) hzq (by simp) fun q' _ hq' => ?_
      replace hq' : Heap.SameBut z q q' := hq'
      exact hE q' tk1 e (fun c o cz cT c1 c2 x => hq'.extBut _ _ cz (hq _ _ c2 (hs1.extBut _ _ cT (hp1.extBut _ _ c1 (hs0.extBut _ _ cz x))))) ⟨oe, hq'.extBut _ _ hez hoe, hce⟩
    · have hi1 : i = n1 := by omega
      refine wpAny_bind (D1.done ⟨g0, g, d, tk0, os⟩ _ _ (by rw [← hi1]; exact (D1.over st1 hs0 S.zf1)) fun q e hq he => ?_)
      replace hq : Heap.ExtBut i1 g0 q := hq
      obtain ⟨oe, hoe, hce⟩ := he
      replace hoe : q.get? e = some oe := hoe
      have hzq : q.get? z = some (ziObj .ellipsis f TI TO) := hq _ _ S.zi1 hz0
      have hez : e ≠ z := fun x => by subst x; rw [hzq] at hoe; cases hoe; simp at hce
      refine wpAny_setField_rec (s := ⟨q, g, d, tk0, os⟩) hzq (by simp) fun q' _ hq' => ?_
      replace hq' : Heap.SameBut z q q' := hq'
      exact hE q' tk0 e (fun c o cz cT c1 c2 x => hq'.extBut _ _ cz (hq _ _ c1 (hs0.extBut _ _ cz x))) ⟨oe, hq'.extBut _ _ hez hoe, hce⟩
  · replace hs0' : Heap.SameBut z hp g0 := hs0'
    simp only [Bool.false_eq_true, if_false]
    refine wpAny_bind ?_
    rw [← Array.forIn_toList]
    simp only [List.forIn_cons, List.forIn_nil]
    refine wpAny_bind (wpAny_bind (wpAny_holding ?_))
    show wpAny _ _ (Builtin.SmallTypes.nextOf (.ref i1) >>= _) _ _ ⟨g0, g, d, tk0, os⟩
    by_cases hlt1 : i < n1
    · refine wpAny_bind (D1.item i _ _ _ hlt1 (D1.over st1 hs0' S.zf1) fun x1 p1 tk1 hx1 sn1 hp1 => wpAny_pure ?_)
      replace hp1 : Heap.SameBut i1 g0 p1 := hp1
      refine wpAny_pure ?_
      have hi2 : i = n2 := by omega
      refine wpAny_bind (wpAny_bind (wpAny_holding ?_))
      show wpAny _ _ (Builtin.SmallTypes.nextOf (.ref i2) >>= _) _ _ ⟨p1, g, d, tk1, os⟩
      refine wpAny_bind (D2.done ⟨p1, g, d, tk1, os⟩ _ _ (by rw [← hi2]; exact D2.over (D2.over st2 hs0' S.zf2) hp1 S.sep1_2) fun q e hq he => ?_)
      replace hq : Heap.ExtBut i2 p1 q := hq
      exact hE q tk1 e (fun c o c1 _ c2 c3 x => hq _ _ c3 (hp1.extBut _ _ c2 (hs0'.extBut _ _ c1 x))) he
    · have hi1 : i = n1 := by omega
      refine wpAny_bind (D1.done ⟨g0, g, d, tk0, os⟩ _ _ (by rw [← hi1]; exact D1.over st1 hs0' S.zf1) fun q e hq he => ?_)
      replace hq : Heap.ExtBut i1 g0 q := hq
      exact hE q tk0 e (fun c o c1 _ c2 _ x => hq _ _ c2 (hs0'.extBut _ _ c1 x)) he
theorem zi_pyNext_item {Q : Option Value → Shared → Prop} (S : ZipSep2 z TI TO i1 i2 fp1 fp2) (D1 : Draws prog w A.in1 i1 fp1 n1 P1 St1) (D2 : Draws prog w A.in1 i2 fp2 n2 P2 St2)
    (hz : ZiA s.heap z TI TO) (hTI : IsTupOf2 s.heap TI (.ref i1) (.ref i2)) (hTO : OutZ s.heap TO) (st1 : St1 i s.heap) (st2 : St2 i s.heap) (hlt1 : i < n1) (hlt2 : i < n2)
    (hQ : ∀ x1 x2 h' tk, P1 i x1 → P2 i x2 → ZiA h' z TI TO → OutZ h' TO → St1 (i + 1) h' → St2 (i + 1) h' → IsTupOf2 h' s.heap.objs.size x1 x2 → h'.objs.size = s.heap.objs.size + 1 →
      (∀ c o, c ≠ z → c ≠ TO → c ≠ i1 → c ≠ i2 → s.heap.get? c = some o → h'.get? c = some o) → Q (some (.ref s.heap.objs.size)) { s with heap := h', toks := tk }) :
    wpAny (model prog w) A (pyNext (.ref z)) Q E s := by
  have hT : s.TypeIs (.ref z) "zip" := by obtain ⟨_, _, _, q⟩ := hz; exact ⟨_, q, rfl⟩
  unfold pyNext
  exact wpAny_bind (wpAny_attempt (wpAny_callSpecial?_slot (name := Str.ofString "__next__") hT F.slot_zip_next
    (wpAny_call_entry F.slot_zip_next hT F.entry_zip_next
      (zi_item S D1 D2 hz hTI hTO st1 st2 hlt1 hlt2 fun x1 x2 h' tk y1 y2 b1 b2 d1 d2 b5 b6 b7 => wpAny_pure (hQ x1 x2 h' tk y1 y2 b1 b2 d1 d2 b5 b6 b7)) (F.args_zip_next_1 _))))
theorem zi_pyNext_end {Q : Option Value → Shared → Prop} (S : ZipSep2 z TI TO i1 i2 fp1 fp2) (D1 : Draws prog w A.in1 i1 fp1 n1 P1 St1) (D2 : Draws prog w A.in1 i2 fp2 n2 P2 St2)
    (hz : ZiA s.heap z TI TO) (hTI : IsTupOf2 s.heap TI (.ref i1) (.ref i2)) (hTO : OutZ s.heap TO) (st1 : St1 i s.heap) (st2 : St2 i s.heap) (hle1 : i ≤ n1) (hle2 : i ≤ n2) (hend : i = n1 ∨ i = n2)
    (hQ : ∀ h' tk, (∀ c o, c ≠ z → c ≠ TO → c ≠ i1 → c ≠ i2 → s.heap.get? c = some o → h'.get? c = some o) → Q none { s with heap := h', toks := tk }) : wpAny (model prog w) A (pyNext (.ref z)) Q E s := by
  have hT : s.TypeIs (.ref z) "zip" := by obtain ⟨_, _, _, q⟩ := hz; exact ⟨_, q, rfl⟩
  unfold pyNext
  refine wpAny_bind (wpAny_attempt (wpAny_callSpecial?_slot (name := Str.ofString "__next__") hT F.slot_zip_next
    (wpAny_call_entry F.slot_zip_next hT F.entry_zip_next (zi_end S D1 D2 hz hTI hTO st1 st2 hle1 hle2 hend fun h' tk e hk he => ?_) (F.args_zip_next_1 _))))
  obtain ⟨o, ho, hc⟩ := he
  refine wpAny_bind (wpAny_isInstance (T := "StopIteration") (b := true) ⟨o, ho, hc⟩ isSubtype_stop ?_)
  exact wpAny_pure (hQ _ _ hk)
theorem zi_go {tg : Expr} {u : Value} {Q : Unit → Shared → Prop} (he : ZiA s.heap z TI TO)
    (hQ : ∀ h', ZiA h' z TI TO → Heap.SameBut z s.heap h' → Q () { s with heap := h' }) : wpAny (model prog w) A (letOwnedTupleGo tg (.ref z) u) Q E s := by
  have hk : Q () s := hQ s.heap he (Heap.SameBut.refl _ _)
  obtain ⟨s0, f, hs0, he⟩ := he
  have go : ∀ a : Addr, wpAny (model prog w) A (do
      let o ← load z
      match o.cls, o.data with
      | .type n, .fields vs =>
        if ["enumerate", "zip", "dict_itemiterator", "dict_reverseitemiterator", "odict_iterator", "itertools.zip_longest", "itertools.pairwise"].contains n && vs[0]? == some (rawInt a) then
          rule "for.unpacks-the-owned-tuple"
          updateField z 0 .none
      | _, _ => pure ()) Q E s := by
    intro a
    refine wpAny_bind (wpAny_load he ?_)
    show wpAny _ A (if (_ && (some s0 == some (rawInt a))) = true then _ else _) Q E s
    split
    · refine wpAny_bind (wpAny_rule ?_)
      show wpAny _ A (setField (.ref z) 0 .none) Q E s
      exact wpAny_setField_rec he (by simp) fun h' he' hs' => hQ h' ⟨_, _, .inl rfl, he'⟩ hs'
    · exact wpAny_pure hk
  unfold letOwnedTupleGo
  cases tg <;> first | exact wpAny_pure hk | (cases u <;> first | exact wpAny_pure hk | exact go _)
/-- the zip as an iterator that another one draws from -/
theorem Dr.zi (S : ZipSep2 z TI TO i1 i2 fp1 fp2) (hTI1 : TI ∉ fp1) (hTI2 : TI ∉ fp2) (D1 : Draws prog w A.in1 i1 fp1 n1 P1 St1) (D2 : Draws prog w A.in1 i2 fp2 n2 P2 St2) :
    Dr prog w A z (z :: TI :: TO :: (fp1 ++ fp2)) [z, TO, i1, i2] (min n1 n2) (fun i x N Z h => ∃ T x1 x2, x = .ref T ∧ N ≤ T ∧ T < Z ∧ P1 i x1 ∧ P2 i x2 ∧ IsTupOf2 h T x1 x2)
      (fun i h => i ≤ min n1 n2 ∧ ZiA h z TI TO ∧ IsTupOf2 h TI (.ref i1) (.ref i2) ∧ OutZ h TO ∧ St1 i h ∧ St2 i h) where
  sub := fun c hc => by
    have hc' : c = z ∨ c = TO ∨ c = i1 ∨ c = i2 := by simpa using hc
    rcases hc' with rfl | rfl | rfl | rfl
    · simp
    · simp
    · have := S.mem1; simp [this]
    · have := S.mem2; simp [this]
  mem := by simp
  live := fun i h st c hc => by
    obtain ⟨_, ⟨_, _, _, hz⟩, hTI, ⟨_, _, hTO⟩, s1, s2⟩ := st
    have hc' : c = z ∨ c = TO ∨ c = i1 ∨ c = i2 := by simpa using hc
    rcases hc' with rfl | rfl | rfl | rfl
    · exact ⟨_, hz⟩
    · exact ⟨_, hTO⟩
    · exact D1.live _ _ s1
    · exact D2.live _ _ s2
  frame := fun i h h' st k => by
    obtain ⟨hi, ⟨_, _, h0, hz⟩, hTI, ⟨_, _, hTO⟩, s1, s2⟩ := st
    exact ⟨hi, ⟨_, _, h0, k z (by simp) _ hz⟩, k TI (by simp) _ hTI, ⟨_, _, k TO (by simp) _ hTO⟩, D1.frame _ _ _ s1 fun b hb o e => k b (by simp [hb]) o e, D2.frame _ _ _ s2 fun b hb o e => k b (by simp [hb]) o e⟩
  grow := fun i x N Z h h' p k => by
    obtain ⟨T, x1, x2, rfl, hN, hZ, p1, p2, hT⟩ := p
    exact ⟨T, x1, x2, rfl, hN, hZ, p1, p2, k T _ hN hT⟩
  item := fun i s Q E hi st hQ => by
    obtain ⟨hle, hz, hTI, hTO, s1, s2⟩ := st
    have hT : s.TypeIs (.ref z) "zip" := by obtain ⟨_, _, _, q⟩ := hz; exact ⟨_, q, rfl⟩
    unfold Builtin.SmallTypes.nextOf
    refine wpAny_bind (wpAny_callSpecial?_slot (name := Str.ofString "__next__") hT F.slot_zip_next (wpAny_call_entry F.slot_zip_next hT F.entry_zip_next
      (zi_item S D1 D2 hz hTI hTO s1 s2 (by omega) (by omega) fun x1 x2 h' tk y1 y2 b1 b2 d1 d2 b5 b6 b7 => ?_) (F.args_zip_next_1 _)))
    refine wpAny_pure (hQ _ h' tk ⟨s.heap.objs.size, x1, x2, rfl, Nat.le_refl _, by rw [b6]; exact Nat.lt_succ_self _, y1, y2, b5⟩ ⟨by omega, b1, b7 _ _ S.TIz S.TITO S.TIi1 S.TIi2 hTI, b2, d1, d2⟩ (by rw [b6]; exact Nat.le_succ _) fun b o hb q => ?_)
    exact b7 b o (fun e => hb (by simp [e])) (fun e => hb (by simp [e])) (fun e => hb (by simp [e])) (fun e => hb (by simp [e])) q
  done := fun s Q E st hE => by
    obtain ⟨hle, hz, hTI, hTO, s1, s2⟩ := st
    have hT : s.TypeIs (.ref z) "zip" := by obtain ⟨_, _, _, q⟩ := hz; exact ⟨_, q, rfl⟩
    unfold Builtin.SmallTypes.nextOf
    refine wpAny_bind (wpAny_callSpecial?_slot (name := Str.ofString "__next__") hT F.slot_zip_next (wpAny_call_entry F.slot_zip_next hT F.entry_zip_next
      (zi_end S D1 D2 hz hTI hTO s1 s2 (by omega) (by omega) (by omega) fun h' tk e hk he => ?_) (F.args_zip_next_1 _)))
    exact hE h' tk e (fun b o hb q => hk b o (fun e => hb (by simp [e])) (fun e => hb (by simp [e])) (fun e => hb (by simp [e])) (fun e => hb (by simp [e])) q) he
end
end DL
set_option Elab.async false
set_option linter.all false
set_option maxRecDepth 100000
set_option maxHeartbeats 1000000
namespace DL
open PySem PySem.Spec PyProof.Rows L2
theorem turnedMany {X : Cx} {pins : List (Addr × Obj)} {σ : L2.St} {H H' : Hp} {s : Shared} {h' : Heap} {t' : Nat} {ch : List Addr} (I : Inv X pins σ H s) (k : ∀ b o, b ∉ ch → s.heap.get? b = some o → h'.get? b = some o) (hf : ∀ b ∈ ch, FpOk X pins H b)
    (old : ∀ b, b < s.heap.objs.size → H' b = H b) (sub : ∀ b u, H b = some u → H' b = some u) (new : ∀ b u, H' b = some u → H b = some u ∨ ObjOk X.prog X.w H' h' b u) : Inv X pins σ H' { s with heap := h', toks := t' } := by
  have nit : ∀ b u, H b = some u → b ∉ ch := fun b u e z => by
    have q := (hf b z).1
    rw [q] at e; cases e
  refine I.step (g' := s.gens) (d' := s.drawn) (ch := ch) (fun b hb => ⟨(hf b hb).2.2.2.1, (hf b hb).2.1, (hf b hb).2.2.2.2.1, (hf b hb).2.2.2.2.2⟩) (fun b o _ _ hc e _ => k b o hc e) (fun b o _ _ hc e _ => ⟨o.slots, k b o hc e⟩)
    (fun b o _ e n => ?_) (fun b o hc e => ⟨o, k b o hc e⟩) (fun b xs e => sub _ _ e) (fun b o u e => sub _ _ e) (fun b ps e => ⟨#[], ?_⟩) (fun m hm => ?_) (fun b u e => ?_) I.bare
  · rw [old b (Heap.lt_size e)]; exact n
  · rw [sub _ _ e]; simp
  · obtain ⟨o, es, ep, ho, r⟩ := hm
    exact ⟨o, es, ep, k _ o (fun z => (hf _ z).2.1 rfl) ho, r⟩
  · rcases new b u e with e' | n
    · refine (I.hok b u e').stay (fun c v hc q => k c v ?_ q) (fun c q => sub _ _ q) fun c xs q => sub _ _ q
      rcases hc with z | z
      · rw [z]; exact nit b u e'
      · exact nit c _ z
    · exact n
theorem vals_rev : ∀ {xs : List V} {us : List Value} {i : Nat} {u : Value}, Vals xs us → us[i]? = some u → ∃ x, xs[i]? = some x ∧ RelV x u
  | _, _, _, _, .nil, e => by simp at e
  | _, _, 0, _, .cons r _, e => by simp at e; subst e; exact ⟨_, rfl, r⟩
  | _, _, i + 1, u, .cons _ t, e => by
    obtain ⟨x, h1, h2⟩ := vals_rev (i := i) (u := u) t (by simpa using e)
    exact ⟨x, by simpa using h1, h2⟩
theorem iter_en {prog : Program} {w : World} {A : Around} {E : Value → Shared → Prop} {s : Shared} {e it : Addr} {i : Int} {Q : Value → Shared → Prop} (he : EnA s.heap e it i) (h : Q (.ref e) s) : wpAny (model prog w) A (pyIter (.ref e)) Q E s := by
  obtain ⟨_, _, _, _, q⟩ := he
  have hT : s.TypeIs (.ref e) "enumerate" := ⟨_, q, rfl⟩
  refine wpAny_pyIter_slot hT F.slot_enumerate_iter (wpAny_call_entry F.slot_enumerate_iter hT F.entry_enumerate_iter ?_ (F.args_enumerate_iter_1 _))
  show wpAny _ _ (ret (.ref e)) _ _ s
  exact wpAny_pure ⟨_, rfl, "enumerate", _, hT, F.slot_enumerate_next.lookup, h⟩
theorem iter_zi {prog : Program} {w : World} {A : Around} {E : Value → Shared → Prop} {s : Shared} {z TI TO : Addr} {Q : Value → Shared → Prop} (hz : ZiA s.heap z TI TO) (h : Q (.ref z) s) : wpAny (model prog w) A (pyIter (.ref z)) Q E s := by
  obtain ⟨_, _, _, q⟩ := hz
  have hT : s.TypeIs (.ref z) "zip" := ⟨_, q, rfl⟩
  refine wpAny_pyIter_slot hT F.slot_zip_iter (wpAny_call_entry F.slot_zip_iter hT F.entry_zip_iter ?_ (F.args_zip_iter_1 _))
  show wpAny _ _ (ret (.ref z)) _ _ s
  exact wpAny_pure ⟨_, rfl, "zip", _, hT, F.slot_zip_next.lookup, h⟩
/-- what each draw does, with the store known -/
structure Pull (P : Program) (w : World) (K : PySem.W.Frag) (J : It) (fp : List Addr) (it : Addr) (tn : Nat → Heap → Prop) : Prop where
  mem : it ∈ fp
  obj : ∀ i h, tn i h → ∀ b ∈ fp, ∃ o, h.get? b = some o ∧ ∀ v, o.data ≠ .cell v
  keep : ∀ i h h', tn i h → (∀ b ∈ fp, ∀ o, h.get? b = some o → h'.get? b = some o) → tn i h'
  item : ∀ (X : Cx), X.prog = P → X.w = w → X.K = K → ∀ (A : Around), A.handled = none → ∀ (i : Nat) (pins : List (Addr × Obj)) (s : Shared) (σ : L2.St) (H : Hp) (E : Value → Shared → Prop), Inv X pins σ H s → (∀ b ∈ fp, FpOk X pins H b) → tn i s.heap → J.go i H →
    wpAny (model P w) A (pyNext (.ref it)) (fun r s1 => ∃ u, r = some u ∧ ∃ x H', Inv X pins σ H' s1 ∧ RelV x u ∧ J.yld i H x H' ∧ tn (i + 1) s1.heap ∧ ∀ b ∈ fp, H' b = none) E s
  done : ∀ (X : Cx), X.prog = P → X.w = w → X.K = K → ∀ (A : Around), A.handled = none → ∀ (i : Nat) (pins : List (Addr × Obj)) (s : Shared) (σ : L2.St) (H : Hp) (E : Value → Shared → Prop), Inv X pins σ H s → (∀ b ∈ fp, FpOk X pins H b) → tn i s.heap → J.stop i H →
    wpAny (model P w) A (pyNext (.ref it)) (fun r s1 => r = none ∧ Inv X pins σ H s1) E s
theorem turn_of {P : Program} {w : World} {K : PySem.W.Frag} {tg : Expr} {J : It} {fp : List Addr} {it : Addr} {tn : Nat → Heap → Prop} (p : Pull P w K J fp it tn)
    (go : ∀ (A : Around) (i : Nat) (s : Shared) (u : Value) (Q : Unit → Shared → Prop) (E : Value → Shared → Prop), tn i s.heap → (∀ h', tn i h' → Heap.SameBut it s.heap h' → Q () { s with heap := h' }) → wpAny (model P w) A (letOwnedTupleGo tg (.ref it) u) Q E s)
    (self : ∀ (A : Around) (i : Nat) (s : Shared) (Q : Value → Shared → Prop) (E : Value → Shared → Prop), tn i s.heap → Q (.ref it) s → wpAny (model P w) A (pyIter (.ref it)) Q E s) : Turn P w K tg J fp it tn where
  mem := p.mem
  obj := p.obj
  keep := p.keep
  item := by
    intro X hP hw hK hc i pins s σ H E I hf st hg
    refine thn (p.item X hP hw hK X.A (I.ok.hd hc) i pins s σ H E I hf st hg) fun r s1 ⟨u, hr, x, H', I', rel, y, st', fn⟩ => ⟨u, hr, go _ _ _ _ _ _ st' fun h' st2 sb => ⟨x, H', ?_, rel, y, st2, fn⟩⟩
    exact I'.turnedL (t' := s1.toks) (ch := [it]) (fun b o hb q => (sb.2 b (fun z => hb (by simp [z]))).trans q) fun b hb => by rw [List.mem_singleton.mp hb]; exact ⟨fn it p.mem, (hf it p.mem).2⟩
  done := fun X hP hw hK hc i pins s σ H E I hf st hg => p.done X hP hw hK X.A (I.ok.hd hc) i pins s σ H E I hf st hg
  self := self
inductive Sq | lst (a : Addr) | tup (a : Addr) | str (z : Str)
namespace Sq
def v : Sq → V
  | lst a => .ref a
  | tup a => .ref a
  | str z => .str z
def val (t : Tok) : Sq → Value
  | lst a => .ref a
  | tup a => .ref a
  | str z => .str z t
def its (K : PySem.W.Frag) (H : Hp) (xs : List V) : Sq → Prop
  | lst a => SqL K H a xs
  | tup a => SqT K H a xs
  | str z => xs = z.cps.toList.map fun c => V.str ⟨#[c]⟩
def st (t : Tok) (it : Addr) (i : Nat) (h : Heap) : Sq → Prop
  | lst a => h.IsListIter it a i
  | tup a => h.IsTupleIter it a i
  | str z => h.IsStrIter it (strIterType z) z t i
def addr : Sq → List Addr
  | lst a => [a]
  | tup a => [a]
  | str z => []
theorem rel {S : Sq} {u : Value} (r : RelV S.v u) : ∃ t, u = S.val t := by
  cases S with
  | lst a => exact ⟨0, r⟩
  | tup a => exact ⟨0, r⟩
  | str z => exact r
theorem inj {X : Cx} {pins : List (Addr × Obj)} {σ : L2.St} {H : Hp} {s : Shared} (I : Inv X pins σ H s) {S : Sq} {xs ys : List V} (h : S.its X.K H xs) (h' : S.its X.K H ys) : xs = ys := by
  cases S with
  | lst a => exact I.list_inj h h'
  | tup a => exact I.tuple_inj h h'
  | str z => exact (show xs = _ from h).trans (show ys = _ from h').symm
theorem stLive {S : Sq} {t : Tok} {it : Addr} {i : Nat} {h : Heap} (q : S.st t it i h) : ∃ o, h.get? it = some o ∧ ∃ vs, o.data = .fields vs := by
  cases S with
  | lst a => obtain ⟨o, e, _, d⟩ := q; exact ⟨o, e, _, d⟩
  | tup a => obtain ⟨o, e, _, d⟩ := q; exact ⟨o, e, _, d⟩
  | str z => obtain ⟨o, e, _, d⟩ := q; exact ⟨o, e, _, d⟩
theorem stAt {S : Sq} {t : Tok} {it : Addr} {i : Nat} {h h' : Heap} (q : S.st t it i h) (k : ∀ o, h.get? it = some o → h'.get? it = some o) : S.st t it i h' := by
  cases S with
  | lst a => obtain ⟨o, e, r⟩ := q; exact ⟨o, k o e, r⟩
  | tup a => obtain ⟨o, e, r⟩ := q; exact ⟨o, k o e, r⟩
  | str z => obtain ⟨o, e, r⟩ := q; exact ⟨o, k o e, r⟩
/-- the draws of its iterator, as things stand -/
theorem draws {X : Cx} {pins : List (Addr × Obj)} {σ : L2.St} {H : Hp} {s : Shared} (I : Inv X pins σ H s) {S : Sq} {xs : List V} (h : S.its X.K H xs) {t : Tok} {it : Addr} (hn : it ∉ S.addr) (A : Around) (hh : A.handled = none) :
    ∃ (fp : List Addr) (P : Nat → Value → Prop) (St : Nat → Heap → Prop), Draws X.prog X.w A it (it :: fp) xs.length P St ∧ (∀ b ∈ fp, b ∈ S.addr) ∧ (∀ i, S.st t it i s.heap → St i s.heap) ∧ (∀ i h, St i h → S.st t it i h) ∧ ∀ i u, P i u → ∃ x, xs[i]? = some x ∧ RelV x u := by
  cases S with
  | lst a =>
    obtain ⟨its, rv, p, hz⟩ := I.list h
    have e : its.toArray.size = xs.length := by rw [List.size_toArray, rv.length]
    refine ⟨[a], _, _, e ▸ Draws.list hh it a (fun q => hn (by rw [q]; exact List.mem_singleton_self _)) its.toArray, fun b hb => hb, fun i q => ⟨q, p.isList⟩, fun i h q => q.1, fun i u q => ?_⟩
    exact vals_rev rv (by simpa using q)
  | tup a =>
    obtain ⟨its, rv, p, hz⟩ := I.tuple h
    have e : its.toArray.size = xs.length := by rw [List.size_toArray, rv.length]
    refine ⟨[a], _, _, e ▸ Draws.tuple hh it a (fun q => hn (by rw [q]; exact List.mem_singleton_self _)) its.toArray, fun b hb => hb, fun i q => ⟨q, p⟩, fun i h q => q.1, fun i u q => ?_⟩
    exact vals_rev rv (by simpa using q)
  | str z =>
    have h' : xs = z.cps.toList.map fun c => V.str ⟨#[c]⟩ := h
    subst h'
    have e : z.cps.size = (z.cps.toList.map fun c => V.str ⟨#[c]⟩).length := by simp
    refine ⟨[], _, _, e ▸ Draws.text hh it z t, fun b hb => hb, fun i q => q, fun i h q => q, fun i u q => ?_⟩
    obtain ⟨c, u, hc, rfl⟩ := q
    exact ⟨.str ⟨#[c]⟩, by simp [hc], u, rfl⟩
def obj (t : Tok) : Sq → Obj
  | lst a => { cls := .type "list_iterator", data := .fields #[.ref a, .int 0 0] }
  | tup a => { cls := .type "tuple_iterator", data := .fields #[.ref a, .int 0 0] }
  | str z => { cls := .type (strIterType z), data := .fields #[.str z t, .int 0 0] }
theorem begins {X : Cx} {pins : List (Addr × Obj)} {σ : L2.St} {H : Hp} {s : Shared} (I : Inv X pins σ H s) {S : Sq} {xs : List V} (h : S.its X.K H xs) (t : Tok) : ∃ Hp, Begins (S.val t) (S.obj t) Hp ∧ Hp s.heap := by
  cases S with
  | lst a =>
    obtain ⟨its, rv, p, hz⟩ := I.list h
    exact ⟨_, begins_list a its.toArray, p.isList⟩
  | tup a =>
    obtain ⟨its, rv, p, hz⟩ := I.tuple h
    exact ⟨_, begins_tuple a its.toArray, p⟩
  | str z => exact ⟨_, begins_text z t, trivial⟩
theorem st0 {S : Sq} {t : Tok} {it : Addr} {h : Heap} (e : h.get? it = some (S.obj t)) : S.st t it 0 h := by
  cases S with
  | lst a => exact ⟨_, e, rfl, rfl⟩
  | tup a => exact ⟨_, e, rfl, rfl⟩
  | str z => exact ⟨_, e, rfl, rfl⟩
theorem addr_lt {X : Cx} {pins : List (Addr × Obj)} {σ : L2.St} {H : Hp} {s : Shared} (I : Inv X pins σ H s) {S : Sq} {xs : List V} (h : S.its X.K H xs) : ∀ b ∈ S.addr, b < s.heap.objs.size := by
  cases S with
  | lst a =>
    obtain ⟨its, rv, ⟨o, n, e, _⟩, hz⟩ := I.list h
    intro b hb
    rw [List.mem_singleton.mp hb]
    exact Heap.lt_size e
  | tup a =>
    obtain ⟨its, rv, ⟨o, e, _⟩, hz⟩ := I.tuple h
    intro b hb
    rw [List.mem_singleton.mp hb]
    exact Heap.lt_size e
  | str z => intro b hb; cases hb
end Sq
theorem tup_ok {P : Program} {w : World} {H : Hp} {h : Heap} {T : Addr} {xs : List V} {us : List Value} (hl : xs.length ≤ sizeLine) (r : Vals xs us) (hT : h.get? T = some { cls := .type "tuple", data := .seq us.toArray }) : ObjOk P w H h T (.tup xs) :=
  ⟨hl, us, r, ⟨_, hT, rfl, _, rfl⟩⟩

def Jen (K : PySem.W.Frag) (S : Sq) (n : Nat) : It :=
  ⟨fun i H => i < n ∧ ∃ xs, S.its K H xs ∧ xs.length = n, fun i H v H' => ∃ T x, v = .ref T ∧ H T = none ∧ H' = upd H T (.tup [.int (i : Nat), x]) ∧ ∀ xs, S.its K H xs → xs[i]? = some x, fun i H => n ≤ i ∧ ∃ xs, S.its K H xs ∧ xs.length = n⟩
theorem pull_en {P : Program} {w : World} {K : PySem.W.Frag} (S : Sq) (t : Tok) (e it : Addr) (n : Nat) (hne : e ≠ it) (h1 : e ∉ S.addr) (h2 : it ∉ S.addr) :
    Pull P w K (Jen K S n) [e, it] e (fun i h => i ≤ n ∧ EnA h e it (i : Nat) ∧ S.st t it i h) where
  mem := by simp
  obj := fun i h st b hb => by
    obtain ⟨_, ⟨_, _, _, _, he⟩, hs⟩ := st
    have e' : b = e ∨ b = it := by simpa using hb
    rcases e' with z | z
    · rw [z]; exact ⟨_, he, fun v q => nomatch q⟩
    · rw [z]
      obtain ⟨o, ho, vs, hd⟩ := Sq.stLive hs
      exact ⟨o, ho, fun v q => by rw [hd] at q; cases q⟩
  keep := fun i h h' st k => by
    obtain ⟨hi, ⟨s0, f, old, h0, he⟩, hs⟩ := st
    exact ⟨hi, ⟨s0, f, old, h0, k e (by simp) _ he⟩, Sq.stAt hs fun o q => k it (by simp) o q⟩
  item := by
    intro X hP hw hK A hh i pins s σ H E I hf st hg
    subst hP hw hK
    obtain ⟨hle, hen, hs⟩ := st
    obtain ⟨hi, xs, hq, hl⟩ := hg
    obtain ⟨fp, Pv, St, D, hfp, up, down, val⟩ := Sq.draws I hq (t := t) h2 A.in1 hh
    refine en_pyNext_item (Dr.of D (by simp)) hen (up i hs) (by omega) (fun q => ?_) fun x h' tk T t' Z p hN hZ hT hen' hs' hTup hk => ?_
    · rcases List.mem_cons.mp q with q | q
      · exact hne q
      · exact h1 (hfp _ q)
    · obtain ⟨xv, hx, rx⟩ := val i x p
      have hTl : s.heap.objs.size ≤ T := Nat.le_trans hN hZ
      have hel : e < s.heap.objs.size := by obtain ⟨_, _, _, _, q⟩ := hen; exact Heap.lt_size q
      have hil : it < s.heap.objs.size := by obtain ⟨o, q, _⟩ := Sq.stLive hs; exact Heap.lt_size q
      have I1 : Inv X pins σ (upd H T (.tup [.int (i : Nat), xv])) { s with heap := h', toks := tk } :=
        I.turnedNew (ch := [e, it]) (fun b ob hb q => hk b ob (fun z => hb (by simp [z])) (fun z => hb (by simp at z; simp [z])) q) hf hTl (tup_ok (by show 2 ≤ sizeLine; decide) (.cons ⟨_, rfl⟩ (.cons rx .nil)) hTup)
      refine ⟨_, rfl, .ref T, _, I1, rfl, ⟨T, xv, rfl, I.hok.fresh hTl, rfl, fun ys hy => by rw [Sq.inj I hy hq]; exact hx⟩, ⟨by omega, hen', down _ _ hs'⟩, fun b hb => ?_⟩
      have hb' : b < s.heap.objs.size := by
        have e' : b = e ∨ b = it := by simpa using hb
        rcases e' with z | z
        · rw [z]; exact hel
        · rw [z]; exact hil
      rw [upd_ne (Nat.ne_of_lt (Nat.lt_of_lt_of_le hb' hTl))]
      exact (hf b hb).1
  done := by
    intro X hP hw hK A hh i pins s σ H E I hf st hg
    subst hP hw hK
    obtain ⟨hle, hen, hs⟩ := st
    obtain ⟨hi, xs, hq, hl⟩ := hg
    obtain ⟨fp, Pv, St, D, hfp, up, down, val⟩ := Sq.draws I hq (t := t) h2 A.in1 hh
    have e1 : i = xs.length := by omega
    exact en_pyNext_end (Dr.of D (by simp)) hen (by rw [← e1]; exact up i hs) fun h' tk k => ⟨rfl, I.turnedL (ch := [e, it]) (fun b o hb q => k b o (fun z => hb (by simp at z; simp [z])) q) hf⟩
theorem turn_en {P : Program} {w : World} {K : PySem.W.Frag} {tg : Expr} (S : Sq) (t : Tok) (e it : Addr) (n : Nat) (hne : e ≠ it) (h1 : e ∉ S.addr) (h2 : it ∉ S.addr) :
    Turn P w K tg (Jen K S n) [e, it] e (fun i h => i ≤ n ∧ EnA h e it (i : Nat) ∧ S.st t it i h) :=
  turn_of (pull_en S t e it n hne h1 h2) (fun A i s u Q E st hQ => en_go st.2.1 fun h' q sb => hQ h' ⟨st.1, q, Sq.stAt st.2.2 fun o q => (sb.2 it (Ne.symm hne)).trans q⟩ sb) fun A i s Q E st h => iter_en st.2.1 h

def Jzi (K : PySem.W.Frag) (S1 S2 : Sq) (n1 n2 : Nat) : It :=
  ⟨fun i H => i < min n1 n2 ∧ ∃ xs ys, S1.its K H xs ∧ xs.length = n1 ∧ S2.its K H ys ∧ ys.length = n2, fun i H v H' => ∃ T x y, v = .ref T ∧ H T = none ∧ H' = upd H T (.tup [x, y]) ∧ (∀ xs, S1.its K H xs → xs[i]? = some x) ∧ ∀ ys, S2.its K H ys → ys[i]? = some y,
    fun i H => min n1 n2 ≤ i ∧ ∃ xs ys, S1.its K H xs ∧ xs.length = n1 ∧ S2.its K H ys ∧ ys.length = n2⟩
/-- the cells of a zip: apart, and apart from what it goes over -/
structure ZiAp (S1 S2 : Sq) (z TI TO i1 i2 : Addr) : Prop where
  TIz : TI ≠ z
  TOz : TO ≠ z
  TITO : TI ≠ TO
  TIi1 : TI ≠ i1
  TIi2 : TI ≠ i2
  zi1 : z ≠ i1
  zi2 : z ≠ i2
  TOi1 : TO ≠ i1
  TOi2 : TO ≠ i2
  i12 : i1 ≠ i2
  out : ∀ b, b ∈ S1.addr ∨ b ∈ S2.addr → b ≠ z ∧ b ≠ TI ∧ b ≠ TO ∧ b ≠ i1 ∧ b ≠ i2
section
variable {S1 S2 : Sq} {z TI TO i1 i2 : Addr}
theorem ZiAp.sep (D : ZiAp S1 S2 z TI TO i1 i2) {fp1 fp2 : List Addr} (h1 : ∀ b ∈ fp1, b ∈ S1.addr) (h2 : ∀ b ∈ fp2, b ∈ S2.addr) : ZipSep2 z TI TO i1 i2 (i1 :: fp1) (i2 :: fp2) := by
  have o1 : ∀ b ∈ fp1, b ≠ z ∧ b ≠ TI ∧ b ≠ TO ∧ b ≠ i1 ∧ b ≠ i2 := fun b hb => D.out b (.inl (h1 b hb))
  have o2 : ∀ b ∈ fp2, b ≠ z ∧ b ≠ TI ∧ b ≠ TO ∧ b ≠ i1 ∧ b ≠ i2 := fun b hb => D.out b (.inr (h2 b hb))
  refine ⟨D.TIz, D.TOz, D.TITO, D.TIi1, List.mem_cons_self, ?_, ?_, D.TIi2, List.mem_cons_self, ?_, ?_, ?_, ?_⟩
  · intro q; rcases List.mem_cons.mp q with q | q
    · exact D.zi1 q
    · exact (o1 _ q).1 rfl
  · intro q; rcases List.mem_cons.mp q with q | q
    · exact D.TOi1 q
    · exact (o1 _ q).2.2.1 rfl
  · intro q; rcases List.mem_cons.mp q with q | q
    · exact D.zi2 q
    · exact (o2 _ q).1 rfl
  · intro q; rcases List.mem_cons.mp q with q | q
    · exact D.TOi2 q
    · exact (o2 _ q).2.2.1 rfl
  · intro q; rcases List.mem_cons.mp q with q | q
    · exact D.i12 q
    · exact (o2 _ q).2.2.2.1 rfl
  · intro q; rcases List.mem_cons.mp q with q | q
    · exact D.i12 q.symm
    · exact (o1 _ q).2.2.2.2 rfl
def ZiSt (S1 S2 : Sq) (t1 t2 : Tok) (z TI TO i1 i2 : Addr) (i : Nat) (h : Heap) : Prop := ZiA h z TI TO ∧ IsTupOf2 h TI (.ref i1) (.ref i2) ∧ OutZ h TO ∧ S1.st t1 i1 i h ∧ S2.st t2 i2 i h
theorem ZiSt.keep {t1 t2 : Tok} {i : Nat} {h h' : Heap} (st : ZiSt S1 S2 t1 t2 z TI TO i1 i2 i h) (k : ∀ b ∈ [z, TI, TO, i1, i2], ∀ o, h.get? b = some o → h'.get? b = some o) : ZiSt S1 S2 t1 t2 z TI TO i1 i2 i h' := by
  obtain ⟨⟨_, _, h0, hz⟩, hTI, ⟨_, _, hTO⟩, s1, s2⟩ := st
  exact ⟨⟨_, _, h0, k z (by simp) _ hz⟩, k TI (by simp) _ hTI, ⟨_, _, k TO (by simp) _ hTO⟩, Sq.stAt s1 fun o q => k i1 (by simp) o q, Sq.stAt s2 fun o q => k i2 (by simp) o q⟩
theorem ZiSt.obj {t1 t2 : Tok} {i : Nat} {h : Heap} (st : ZiSt S1 S2 t1 t2 z TI TO i1 i2 i h) : ∀ b ∈ [z, TI, TO, i1, i2], ∃ o, h.get? b = some o ∧ ∀ v, o.data ≠ .cell v := by
  obtain ⟨⟨_, _, h0, hz⟩, hTI, ⟨_, _, hTO⟩, s1, s2⟩ := st
  intro b hb
  have e' : b = z ∨ b = TI ∨ b = TO ∨ b = i1 ∨ b = i2 := by simpa using hb
  rcases e' with q | q | q | q | q
  · rw [q]; exact ⟨_, hz, fun v q => nomatch q⟩
  · rw [q]; exact ⟨_, hTI, fun v q => nomatch q⟩
  · rw [q]; exact ⟨_, hTO, fun v q => nomatch q⟩
  · rw [q]; obtain ⟨o, ho, vs, hd⟩ := Sq.stLive s1; exact ⟨o, ho, fun v q => by rw [hd] at q; cases q⟩
  · rw [q]; obtain ⟨o, ho, vs, hd⟩ := Sq.stLive s2; exact ⟨o, ho, fun v q => by rw [hd] at q; cases q⟩
theorem pull_zi {P : Program} {w : World} {K : PySem.W.Frag} (t1 t2 : Tok) (n1 n2 : Nat) (D : ZiAp S1 S2 z TI TO i1 i2) :
    Pull P w K (Jzi K S1 S2 n1 n2) [z, TI, TO, i1, i2] z (fun i h => i ≤ min n1 n2 ∧ ZiSt S1 S2 t1 t2 z TI TO i1 i2 i h) where
  mem := by simp
  obj := fun i h st => st.2.obj
  keep := fun i h h' st k => ⟨st.1, st.2.keep k⟩
  item := by
    intro X hP hw hK A hh i pins s σ H E I hf st hg
    subst hP hw hK
    have lts : ∀ b ∈ [z, TI, TO, i1, i2], b < s.heap.objs.size := fun b hb => let ⟨o, e, _⟩ := st.2.obj b hb; Heap.lt_size e
    obtain ⟨hle, hz, hTI, hTO, s1, s2⟩ := st
    obtain ⟨hi, xs, ys, hqx, hlx, hqy, hly⟩ := hg
    have nz : i1 ∉ S1.addr := fun q => (D.out _ (.inl q)).2.2.2.1 rfl
    have nz2 : i2 ∉ S2.addr := fun q => (D.out _ (.inr q)).2.2.2.2 rfl
    obtain ⟨fp, Pv, St, D1, hfp, up, down, val⟩ := Sq.draws I hqx (t := t1) nz A.in1 hh
    obtain ⟨fp2, Pv2, St2, D2, hfp2, up2, down2, val2⟩ := Sq.draws I hqy (t := t2) nz2 A.in1 hh
    have Sp := D.sep hfp hfp2
    refine zi_pyNext_item Sp D1 D2 hz hTI hTO (up i s1) (up2 i s2) (by omega) (by omega) fun x1 x2 h' tk p1 p2 hz' hTO' s1' s2' hT hsz hk => ?_
    obtain ⟨xv, hx, rx⟩ := val i x1 p1
    obtain ⟨yv, hy, ry⟩ := val2 i x2 p2
    have zl := lts z (by simp)
    have I1 : Inv X pins σ (upd H s.heap.objs.size (.tup [xv, yv])) { s with heap := h', toks := tk } :=
      I.turnedNew (ch := [z, TI, TO, i1, i2]) (fun c o hb q => hk c o (fun q' => hb (by simp [q'])) (fun q' => hb (by simp [q'])) (fun q' => hb (by simp [q'])) (fun q' => hb (by simp [q'])) q) hf (Nat.le_refl _)
        (tup_ok (by show 2 ≤ sizeLine; decide) (.cons rx (.cons ry .nil)) hT)
    refine ⟨_, rfl, .ref s.heap.objs.size, _, I1, rfl, ⟨_, xv, yv, rfl, I.hok.fresh (Nat.le_refl _), rfl, fun l hl => by rw [Sq.inj I hl hqx]; exact hx, fun l hl => by rw [Sq.inj I hl hqy]; exact hy⟩,
      ⟨by omega, hz', hk _ _ D.TIz D.TITO D.TIi1 D.TIi2 hTI, hTO', down _ _ s1', down2 _ _ s2'⟩, fun c hcm => ?_⟩
    rw [upd_ne (Nat.ne_of_lt (lts c hcm))]
    exact (hf c hcm).1
  done := by
    intro X hP hw hK A hh i pins s σ H E I hf st hg
    subst hP hw hK
    obtain ⟨hle, hz, hTI, hTO, s1, s2⟩ := st
    obtain ⟨hi, xs, ys, hqx, hlx, hqy, hly⟩ := hg
    have nz : i1 ∉ S1.addr := fun q => (D.out _ (.inl q)).2.2.2.1 rfl
    have nz2 : i2 ∉ S2.addr := fun q => (D.out _ (.inr q)).2.2.2.2 rfl
    obtain ⟨fp, Pv, St, D1, hfp, up, down, val⟩ := Sq.draws I hqx (t := t1) nz A.in1 hh
    obtain ⟨fp2, Pv2, St2, D2, hfp2, up2, down2, val2⟩ := Sq.draws I hqy (t := t2) nz2 A.in1 hh
    exact zi_pyNext_end (D.sep hfp hfp2) D1 D2 hz hTI hTO (up i s1) (up2 i s2) (by omega) (by omega) (by omega) fun h' tk hk => ⟨rfl, I.turnedL (ch := [z, TI, TO, i1, i2]) (fun c o hb q =>
      hk c o (fun q' => hb (by simp [q'])) (fun q' => hb (by simp [q'])) (fun q' => hb (by simp [q'])) (fun q' => hb (by simp [q'])) q) hf⟩
theorem turn_zi {P : Program} {w : World} {K : PySem.W.Frag} {tg : Expr} (t1 t2 : Tok) (n1 n2 : Nat) (D : ZiAp S1 S2 z TI TO i1 i2) :
    Turn P w K tg (Jzi K S1 S2 n1 n2) [z, TI, TO, i1, i2] z (fun i h => i ≤ min n1 n2 ∧ ZiSt S1 S2 t1 t2 z TI TO i1 i2 i h) :=
  turn_of (pull_zi t1 t2 n1 n2 D) (fun A i s u Q E st hQ => zi_go st.2.1 fun h' q sb => hQ h' ⟨st.1, q, (sb.2 _ D.TIz).trans st.2.2.1, (by obtain ⟨_, _, q⟩ := st.2.2.2.1; exact ⟨_, _, (sb.2 _ D.TOz).trans q⟩), Sq.stAt st.2.2.2.2.1 fun o q => (sb.2 _ (Ne.symm D.zi1)).trans q, Sq.stAt st.2.2.2.2.2 fun o q => (sb.2 _ (Ne.symm D.zi2)).trans q⟩ sb) fun A i s Q E st h => iter_zi st.2.1 h

def Jez (K : PySem.W.Frag) (S1 S2 : Sq) (n1 n2 : Nat) : It :=
  ⟨fun i H => i < min n1 n2 ∧ ∃ xs ys, S1.its K H xs ∧ xs.length = n1 ∧ S2.its K H ys ∧ ys.length = n2, fun i H v H' => ∃ T U x y, v = .ref U ∧ H T = none ∧ H U = none ∧ T ≠ U ∧ H' = upd (upd H T (.tup [x, y])) U (.tup [.int (i : Nat), .ref T]) ∧ (∀ xs, S1.its K H xs → xs[i]? = some x) ∧ ∀ ys, S2.its K H ys → ys[i]? = some y,
    fun i H => min n1 n2 ≤ i ∧ ∃ xs ys, S1.its K H xs ∧ xs.length = n1 ∧ S2.its K H ys ∧ ys.length = n2⟩
theorem pull_ez {P : Program} {w : World} {K : PySem.W.Frag} (t1 t2 : Tok) (n1 n2 : Nat) (e : Addr) (D : ZiAp S1 S2 z TI TO i1 i2) (he : e ≠ z ∧ e ≠ TI ∧ e ≠ TO ∧ e ≠ i1 ∧ e ≠ i2) (heo : ∀ b, b ∈ S1.addr ∨ b ∈ S2.addr → b ≠ e) :
    Pull P w K (Jez K S1 S2 n1 n2) [e, z, TI, TO, i1, i2] e (fun i h => i ≤ min n1 n2 ∧ EnA h e z (i : Nat) ∧ ZiSt S1 S2 t1 t2 z TI TO i1 i2 i h) where
  mem := by simp
  obj := fun i h st b hb => by
    rcases List.mem_cons.mp hb with q | q
    · obtain ⟨_, ⟨_, _, _, _, he⟩, _⟩ := st
      rw [q]; exact ⟨_, he, fun v q => nomatch q⟩
    · exact st.2.2.obj b q
  keep := fun i h h' st k => by
    obtain ⟨hi, ⟨s0, f, old, h0, he⟩, hs⟩ := st
    exact ⟨hi, ⟨s0, f, old, h0, k e (by simp) _ he⟩, hs.keep fun b hb o q => k b (List.mem_cons_of_mem _ hb) o q⟩
  item := by
    intro X hP hw hK A hh i pins s σ H E I hf st hg
    subst hP hw hK
    have lts : ∀ b ∈ [z, TI, TO, i1, i2], b < s.heap.objs.size := fun b hb => let ⟨o, e, _⟩ := st.2.2.obj b hb; Heap.lt_size e
    obtain ⟨hle, hen, hz, hTI, hTO, s1, s2⟩ := st
    obtain ⟨hi, xs, ys, hqx, hlx, hqy, hly⟩ := hg
    have hel : e < s.heap.objs.size := by obtain ⟨_, _, _, _, q⟩ := hen; exact Heap.lt_size q
    have nz : i1 ∉ S1.addr := fun q => (D.out _ (.inl q)).2.2.2.1 rfl
    have nz2 : i2 ∉ S2.addr := fun q => (D.out _ (.inr q)).2.2.2.2 rfl
    obtain ⟨fp, Pv, St, D1, hfp, up, down, val⟩ := Sq.draws I hqx (t := t1) nz A.in1.in1 hh
    obtain ⟨fp2, Pv2, St2, D2, hfp2, up2, down2, val2⟩ := Sq.draws I hqy (t := t2) nz2 A.in1.in1 hh
    have Sp := D.sep hfp hfp2
    have TI1 : TI ∉ i1 :: fp := fun q => by
      rcases List.mem_cons.mp q with q | q
      · exact D.TIi1 q
      · exact (D.out _ (.inl (hfp _ q))).2.1 rfl
    have TI2 : TI ∉ i2 :: fp2 := fun q => by
      rcases List.mem_cons.mp q with q | q
      · exact D.TIi2 q
      · exact (D.out _ (.inr (hfp2 _ q))).2.1 rfl
    have Dz := Dr.zi (A := A.in1) Sp TI1 TI2 D1 D2
    have hef : e ∉ z :: TI :: TO :: (i1 :: fp ++ i2 :: fp2) := fun q => by
      simp only [List.mem_cons, List.mem_append, List.cons_append] at q
      rcases q with q | q | q | q | q | q | q
      · exact he.1 q
      · exact he.2.1 q
      · exact he.2.2.1 q
      · exact he.2.2.2.1 q
      · exact heo _ (.inl (hfp _ q)) rfl
      · exact he.2.2.2.2 q
      · exact heo _ (.inr (hfp2 _ q)) rfl
    refine en_pyNext_item Dz hen ⟨by omega, hz, hTI, hTO, up i s1, up2 i s2⟩ (by omega) hef fun x h' tk U t' Z p hN hZ hU hen' hs' hTup hk => ?_
    obtain ⟨T, u1, u2, rfl, hNT, hTZ, p1, p2, hT⟩ := p
    obtain ⟨_, hz', hTI', hTO', s1', s2'⟩ := hs'
    obtain ⟨xv, hx, rx⟩ := val i u1 p1
    obtain ⟨yv, hy, ry⟩ := val2 i u2 p2
    have hUl : s.heap.objs.size ≤ U := Nat.le_trans hN hZ
    have hTU : T ≠ U := Nat.ne_of_lt (Nat.lt_of_lt_of_le hTZ hZ)
    have eT : T ≠ e := Nat.ne_of_gt (Nat.lt_of_lt_of_le hel hNT)
    have eU : U ≠ e := Nat.ne_of_gt (Nat.lt_of_lt_of_le hel hUl)
    have fT := I.hok.fresh hNT
    have fU := I.hok.fresh hUl
    have kk : ∀ c o, c ∉ [e, z, TI, TO, i1, i2] → s.heap.get? c = some o → h'.get? c = some o := fun c o hb q => by
      refine hk c o (fun q' => hb (by simp [q'])) (fun q' => hb ?_) q
      have : c = z ∨ c = TO ∨ c = i1 ∨ c = i2 := by simpa using q'
      rcases this with r | r | r | r <;> simp [r]
    have I1 : Inv X pins σ (upd (upd H T (.tup [xv, yv])) U (.tup [.int (i : Nat), .ref T])) { s with heap := h', toks := tk } := by
      refine turnedMany I (ch := [e, z, TI, TO, i1, i2]) kk hf (fun b hb => ?_) (fun b u q => ?_) fun b u q => ?_
      · rw [upd_ne (Nat.ne_of_lt (Nat.lt_of_lt_of_le hb hUl)), upd_ne (Nat.ne_of_lt (Nat.lt_of_lt_of_le hb hNT))]
      · rw [upd_ne (ne_of_none q fU), upd_ne (ne_of_none q fT)]; exact q
      · by_cases hb : b = U
        · subst hb
          rw [upd_same] at q
          cases q
          exact .inr (tup_ok (by show 2 ≤ sizeLine; decide) (.cons ⟨_, rfl⟩ (.cons rfl .nil)) hTup)
        · rw [upd_ne hb] at q
          by_cases hb2 : b = T
          · subst hb2
            rw [upd_same] at q
            cases q
            exact .inr (tup_ok (by show 2 ≤ sizeLine; decide) (.cons rx (.cons ry .nil)) hT)
          · rw [upd_ne hb2] at q
            exact .inl q
    refine ⟨_, rfl, .ref U, _, I1, rfl, ⟨T, U, xv, yv, rfl, fT, fU, hTU, rfl, fun l hl => by rw [Sq.inj I hl hqx]; exact hx, fun l hl => by rw [Sq.inj I hl hqy]; exact hy⟩, ⟨by omega, hen', hz', hTI', hTO', down _ _ s1', down2 _ _ s2'⟩, fun c hcm => ?_⟩
    · have hcl : c < s.heap.objs.size := by
        rcases List.mem_cons.mp hcm with q | q
        · rw [q]; exact hel
        · exact lts c q
      rw [upd_ne (Nat.ne_of_lt (Nat.lt_of_lt_of_le hcl hUl)), upd_ne (Nat.ne_of_lt (Nat.lt_of_lt_of_le hcl hNT))]
      exact (hf c hcm).1
  done := by
    intro X hP hw hK A hh i pins s σ H E I hf st hg
    subst hP hw hK
    obtain ⟨hle, hen, hz, hTI, hTO, s1, s2⟩ := st
    obtain ⟨hi, xs, ys, hqx, hlx, hqy, hly⟩ := hg
    have nz : i1 ∉ S1.addr := fun q => (D.out _ (.inl q)).2.2.2.1 rfl
    have nz2 : i2 ∉ S2.addr := fun q => (D.out _ (.inr q)).2.2.2.2 rfl
    obtain ⟨fp, Pv, St, D1, hfp, up, down, val⟩ := Sq.draws I hqx (t := t1) nz A.in1.in1 hh
    obtain ⟨fp2, Pv2, St2, D2, hfp2, up2, down2, val2⟩ := Sq.draws I hqy (t := t2) nz2 A.in1.in1 hh
    have Sp := D.sep hfp hfp2
    have TI1 : TI ∉ i1 :: fp := fun q => by
      rcases List.mem_cons.mp q with q | q
      · exact D.TIi1 q
      · exact (D.out _ (.inl (hfp _ q))).2.1 rfl
    have TI2 : TI ∉ i2 :: fp2 := fun q => by
      rcases List.mem_cons.mp q with q | q
      · exact D.TIi2 q
      · exact (D.out _ (.inr (hfp2 _ q))).2.1 rfl
    have Dz := Dr.zi (A := A.in1) Sp TI1 TI2 D1 D2
    have e1 : i = min xs.length ys.length := by omega
    refine en_pyNext_end Dz hen ⟨Nat.le_refl _, hz, hTI, hTO, by rw [← e1]; exact up i s1, by rw [← e1]; exact up2 i s2⟩ fun h' tk k => ⟨rfl, I.turnedL (ch := [e, z, TI, TO, i1, i2]) (fun c o hb q => k c o (fun q' => hb ?_) q) hf⟩
    have : c = z ∨ c = TO ∨ c = i1 ∨ c = i2 := by simpa using q'
    rcases this with r | r | r | r <;> simp [r]
end
end DL
set_option Elab.async false
set_option linter.all false
set_option maxRecDepth 100000
set_option maxHeartbeats 1000000
namespace DL
open PySem
open Sem (wp)
set_option maxHeartbeats 2000000 in
theorem meets_en1 {v : Value} {H : Heap → Prop} {itA : Heap → Addr} {grow : Heap → Heap} (B : ∀ (prog : Program) (w : World) (A : Around) (E : Value → Shared → Prop) (s : Shared) (Q : Value → Shared → Prop), H s.heap → Q (.ref (itA s.heap)) { s with heap := grow s.heap } → wpAny (model prog w) A (pyIter v) Q E s) :
    Meets (Builtin.«enumerate.__new__» ⟨[.type "enumerate", v], []⟩) (fun _ R s => H s.heap ∧
      R (.ok (.ret (.ref (grow s.heap).objs.size))) { s with heap := (grow s.heap).push { cls := .type "enumerate", data := .fields #[.none, .bool false, .ref (itA s.heap), rawInt 0, .none, .none] } }) :=
  .of_wp fun prog w A R s h => by
    obtain ⟨hp, g, d, tk, os⟩ := s; obtain ⟨h1, h⟩ := h
    have hsub := sub_enumerate
    have q1 : ∀ {A' : Around} {E : Value → Shared → Prop} {Q : Value → Shared → Prop}, Q (.ref (itA hp)) ⟨grow hp, g, d, tk, os⟩ → wpAny (model prog w) A' (pyIter v) Q E ⟨hp, g, d, tk, os⟩ :=
      fun q => B prog w _ _ ⟨hp, g, d, tk, os⟩ _ h1 q
    wp_walk using q1
    refine wpAny_stack_any fun st => wpAny_pure ?_
    split
    · rename_i c _ _ _ _ _
      cases (c == Value.type "enumerate")
      · wp_walk using q1
        exact ⟨_, rfl, h⟩
      · wp_walk using q1
        exact ⟨_, rfl, h⟩
    · wp_walk using q1
      exact ⟨_, rfl, h⟩
section
variable {prog : Program} {w : World} {A : Around} {E : Value → Shared → Prop} {s : Shared}
theorem en_begins {v : Value} {H : Heap → Prop} {itA : Heap → Addr} {grow : Heap → Heap} {Q : Value → Shared → Prop} (B : ∀ (prog : Program) (w : World) (A : Around) (E : Value → Shared → Prop) (s : Shared) (Q : Value → Shared → Prop), H s.heap → Q (.ref (itA s.heap)) { s with heap := grow s.heap } → wpAny (model prog w) A (pyIter v) Q E s) (h1 : H s.heap)
    (h : ∀ h', EnA h' (grow s.heap).objs.size (itA s.heap) ((0 : Nat) : Int) → h'.objs.size = (grow s.heap).objs.size + 1 →
      (∀ b o, (grow s.heap).get? b = some o → h'.get? b = some o) → Q (.ref (grow s.heap).objs.size) { s with heap := h' }) :
    wpAny (model prog w) A (call (.type "enumerate") [v]) Q E s := by
  refine callType_new F.called_enumerate (by decide) (F.typeCall_enumerate_1 _) (F.newCall_enumerate_1 _) (fun obj => F.args_object_init_2 obj _) F.entry_enumerate_new (meets_en1 B) ⟨h1, ?_⟩
  have he : ((grow s.heap).push { cls := .type "enumerate", data := .fields #[.none, .bool false, .ref (itA s.heap), rawInt 0, .none, .none] }).get? (grow s.heap).objs.size = some (enObj .none false (itA s.heap) 0 .none) := Heap.get?_push_size _ rfl
  show _ ∧ _
  exact ⟨⟨_, he, rfl⟩, h _ ⟨_, _, _, .inl rfl, he⟩ (by rw [Heap.size_push]) fun b o x => Heap.get?_push_of_some _ x⟩
end
open PySem.Spec PyProof.Rows L2
def iEn (K : PySem.W.Frag) (ta : TA) : TI := fun σ H R => ta σ H fun vs H1 => ∃ (S : Sq) (xs : List V), vs = [S.v] ∧ S.its K H1 xs ∧ R (Jen K S xs.length) H1
theorem pi_en {X : Cx} {tg e : Expr} {ta : TA} {p pos : Pos} (hg : Gl X "enumerate") (hm : X.mg "enumerate" = none) (ha : PA X [e] ta) (hs : starEach [e] X.env = [(false, eval e X.env)] := by rfl) :
    PI X tg (.Call (.Name "enumerate" p) [e] [] pos) (iEn X.K ta) := by
  refine ⟨fun pins s σ H R I h => ?_⟩
  refine Call_ (ld_blt I hg hm boot_enumerate (PyProof.Rows.callWith_type1 (thn (ha.run pos pins s σ H _ I h) fun us s1 ⟨vs, H1, I1, r1, q1⟩ => ?_) hs rfl))
  obtain ⟨S, xs, rfl, hq, q⟩ := q1
  obtain ⟨u, rfl, ru⟩ := vals1 r1
  obtain ⟨t, rfl⟩ := Sq.rel ru
  obtain ⟨Hp, B, hHp⟩ := Sq.begins I1 hq t
  have lt := Sq.addr_lt I1 hq
  refine en_begins (itA := fun h => h.objs.size) (grow := fun h => h.push (S.obj t)) (fun prog w A E s Q h q => B.iter prog w A E s Q h q) hHp fun h' he hsz hk => ?_
  have hz : (s1.heap.push (S.obj t)).objs.size = s1.heap.objs.size + 1 := Heap.size_push ..
  simp only [hz] at he hsz hk ⊢
  refine iter_en he ?_
  have I2 : Inv X pins σ H1 { s1 with heap := h' } := I1.kept (t' := s1.toks) fun b o e => hk b o (Heap.get?_push_of_some _ e)
  refine ⟨s1.heap.objs.size + 1, [s1.heap.objs.size + 1, s1.heap.objs.size], _, _, H1, rfl, I2, turn_en S t (s1.heap.objs.size + 1) s1.heap.objs.size xs.length (Nat.succ_ne_self _) (fun z => ?_) (fun z => ?_), ⟨Nat.zero_le _, he, Sq.st0 (hk _ _ (Heap.get?_push_size _ B.free))⟩, fun b hb => ?_, q⟩
  · have := lt _ z
    exact absurd this (Nat.not_lt_of_le (Nat.le_succ _))
  · exact absurd (lt _ z) (Nat.lt_irrefl _)
  · have e' : b = s1.heap.objs.size + 1 ∨ b = s1.heap.objs.size := by simpa using hb
    have hle : s1.heap.objs.size ≤ b := by
      rcases e' with z | z
      · rw [z]; exact Nat.le_add_right _ _
      · rw [z]; exact Nat.le_refl _
    exact I1.fpOk hle (I1.hok.fresh hle)
def iZi (K : PySem.W.Frag) (ta : TA) : TI := fun σ H R => ta σ H fun vs H1 => ∃ (S1 S2 : Sq) (xs ys : List V), vs = [S1.v, S2.v] ∧ S1.its K H1 xs ∧ S2.its K H1 ys ∧ R (Jzi K S1 S2 xs.length ys.length) H1
/-- a zip is begun -/
theorem zi_begun {X : Cx} {pins : List (Addr × Obj)} {σ : L2.St} {H : Hp} {s : Shared} (I : Inv X pins σ H s) {S1 S2 : Sq} {xs ys : List V} (h1 : S1.its X.K H xs) (h2 : S2.its X.K H ys) (t1 t2 : Tok) {A : Around} {E : Value → Shared → Prop} {Q : Value → Shared → Prop}
    (hQ : ∀ h', ZiAp S1 S2 (s.heap.objs.size + 4) (s.heap.objs.size + 2) (s.heap.objs.size + 3) s.heap.objs.size (s.heap.objs.size + 1) → ZiSt S1 S2 t1 t2 (s.heap.objs.size + 4) (s.heap.objs.size + 2) (s.heap.objs.size + 3) s.heap.objs.size (s.heap.objs.size + 1) 0 h' → h'.objs.size = s.heap.objs.size + 5 →
      (∀ c o, s.heap.get? c = some o → h'.get? c = some o) → Q (.ref (s.heap.objs.size + 4)) { s with heap := h' }) : wpAny (model X.prog X.w) A (call (.type "zip") [S1.val t1, S2.val t2]) Q E s := by
  obtain ⟨Hp1, B1, hHp1⟩ := Sq.begins I h1 t1
  obtain ⟨Hp2, B2, hHp2⟩ := Sq.begins I h2 t2
  have l1 := Sq.addr_lt I h1
  have l2 := Sq.addr_lt I h2
  refine zip_begins2 B1 B2 hHp1 hHp2 fun h' hz hTI hTO g1 g2 hsz hk => hQ h' ?_ ⟨⟨_, _, .inl rfl, hz⟩, hTI, ⟨_, _, hTO⟩, Sq.st0 g1, Sq.st0 g2⟩ hsz hk
  generalize s.heap.objs.size = N at *
  have l3 : ∀ b, b ∈ S1.addr ∨ b ∈ S2.addr → b < N := fun b hb => hb.elim (l1 b) (l2 b)
  have ne : ∀ (i j : Nat), i ≠ j → ((N : Nat) + i : Nat) ≠ N + j := fun i j h => by omega
  refine ⟨ne 2 4 (by decide), ne 3 4 (by decide), ne 2 3 (by decide), ne 2 0 (by decide), ne 2 1 (by decide), ne 4 0 (by decide), ne 4 1 (by decide), ne 3 0 (by decide), ne 3 1 (by decide), ne 0 1 (by decide), fun b hb => ?_⟩
  have := l3 b hb
  have lt : ∀ i : Nat, b ≠ N + i := fun i => Nat.ne_of_lt (Nat.lt_of_lt_of_le this (Nat.le_add_right _ _))
  exact ⟨lt 4, lt 2, lt 3, lt 0, lt 1⟩
theorem pi_zi {X : Cx} {tg e e2 : Expr} {ta : TA} {p pos : Pos} (hg : Gl X "zip") (hm : X.mg "zip" = none) (ha : PA X [e, e2] ta)
    (hs : starEach [e, e2] X.env = (false, eval e X.env) :: starEach [e2] X.env := by rfl) (hpl : (backTo pos (starEach [e2] X.env)).any (·.1) = false := by rfl) :
    PI X tg (.Call (.Name "zip" p) [e, e2] [] pos) (iZi X.K ta) := by
  refine ⟨fun pins s σ H R I h => ?_⟩
  refine Call_ (ld_blt I hg hm PyProof.Rows.boot_zip (PyProof.Rows.callWith_type1 (thn (ha.run pos pins s σ H _ I h) fun us s1 ⟨vs, H1, I1, r1, q1⟩ => ?_) hs hpl))
  obtain ⟨S1, S2, xs, ys, rfl, h1, h2, q⟩ := q1
  obtain ⟨u1, u2, rfl, ru1, ru2⟩ := vals2 r1
  obtain ⟨t1, rfl⟩ := Sq.rel ru1
  obtain ⟨t2, rfl⟩ := Sq.rel ru2
  refine zi_begun I1 h1 h2 t1 t2 fun h' D st hsz hk => iter_zi st.1 ?_
  have I2 : Inv X pins σ H1 { s1 with heap := h' } := I1.kept (t' := s1.toks) hk
  refine ⟨s1.heap.objs.size + 4, _, _, _, H1, rfl, I2, turn_zi t1 t2 xs.length ys.length D, ⟨Nat.zero_le _, st⟩, fun c hcm => ?_, q⟩
  have e' : c = s1.heap.objs.size + 4 ∨ c = s1.heap.objs.size + 2 ∨ c = s1.heap.objs.size + 3 ∨ c = s1.heap.objs.size ∨ c = s1.heap.objs.size + 1 := by simpa using hcm
  have hle : s1.heap.objs.size ≤ c := by
    rcases e' with z | z | z | z | z
    · rw [z]; exact Nat.le_add_right _ _
    · rw [z]; exact Nat.le_add_right _ _
    · rw [z]; exact Nat.le_add_right _ _
    · rw [z]; exact Nat.le_refl _
    · rw [z]; exact Nat.le_add_right _ _
  exact I1.fpOk hle (I1.hok.fresh hle)
def iEz (K : PySem.W.Frag) (ta : TA) : TI := fun σ H R => ta σ H fun vs H1 => ∃ (S1 S2 : Sq) (xs ys : List V), vs = [S1.v, S2.v] ∧ S1.its K H1 xs ∧ S2.its K H1 ys ∧ R (Jez K S1 S2 xs.length ys.length) H1
section
variable {M : Ghost} {C : Ct M} {W W1 W2 W' : Wd M} {σ : L2.St} {ρ : DEnv} {e : Expr} {we : EW M} {pos p : Pos}
/-- a sequence as a source, for good -/
structure SqD (K : PySem.W.Frag) (W : Wd M) (S : Sq) (vs : List V) (ds : List D) : Prop where
  its : ∀ W', Gs W W' → Wok K W' → S.its K W'.H vs
  rd : RpA K W.F W.R vs ds
theorem sqd_of {K : PySem.W.Frag} {v : V} {d : D} {ds : List D} (k : Wok K W) (r : Rp K W.F W.R v d) (h : itemsOf d = some ds) : ∃ S vs, v = Sq.v S ∧ SqD K W S vs ds := by
  cases d with
  | lst ds' =>
    cases h
    cases r with
    | lst h r2 => exact ⟨.lst _, _, rfl, fun W' g k' => .of (k'.sub _ _ (g.sub _ _ h)), r2⟩
  | tup ds' =>
    cases h
    cases r with
    | tup h r2 => exact ⟨.tup _, _, rfl, fun W' g k' => same_tup k'.sub (same_tup g.sub h), r2⟩
  | str x =>
    cases h
    cases r with
    | str z _ h =>
      subst h
      refine ⟨.str z, z.cps.toList.map fun c => V.str ⟨#[c]⟩, rfl, fun W' g k' => rfl, ?_⟩
      have : ∀ l : List Nat, RpA K W.F W.R (l.map fun c => V.str ⟨#[c]⟩) (l.map fun c => D.str [c]) := fun l => by
        induction l with
        | nil => exact .nil
        | cons c l ih => exact .cons (.str _ _ rfl) ih
      exact this _
  | _ => cases h
theorem SqD.step {K : PySem.W.Frag} {S : Sq} {vs : List V} {ds : List D} (h : SqD K W S vs ds) (g : Go W W1) : SqD K W1 S vs ds := ⟨fun W' g' k' => h.its W' (g.s.trans g') k', h.rd.step g⟩
theorem idx_inj {K : PySem.W.Frag} {S : Sq} {vs : List V} {ds : List D} (h : SqD K W S vs ds) (g : Gs W W1) (k : Wok K W1) {i : Nat} {x : V} {d : D} (hd : ds[i]? = some d) (hx : ∀ xs, S.its K W1.H xs → xs[i]? = some x) : Rp K W1.F W1.R x d := by
  obtain ⟨v, h1, h2⟩ := (h.rd.gs g).get' hd
  have := hx _ (h.its W1 g k)
  rw [h1] at this
  cases this
  exact h2
def enL : Nat → List D → List D
  | _, [] => []
  | n, d :: ds => .tup [.int (n : Nat), d] :: enL (n + 1) ds
theorem enL_get : ∀ (ds : List D) (n i : Nat), (enL n ds)[i]? = (ds[i]?).map fun d => .tup [.int ((n + i : Nat) : Int), d]
  | [], _, _ => by simp [enL]
  | d :: ds, n, 0 => by simp [enL]
  | d :: ds, n, i + 1 => by
    show (enL (n + 1) ds)[i]? = _
    rw [enL_get ds (n + 1) i, show n + 1 + i = n + (i + 1) by omega]
    simp
def zipL (ds es : List D) : List D := (ds.zip es).map fun p => .tup [p.1, p.2]
theorem wk_en {K : PySem.W.Frag} {S : Sq} {vs : List V} {ds : List D} (k0 : Wok K W) (h : SqD K W S vs ds) : WK K W (Jen K S vs.length) (enL 0 ds) where
  go := fun i W1 d g k e => by
    rw [enL_get, Nat.zero_add] at e
    cases hd : ds[i]? with
    | none => rw [hd] at e; cases e
    | some d0 =>
      rw [hd] at e
      cases e
      have hl : i < vs.length := by rw [h.rd.length]; exact (List.getElem?_eq_some_iff.mp hd).1
      refine ⟨⟨hl, vs, h.its W1 g k, rfl⟩, fun x H' y => ?_⟩
      obtain ⟨T, x, rfl, hT, rfl, hx⟩ := y
      have r := idx_inj h g k hd hx
      exact ⟨W1.lay T (.tup [.int (i : Nat), x]), rfl, Go.lay k hT, k.lay hT, rfl, .tup (.of upd_same) (.cons (.int _) (.cons (r.mono (same_new (k.noF hT)) fun _ _ z => z) .nil))⟩
  stop := fun i W1 g k e => by
    rw [enL_get, Nat.zero_add] at e
    refine ⟨?_, vs, h.its W1 g k, rfl⟩
    rw [h.rd.length]
    cases hd : ds[i]? with
    | none => exact List.getElem?_eq_none_iff.mp hd
    | some d0 => rw [hd] at e; cases e
theorem zip_get {ds es : List D} {i : Nat} {d : D} (h : (zipL ds es)[i]? = some d) : ∃ x y, ds[i]? = some x ∧ es[i]? = some y ∧ d = .tup [x, y] := by
  unfold zipL at h
  rw [List.getElem?_map] at h
  cases hz : (ds.zip es)[i]? with
  | none => rw [hz] at h; cases h
  | some p =>
    rw [hz] at h
    cases h
    have := List.getElem?_zip_eq_some.mp hz
    exact ⟨_, _, this.1, this.2, rfl⟩
theorem zip_none {ds es : List D} {i : Nat} (h : (zipL ds es)[i]? = none) : min ds.length es.length ≤ i := by
  have := List.getElem?_eq_none_iff.mp h
  unfold zipL at this
  rw [List.length_map, List.length_zip] at this
  exact this
theorem wk_zi {K : PySem.W.Frag} {S1 S2 : Sq} {vs us : List V} {ds es : List D} (h1 : SqD K W S1 vs ds) (h2 : SqD K W S2 us es) : WK K W (Jzi K S1 S2 vs.length us.length) (zipL ds es) where
  go := fun i W1 d g k e => by
    obtain ⟨x, y, hx, hy, rfl⟩ := zip_get e
    have l1 : i < vs.length := by rw [h1.rd.length]; exact (List.getElem?_eq_some_iff.mp hx).1
    have l2 : i < us.length := by rw [h2.rd.length]; exact (List.getElem?_eq_some_iff.mp hy).1
    refine ⟨⟨by omega, vs, us, h1.its W1 g k, rfl, h2.its W1 g k, rfl⟩, fun v H' yy => ?_⟩
    obtain ⟨T, xv, yv, rfl, hT, rfl, gx, gy⟩ := yy
    have r1 := idx_inj h1 g k hx gx
    have r2 := idx_inj h2 g k hy gy
    exact ⟨W1.lay T (.tup [xv, yv]), rfl, Go.lay k hT, k.lay hT, rfl, .tup (.of upd_same) (.cons (r1.mono (same_new (k.noF hT)) fun _ _ z => z) (.cons (r2.mono (same_new (k.noF hT)) fun _ _ z => z) .nil))⟩
  stop := fun i W1 g k e => ⟨by rw [h1.rd.length, h2.rd.length]; exact zip_none e, vs, us, h1.its W1 g k, rfl, h2.its W1 g k, rfl⟩
theorem wk_ez {K : PySem.W.Frag} {S1 S2 : Sq} {vs us : List V} {ds es : List D} (h1 : SqD K W S1 vs ds) (h2 : SqD K W S2 us es) : WK K W (Jez K S1 S2 vs.length us.length) (enL 0 (zipL ds es)) where
  go := fun i W1 d g k e => by
    rw [enL_get, Nat.zero_add] at e
    cases hd : (zipL ds es)[i]? with
    | none => rw [hd] at e; cases e
    | some d0 =>
      rw [hd] at e
      cases e
      obtain ⟨x, y, hx, hy, rfl⟩ := zip_get hd
      have l1 : i < vs.length := by rw [h1.rd.length]; exact (List.getElem?_eq_some_iff.mp hx).1
      have l2 : i < us.length := by rw [h2.rd.length]; exact (List.getElem?_eq_some_iff.mp hy).1
      refine ⟨⟨by omega, vs, us, h1.its W1 g k, rfl, h2.its W1 g k, rfl⟩, fun v H' yy => ?_⟩
      obtain ⟨T, U, xv, yv, rfl, hT, hU, hTU, rfl, gx, gy⟩ := yy
      have r1 := idx_inj h1 g k hx gx
      have r2 := idx_inj h2 g k hy gy
      have k1 := k.lay (o := .tup [xv, yv]) hT
      have hU1 : (W1.lay T (.tup [xv, yv])).H U = none := (upd_ne (Ne.symm hTU)).trans hU
      have m1 := same_new (o := .tup [xv, yv]) (k.noF hT)
      have m2 := same_new (o := .tup [.int (i : Nat), .ref T]) (k1.noF hU1)
      refine ⟨(W1.lay T (.tup [xv, yv])).lay U (.tup [.int (i : Nat), .ref T]), rfl, (Go.lay k hT).trans (Go.lay k1 hU1), k1.lay hU1, rfl, .tup (.of upd_same) (.cons (.int _) (.cons (.tup (.of (m2 _ _ upd_same)) ?_) .nil))⟩
      exact (RpA.cons (r1.mono m1 fun _ _ z => z) (.cons (r2.mono m1 fun _ _ z => z) .nil)).mono m2 fun _ _ z => z
  stop := fun i W1 g k e => by
    rw [enL_get, Nat.zero_add] at e
    refine ⟨?_, vs, us, h1.its W1 g k, rfl, h2.its W1 g k, rfl⟩
    rw [h1.rd.length, h2.rd.length]
    cases hd : (zipL ds es)[i]? with
    | none => exact zip_none hd
    | some d0 => rw [hd] at e; cases e
@[simp] def wEnum (w : EW M) : IW M := fun ρ g q => w ρ g fun d g' => ∃ ds, itemsOf d = some ds ∧ q (enL 0 ds) g'
@[simp] def wZip (wa wb : EW M) : IW M := fun ρ g q => wa ρ g fun d g1 => wb ρ g1 fun e g2 => ∃ ds es, itemsOf d = some ds ∧ itemsOf e = some es ∧ q (zipL ds es) g2
@[simp] def wEnZip (wa wb : EW M) : IW M := fun ρ g q => wa ρ g fun d g1 => wb ρ g1 fun e g2 => ∃ ds es, itemsOf d = some ds ∧ itemsOf e = some es ∧ q (enL 0 (zipL ds es)) g2
theorem di_enum {tg : Expr} (hm : C.X.mg "enumerate" = none) (he : DE C e we) (hg : Gl C.X "enumerate" := by rfl) (hs : starEach [e] C.X.env = [(false, eval e C.X.env)] := by rfl) (hs2 : starEach [e] C.X.env = (false, eval e C.X.env) :: starEach [] C.X.env := by rfl) :
    DI C tg (.Call (.Name "enumerate" p) [e] [] pos) (wEnum we) := ⟨fun σ ρ W R q S hR hw => iOf_of (pi_en hg hm (pa_cons pe_tOf pa_nil hs2) hs) (he.run σ ρ W _ _ S (fun v d W1 g1 k1 r1 q1 => by
  obtain ⟨ds, hd, q1⟩ := q1
  obtain ⟨S', vs, rfl, sq⟩ := sqd_of k1 r1 hd
  exact ⟨S', vs, rfl, sq.its W1 (Gs.refl _) k1, hR _ _ W1 g1 k1 (wk_en k1 sq) q1⟩) hw)⟩
variable {a b : Expr} {wa wb : EW M} {p2 pos2 : Pos}
theorem di_zip {tg : Expr} (hm : C.X.mg "zip" = none) (ha : DE C a wa) (hb : DE C b wb) (hg : Gl C.X "zip" := by rfl) (hs : starEach [a, b] C.X.env = (false, eval a C.X.env) :: starEach [b] C.X.env := by rfl) (hs2 : starEach [b] C.X.env = (false, eval b C.X.env) :: starEach [] C.X.env := by rfl)
    (hpl : (backTo pos (starEach [b] C.X.env)).any (·.1) = false := by rfl) : DI C tg (.Call (.Name "zip" p) [a, b] [] pos) (wZip wa wb) := ⟨fun σ ρ W R q S hR hw => iOf_of (pi_zi hg hm (pa_cons pe_tOf (pa_cons pe_tOf pa_nil hs2) hs) hs hpl)
  (ha.run σ ρ W _ _ S (fun v d W1 g1 k1 r1 q1 => hb.run σ ρ W1 _ _ (S.step g1 k1) (fun u e W2 g2 k2 r2 q2 => by
  obtain ⟨ds, es, hd, he, q2⟩ := q2
  obtain ⟨S1, vs, rfl, s1⟩ := sqd_of k2 (r1.step g2) hd
  obtain ⟨S2, us, rfl, s2⟩ := sqd_of k2 r2 he
  exact ⟨S1, S2, vs, us, rfl, s1.its W2 (Gs.refl _) k2, s2.its W2 (Gs.refl _) k2, hR _ _ W2 (g1.trans g2) k2 (wk_zi s1 s2) q2⟩) q1) hw)⟩
end
end DL
set_option Elab.async false
set_option linter.all false
set_option maxRecDepth 100000
set_option maxHeartbeats 1000000
namespace DL
open PySem PySem.Spec PyProof.Rows L2
theorem en_no_len : typeLookup (.type "enumerate") "__len__" = pure none := by rw [typeLookup_type, builtinLookup_eq_fast]; kernel_rfl
theorem en_no_hint : typeLookup (.type "enumerate") "__length_hint__" = pure none := by rw [typeLookup_type, builtinLookup_eq_fast]; kernel_rfl
section
variable {X : Cx} {pins : List (Addr × Obj)} {σ : L2.St}
/-- an untracked list S is tracked at last -/
theorem track {H : Hp} {s : Shared} {S : Addr} {vs : List V} {us : List Value} {c : Nat} (I : Inv X pins σ H s) (hf : FpOk X pins H S) (hz : vs.length ≤ sizeLine) (r : Vals vs us) (hS : s.heap.get? S = some { cls := .type "list", dict := none, data := .seq us.toArray c, slots := #[] }) :
    Inv X pins σ (upd H S (.lst vs)) s := by
  have hn := hf.1
  refine I.step (g' := s.gens) (d' := s.drawn) (t' := s.toks) (h' := s.heap) (ch := [S]) (fun b hb => by rw [List.mem_singleton.mp hb]; exact ⟨hf.2.2.2.1, hf.2.1, hf.2.2.2.2.1, hf.2.2.2.2.2⟩) (fun b o _ _ _ e _ => e) (fun b o _ _ _ e _ => ⟨o.slots, e⟩)
    (fun b o hb e n => ?_) (fun b o _ e => ⟨o, e⟩) (fun b xs e => ?_) (fun b o u e => ?_) (fun b ps e => ⟨#[], ?_⟩) (fun m hm => hm) (fun b u e => ?_) I.bare
  · rw [upd_ne (fun z => hb (by simp [z]))]; exact n
  · rw [upd_ne (ne_of_none e hn)]; exact e
  · rw [upd_ne (ne_of_none e hn)]; exact e
  · rw [upd_ne (ne_of_none e hn), e]; simp
  · by_cases hb : b = S
    · subst hb
      rw [upd_same] at e
      cases e
      exact ⟨hz, us, c, r, hS⟩
    · rw [upd_ne hb] at e
      exact (I.hok b u e).stay (fun c v hc q => q) (fun c q => by rw [upd_ne (ne_of_none q hn)]; exact q) fun c xs q => by rw [upd_ne (ne_of_none q hn)]; exact q
theorem fpAt {H H' : Hp} {b : Addr} (h : FpOk X pins H b) (n : H' b = none) : FpOk X pins H' b := ⟨n, h.2⟩
/-- the turns of list.extend -/
theorem ext_loop {J : It} {fp : List Addr} {it : Addr} {tn : Nat → Heap → Prop} {n : Nat} (p : Pull X.prog X.w X.K J fp it tn) {A : Around} (hh : A.handled = none) {S : Addr} (hSf : S ∉ fp) (res : Value) (Good : Nat → Hp → List V → Prop)
    (go : ∀ i H vs, Good i H vs → i < n → J.go i H ∧ ∀ x H', J.yld i H x H' → Good (i + 1) H' (vs ++ [x])) (stop : ∀ H vs, Good n H vs → J.stop n H) (hn : n ≤ sizeLine) {R : Result → Shared → Prop} :
    ∀ (k i : Nat) (s : Shared) (H : Hp) (vs : List V) (us : List Value) (c : Nat), n - i = k → i ≤ n → Good i H vs → Inv X pins σ H s → (∀ b ∈ fp, FpOk X pins H b) → FpOk X pins H S → tn i s.heap → s.heap.get? S = some { cls := .type "list", dict := none, data := .seq us.toArray c, slots := #[] } → Vals vs us → vs.length = i →
    (∀ s' H' vs' us' c', Good n H' vs' → Inv X pins σ H' s' → FpOk X pins H' S → s'.heap.get? S = some { cls := .type "list", dict := none, data := .seq us'.toArray c', slots := #[] } → Vals vs' us' → vs'.length = n → R (.ok (.ret res)) s') →
    codeAny (model X.prog X.w) A (.builtin "list.extend.loop" ⟨[.ref S, .ref it, res], []⟩) R s := by
  intro k
  induction k with
  | zero =>
    intro i s H vs us c hk hi hg I hf hfS st hS rv hl hR
    have hin : i = n := by omega
    subst hin
    refine codeAny_builtin PySem.F.entry_extend_loop ?_
    rw [Around.under_plainId PySem.F.plain_extend_loop _]
    show wpAny _ A.in1 (pyNext (.ref it) >>= _) _ _ s
    have keepS : ∀ s', Inv X pins σ H s' → True := fun _ _ => trivial
    -- the end does not touch S: S is pinned
    have hS0 := hS
    have Ip : Inv X ((S, { cls := .type "list", dict := none, data := .seq us.toArray c, slots := #[] }) :: pins) σ H s := by
      refine ⟨I.ok, I.os, I.bare, I.base, I.loc, I.cell, I.free, I.freeC, fun q hq => ?_, I.hok, I.len⟩
      rcases List.mem_append.mp hq with hq | hq
      · exact I.pin q (List.mem_append_left _ hq)
      · rcases List.mem_cons.mp hq with rfl | hq
        · exact ⟨hS, hfS.1, hfS.2.1, hfS.2.2.1, fun v z => nomatch z⟩
        · exact I.pin q (List.mem_append_right _ hq)
    have hf' : ∀ b ∈ fp, FpOk X ((S, { cls := .type "list", dict := none, data := .seq us.toArray c, slots := #[] }) :: pins) H b := fun b hb => by
      obtain ⟨f0, f1, f2, f3, f4, f5⟩ := hf b hb
      refine ⟨f0, f1, f2, f3, f4, fun q hq => ?_⟩
      rcases List.mem_append.mp hq with hq | hq
      · exact f5 q (List.mem_append_left _ hq)
      · rcases List.mem_cons.mp hq with rfl | hq
        · exact fun z => hSf ((show S = b from z) ▸ hb)
        · exact f5 q (List.mem_append_right _ hq)
    refine wpAny_bind (thn (p.done X rfl rfl rfl A.in1 hh i _ s σ H _ Ip hf' st (stop H vs hg)) fun r s' ⟨hr, I'⟩ => ?_)
    subst hr
    have hS' := (I'.pin (S, { cls := .type "list", dict := none, data := .seq us.toArray c, slots := #[] }) (List.mem_append_right _ List.mem_cons_self)).1
    have I2 : Inv X pins σ H s' := ⟨I'.ok, I'.os, I'.bare, I'.base, I'.loc, I'.cell, I'.free, I'.freeC, fun q hq => I'.pin q (by
      rcases List.mem_append.mp hq with hq | hq
      · exact List.mem_append_left _ hq
      · exact List.mem_append_right _ (List.mem_cons_of_mem _ hq)), I'.hok, I'.len⟩
    exact wpAny_pure (hR s' H vs us c hg I2 hfS hS' rv hl)
  | succ k ih =>
    intro i s H vs us c hk hi hg I hf hfS st hS rv hl hR
    have hlt : i < n := by omega
    refine codeAny_builtin PySem.F.entry_extend_loop ?_
    rw [Around.under_plainId PySem.F.plain_extend_loop _]
    show wpAny _ A.in1 (pyNext (.ref it) >>= _) _ _ s
    have Ip : Inv X ((S, { cls := .type "list", dict := none, data := .seq us.toArray c, slots := #[] }) :: pins) σ H s := by
      refine ⟨I.ok, I.os, I.bare, I.base, I.loc, I.cell, I.free, I.freeC, fun q hq => ?_, I.hok, I.len⟩
      rcases List.mem_append.mp hq with hq | hq
      · exact I.pin q (List.mem_append_left _ hq)
      · rcases List.mem_cons.mp hq with rfl | hq
        · exact ⟨hS, hfS.1, hfS.2.1, hfS.2.2.1, fun v z => nomatch z⟩
        · exact I.pin q (List.mem_append_right _ hq)
    have hf' : ∀ b ∈ fp, FpOk X ((S, { cls := .type "list", dict := none, data := .seq us.toArray c, slots := #[] }) :: pins) H b := fun b hb => by
      obtain ⟨f0, f1, f2, f3, f4, f5⟩ := hf b hb
      refine ⟨f0, f1, f2, f3, f4, fun q hq => ?_⟩
      rcases List.mem_append.mp hq with hq | hq
      · exact f5 q (List.mem_append_left _ hq)
      · rcases List.mem_cons.mp hq with rfl | hq
        · exact fun z => hSf ((show S = b from z) ▸ hb)
        · exact f5 q (List.mem_append_right _ hq)
    obtain ⟨jg, jy⟩ := go i H vs hg hlt
    refine wpAny_bind (thn (p.item X rfl rfl rfl A.in1 hh i _ s σ H _ Ip hf' st jg) fun r s' ⟨u, hr, x, H', I', rel, y, st', fn⟩ => ?_)
    subst hr
    have hS' := (I'.pin (S, { cls := .type "list", dict := none, data := .seq us.toArray c, slots := #[] }) (List.mem_append_right _ List.mem_cons_self)).1
    have I2 : Inv X pins σ H' s' := ⟨I'.ok, I'.os, I'.bare, I'.base, I'.loc, I'.cell, I'.free, I'.freeC, fun q hq => I'.pin q (by
      rcases List.mem_append.mp hq with hq | hq
      · exact List.mem_append_left _ hq
      · exact List.mem_append_right _ (List.mem_cons_of_mem _ hq)), I'.hok, I'.len⟩
    have hg' := jy x H' y
    have nS := (I'.pin (S, { cls := .type "list", dict := none, data := .seq us.toArray c, slots := #[] }) (List.mem_append_right _ List.mem_cons_self)).2.1
    have hfS' : FpOk X pins H' S := fpAt hfS nS
    show wpAny _ A.in1 (updateSeq S (·.push u) >>= _) _ _ _
    refine wpAny_bind ?_
    have hsz : us.toArray.size = i := by rw [List.size_toArray, ← rv.length, hl]
    have hS5 : ∃ c', (s'.heap.update S (Obj.mapSeq (·.push u))).get? S = some { cls := .type "list", dict := none, data := .seq (us ++ [u]).toArray c', slots := #[] } := by
      have := Heap.get?_update_self (Obj.mapSeq (·.push u)) hS' rfl
      rw [this]
      simp [Obj.mapSeq]
    obtain ⟨c5, hS5⟩ := hS5
    refine wpAny_updateSeq hS' rfl (wpAny_pure ⟨plainId_quiet PySem.F.plain_extend_loop _, ih (i + 1) _ H' (vs ++ [x]) (us ++ [u]) c5 (by omega) hlt hg' ?_ (fun b hb => fpAt (hf b hb) (fn b hb)) hfS' (p.keep _ _ _ st' fun b hb o e => ?_) hS5 (rv.append (.cons rel .nil)) (by rw [List.length_append, hl]; rfl) hR⟩)
      (by rw [hsz]; omega) (by show (us.toArray.push u).size ≤ sizeLine + 1; rw [Array.size_push, hsz]; omega)
    · exact I2.turnedL (t' := s'.toks) (ch := [S]) (fun b o hb e => (Heap.get?_update_other _ _ (fun h : S = b => hb (by rw [h]; exact List.mem_singleton_self _))).trans e) fun b hb => by rw [List.mem_singleton.mp hb]; exact hfS'
    · exact (Heap.get?_update_other _ _ (fun h : S = b => hSf (by rw [h]; exact hb))).trans e
theorem list_pull {H : Hp} {s : Shared} {T : String} {J : It} {fp : List Addr} {it : Addr} {tn : Nat → Heap → Prop} {n : Nat} (I : Inv X pins σ H s) (p : Pull X.prog X.w X.K J fp it tn) (hf : ∀ b ∈ fp, FpOk X pins H b) (st : tn 0 s.heap)
    (self : ∀ (A : Around) (i : Nat) (s : Shared) (Q : Value → Shared → Prop) (E : Value → Shared → Prop), tn i s.heap → Q (.ref it) s → wpAny (model X.prog X.w) A (pyIter (.ref it)) Q E s) (ty : ∀ i (s : Shared), tn i s.heap → s.TypeIs (.ref it) T)
    (n1 : (Value.type T == Value.type "list") = false) (n2 : (Value.type T == Value.type "tuple") = false) (no1 : typeLookup (.type T) "__len__" = pure none) (no2 : typeLookup (.type T) "__length_hint__" = pure none)
    (Good : Nat → Hp → List V → Prop) (g0 : Good 0 H []) (go : ∀ i H vs, Good i H vs → i < n → J.go i H ∧ ∀ x H', J.yld i H x H' → Good (i + 1) H' (vs ++ [x]))
    (stop : ∀ H vs, Good n H vs → J.stop n H) (hn : n ≤ sizeLine) {A : Around} (hh : A.handled = none) {Q : Value → Shared → Prop} {E : Value → Shared → Prop}
    (hQ : ∀ D H' vs s', Good n H' vs → H' D = none → vs.length = n → Inv X pins σ (upd H' D (.lst vs)) s' → Q (.ref D) s') : wpAny (model X.prog X.w) A (call (.type "list") [.ref it]) Q E s := by
  have hSf : s.heap.objs.size ∉ fp := fun hm => by
    obtain ⟨o, e, _⟩ := p.obj 0 _ st _ hm
    exact Nat.lt_irrefl _ (Heap.lt_size e)
  have hSi : s.heap.objs.size ≠ it := fun e => hSf (e ▸ p.mem)
  refine callType_codes (Q₁ := fun obj s₁ => obj = .ref s.heap.objs.size ∧ s₁ = { s with heap := s.heap.push { cls := .type "list", data := .seq #[] } }) PySem.F.called_list (PySem.F.typeCall_list_1 _) PySem.F.entry_list_init
    (code_list_new _ ⟨rfl, rfl⟩) fun obj s₁ h₁ => ?_
  obtain ⟨rfl, rfl⟩ := h₁
  have hS : (s.heap.push { cls := .type "list", data := .seq #[] }).get? s.heap.objs.size = some { cls := .type "list", data := .seq #[] } := Heap.get?_push_size _ rfl
  refine ⟨⟨_, hS, rfl⟩, PySem.F.args_list_init_2 _ _, ?_⟩
  have I1 : Inv X pins σ H { s with heap := s.heap.push { cls := .type "list", data := .seq #[] } } := I.kept (t' := s.toks) fun b o e => Heap.get?_push_of_some _ e
  have fS : FpOk X pins H s.heap.objs.size := I.fpOk (Nat.le_refl _) (I.hok.fresh (Nat.le_refl _))
  have stAt : ∀ h', (∀ b o, b ≠ s.heap.objs.size → (s.heap.push { cls := .type "list", data := .seq #[] }).get? b = some o → h'.get? b = some o) → tn 0 h' := fun h' k => p.keep _ _ _ st fun b hb o e => k b o (fun z => hSf (z ▸ hb)) (Heap.get?_push_of_some _ e)
  have invAt : ∀ h', (∀ b o, b ≠ s.heap.objs.size → (s.heap.push { cls := .type "list", data := .seq #[] }).get? b = some o → h'.get? b = some o) → Inv X pins σ H { s with heap := h' } := fun h' k =>
    Inv.turnedL (s := { s with heap := s.heap.push { cls := .type "list", data := .seq #[] } }) (h' := h') I1 (t' := s.toks) (ch := [s.heap.objs.size]) (fun b o hb e => k b o (fun z => hb (by simp [z])) e) fun b hb => by rw [List.mem_singleton.mp hb]; exact fS
  show wpAny _ _ (do let old ← Builtin.List.listItems (.ref s.heap.objs.size); Builtin.List.listUpdate (.ref s.heap.objs.size) (fun _ => #[]); letGo old.toList.reverse; Builtin.List.listExtendWith (.ref s.heap.objs.size) (.ref it) .none) _ _ _
  refine wpAny_bind ?_
  unfold Builtin.List.listItems
  refine wpAny_bind (wpAny_seqItems hS rfl (wpAny_pure ?_))
  show wpAny _ _ (updateSeq s.heap.objs.size (fun _ => #[]) >>= fun _ => letGo (#[] : Array Value).toList.reverse >>= fun _ => Builtin.List.listExtendWith (.ref s.heap.objs.size) (.ref it) .none) _ _ _
  refine wpAny_bind (wpAny_updateSeq hS rfl ?_)
  have hS₂ := Heap.get?_update_self (Obj.mapSeq (fun _ => (#[] : Array Value))) hS rfl
  have oth : ∀ b o, b ≠ s.heap.objs.size → (s.heap.push { cls := .type "list", data := .seq #[] }).get? b = some o → ((s.heap.push { cls := .type "list", data := .seq #[] }).update s.heap.objs.size (Obj.mapSeq (fun _ => (#[] : Array Value)))).get? b = some o :=
    fun b o hb e => (Heap.get?_update_other _ _ (Ne.symm hb)).trans e
  generalize hh2 : (s.heap.push { cls := .type "list", data := .seq #[] }).update s.heap.objs.size (Obj.mapSeq (fun _ => (#[] : Array Value))) = h2 at hS₂ oth
  refine wpAny_bind (wpAny_letGo ?_)
  unfold Builtin.List.listExtendWith
  have st2 := stAt h2 oth
  refine wpAny_bind (wpAny_typeOf (ty 0 _ st2) ?_)
  have h1 : Builtin.List.listSameRef (.ref s.heap.objs.size) (.ref it) = false := by simp [Builtin.List.listSameRef, hSi]
  simp only [h1, n1, n2, Bool.or_false, Bool.false_eq_true, if_false]
  refine wpAny_bind (self _ 0 _ _ _ st2 ?_)
  refine wpAny_bind (wpAny_holding ?_)
  unfold Builtin.List.listLengthHint
  refine wpAny_bind (wpAny_specialOf (ty 0 _ st2) no1 ?_)
  show wpAny _ _ (specialOf (Value.ref it) (Str.ofString "__length_hint__") >>= _) _ _ _
  refine wpAny_bind (wpAny_specialOf (ty 0 _ st2) no2 ?_)
  refine wpAny_pure ?_
  show wpAny _ _ (rule "list.extend.makes-room" >>= fun _ => Builtin.List.listTouch (.ref s.heap.objs.size) >>= fun _ => again (.builtin "list.extend.loop" ⟨[.ref s.heap.objs.size, .ref it, .none], []⟩)) _ _ _
  refine wpAny_bind (wpAny_rule ?_)
  refine wpAny_bind ?_
  show wpAny _ _ (updateSeq s.heap.objs.size (·.push .none) >>= fun _ => updateSeq s.heap.objs.size (·.pop)) _ _ _
  refine wpAny_bind (wpAny_updateSeq hS₂ rfl ?_)
  have hS₃ := Heap.get?_update_self (Obj.mapSeq (·.push Value.none)) hS₂ rfl
  refine wpAny_updateSeq (hz := by seq_fits) hS₃ rfl ?_
  have hS₄ := Heap.get?_update_self (Obj.mapSeq (·.pop)) hS₃ rfl
  have oth4 : ∀ b o, b ≠ s.heap.objs.size → (s.heap.push { cls := .type "list", data := .seq #[] }).get? b = some o → ((h2.update s.heap.objs.size (Obj.mapSeq (·.push Value.none))).update s.heap.objs.size (Obj.mapSeq (·.pop))).get? b = some o :=
    fun b o hb e => (Heap.get?_update_other _ _ (Ne.symm hb)).trans ((Heap.get?_update_other _ _ (Ne.symm hb)).trans (oth b o hb e))
  refine wpAny_pure ⟨plainId_quiet PySem.F.plain_extend_loop _, ?_⟩
  have I4 := invAt _ oth4
  refine ext_loop (n := n) p (A := A.in1) (show A.in1.handled = none from hh) hSf .none Good go stop hn _ 0 _ H [] [] _ rfl (Nat.zero_le _) g0 I4 hf fS (stAt _ oth4) hS₄ .nil rfl fun s' H' vs' us' c' hg' I' fS' hS' rv hl => ?_
  exact ⟨rfl, hQ _ H' vs' s' hg' fS'.1 hl (track I' fS' (by rw [hl]; exact hn) rv hS')⟩
end
def PullE (X : Cx) (pins : List (Addr × Obj)) (σ : L2.St) (R : It → Hp → Prop) (v : Value) (s2 : Shared) : Prop :=
  ∃ (T : String) (it : Addr) (fp : List Addr) (tn : Nat → Heap → Prop) (J : It) (H' : Hp), v = .ref it ∧ Inv X pins σ H' s2 ∧ Pull X.prog X.w X.K J fp it tn ∧ tn 0 s2.heap ∧ (∀ b ∈ fp, FpOk X pins H' b) ∧ R J H' ∧
    (∀ (A : Around) (i : Nat) (s : Shared) (Q : Value → Shared → Prop) (E : Value → Shared → Prop), tn i s.heap → Q (.ref it) s → wpAny (model X.prog X.w) A (pyIter (.ref it)) Q E s) ∧ (∀ i (s : Shared), tn i s.heap → s.TypeIs (.ref it) T) ∧
    (Value.type T == Value.type "list") = false ∧ (Value.type T == Value.type "tuple") = false ∧ typeLookup (.type T) "__len__" = pure none ∧ typeLookup (.type T) "__length_hint__" = pure none
structure PJ (X : Cx) (iter : Expr) (wi : TI) : Prop where
  run : ∀ (pins : List (Addr × Obj)) (s : Shared) (σ : L2.St) (H : Hp) (R : It → Hp → Prop), Inv X pins σ H s → wi σ H R → wpAny (model X.prog X.w) X.A (eval iter X.env) (PullE X pins σ R) X.xe s
theorem pj_ez {X : Cx} {e e2 : Expr} {ta : TA} {p pos p2 pos2 : Pos} (hge : Gl X "enumerate") (hme : X.mg "enumerate" = none) (hg : Gl X "zip") (hm : X.mg "zip" = none) (ha : PA X [e, e2] ta)
    (hse : starEach [.Call (.Name "zip" p2) [e, e2] [] pos2] X.env = (false, eval (.Call (.Name "zip" p2) [e, e2] [] pos2) X.env) :: starEach [] X.env := by rfl)
    (hs : starEach [e, e2] X.env = (false, eval e X.env) :: starEach [e2] X.env := by rfl) (hpl : (backTo pos2 (starEach [e2] X.env)).any (·.1) = false := by rfl) :
    PJ X (.Call (.Name "enumerate" p) [.Call (.Name "zip" p2) [e, e2] [] pos2] [] pos) (iEz X.K ta) := by
  refine ⟨fun pins s σ H R I h => ?_⟩
  refine Call_ (ld_blt I hge hme boot_enumerate (PyProof.Rows.callWith_type1 (args_cons ?_ hse) hse rfl))
  refine Call_ (ld_blt I hg hm PyProof.Rows.boot_zip (PyProof.Rows.callWith_type1 (thn (ha.run pos2 pins s σ H _ I h) fun us s1 ⟨vs, H1, I1, r1, q1⟩ => ?_) hs hpl))
  obtain ⟨S1, S2, xs, ys, rfl, h1, h2, q⟩ := q1
  obtain ⟨u1, u2, rfl, ru1, ru2⟩ := vals2 r1
  obtain ⟨t1, rfl⟩ := Sq.rel ru1
  obtain ⟨t2, rfl⟩ := Sq.rel ru2
  have l1 := Sq.addr_lt I1 h1
  have l2 := Sq.addr_lt I1 h2
  refine zi_begun I1 h1 h2 t1 t2 fun h' D st hsz hk => ?_
  refine args_nil ?_
  refine en_begins (H := fun h => ZiA h (s1.heap.objs.size + 4) (s1.heap.objs.size + 2) (s1.heap.objs.size + 3)) (itA := fun _ => s1.heap.objs.size + 4) (grow := fun h => h) (fun prog w A E s Q h q => iter_zi h q) st.1 fun h'' he hsz2 hk2 => ?_
  replace hk2 : ∀ b o, h'.get? b = some o → h''.get? b = some o := hk2
  replace he : EnA h'' h'.objs.size (s1.heap.objs.size + 4) ((0 : Nat) : Int) := he
  show PullE X pins σ R (.ref h'.objs.size) _
  rw [hsz] at he ⊢
  have I2 : Inv X pins σ H1 { s1 with heap := h'' } := I1.kept (t' := s1.toks) fun b o e => hk2 b o (hk b o e)
  have ne : ∀ (i j : Nat), i ≠ j → (s1.heap.objs.size + i : Nat) ≠ s1.heap.objs.size + j := fun i j h => by omega
  refine ⟨"enumerate", s1.heap.objs.size + 5, _, _, _, H1, rfl, I2, pull_ez t1 t2 xs.length ys.length (s1.heap.objs.size + 5) D ⟨ne 5 4 (by decide), ne 5 2 (by decide), ne 5 3 (by decide), ne 5 0 (by decide), ne 5 1 (by decide)⟩ (fun b hb => Nat.ne_of_lt (Nat.lt_of_lt_of_le (hb.elim (l1 b) (l2 b)) (Nat.le_add_right _ _))),
    ⟨Nat.zero_le _, he, st.keep fun b _ o e => hk2 b o e⟩, fun c hcm => ?_, q, fun A i s Q E st h => iter_en st.2.1 h, fun i s st => ?_, rfl, rfl, en_no_len, en_no_hint⟩
  · have hle : s1.heap.objs.size ≤ c := by
      have e' : c = s1.heap.objs.size + 5 ∨ c = s1.heap.objs.size + 4 ∨ c = s1.heap.objs.size + 2 ∨ c = s1.heap.objs.size + 3 ∨ c = s1.heap.objs.size ∨ c = s1.heap.objs.size + 1 := by simpa using hcm
      rcases e' with z | z | z | z | z | z
      · rw [z]; exact Nat.le_add_right _ _
      · rw [z]; exact Nat.le_add_right _ _
      · rw [z]; exact Nat.le_add_right _ _
      · rw [z]; exact Nat.le_add_right _ _
      · rw [z]; exact Nat.le_refl _
      · rw [z]; exact Nat.le_add_right _ _
    exact I1.fpOk hle (I1.hok.fresh hle)
  · obtain ⟨_, ⟨_, _, _, _, q⟩, _⟩ := st
    exact ⟨_, q, rfl⟩
/-- list(iterator) -/
def tLI (wi : TI) : TE := fun σ H Q => wi σ H fun J H1 => ∃ (n : Nat) (Good : Nat → Hp → List V → Prop), Good 0 H1 [] ∧ (∀ i H vs, Good i H vs → i < n → J.go i H ∧ ∀ x H', J.yld i H x H' → Good (i + 1) H' (vs ++ [x])) ∧ (∀ H vs, Good n H vs → J.stop n H) ∧ n ≤ sizeLine ∧
  ∀ D H' vs, Good n H' vs → H' D = none → vs.length = n → Q (.ref D) (upd H' D (.lst vs))
theorem pe_listI {X : Cx} {e : Expr} {wi : TI} {p pos : Pos} (hc : X.calm = true) (hg : Gl X "list") (hm : X.mg "list" = none) (hj : PJ X e wi) (hs : starEach [e] X.env = (false, eval e X.env) :: starEach [] X.env := by rfl) :
    PE X (.Call (.Name "list" p) [e] [] pos) (tLI wi) := by
  refine ⟨fun pins s σ H Q I h => ?_⟩
  refine Call_ (ld_blt I hg hm boot_list (PyProof.Rows.callWith_type1 (args_cons (thn (hj.run pins s σ H _ I h) fun v s1 x => ?_) hs) hs rfl))
  obtain ⟨T, it, fp, tn, J, H1, rfl, I1, P, st, hf, ⟨n, Good, g0, go, stop, hn, q⟩, self, ty, n1, n2, l1, l2⟩ := x
  refine args_nil ?_
  exact list_pull I1 P hf st self ty n1 n2 l1 l2 Good g0 go stop hn (I1.ok.hd hc) fun D H' vs s' hg' hD hl I' => ⟨.ref D, _, I', rfl, q D H' vs hg' hD hl⟩
section
variable {M : Ghost} {C : Ct M} {W W1 W2 W' : Wd M} {σ : L2.St} {ρ : DEnv} {e : Expr} {we : EW M} {pos p : Pos}
def jOf (X : Cx) (iter : Expr) : TI := fun σ H R => ∀ (pins : List (Addr × Obj)) (s : Shared), Inv X pins σ H s → wpAny (model X.prog X.w) X.A (eval iter X.env) (PullE X pins σ R) X.xe s
theorem pj_tOf {X : Cx} {iter : Expr} : PJ X iter (jOf X iter) := ⟨fun pins s _ _ _ I h => h pins s I⟩
theorem jOf_of {X : Cx} {iter : Expr} {t : TI} (h : PJ X iter t) {H : Hp} {R : It → Hp → Prop} (q : t σ H R) : jOf X iter σ H R := fun pins s I => h.run pins s σ H R I q
structure DJ (C : Ct M) (iter : Expr) (w : IW M) : Prop where
  run : ∀ (σ : L2.St) (ρ : DEnv) (W : Wd M) (R : It → Hp → Prop) (q : List D → M.G → Prop), Sat C σ ρ W → (∀ J ds W', Go W W' → Wok C.X.K W' → WK C.X.K W' J ds → q ds W'.g → R J W'.H) → w ρ W.g q → jOf C.X iter σ W.H R
variable {a b : Expr} {wa wb : EW M} {p2 pos2 : Pos}
theorem dj_enzip (hme : C.X.mg "enumerate" = none) (hm : C.X.mg "zip" = none) (ha : DE C a wa) (hb : DE C b wb) (hge : Gl C.X "enumerate" := by rfl) (hg : Gl C.X "zip" := by rfl)
    (hse : starEach [.Call (.Name "zip" p2) [a, b] [] pos2] C.X.env = (false, eval (.Call (.Name "zip" p2) [a, b] [] pos2) C.X.env) :: starEach [] C.X.env := by rfl) (hs : starEach [a, b] C.X.env = (false, eval a C.X.env) :: starEach [b] C.X.env := by rfl) (hs2 : starEach [b] C.X.env = (false, eval b C.X.env) :: starEach [] C.X.env := by rfl)
    (hpl : (backTo pos2 (starEach [b] C.X.env)).any (·.1) = false := by rfl) : DJ C (.Call (.Name "enumerate" p) [.Call (.Name "zip" p2) [a, b] [] pos2] [] pos) (wEnZip wa wb) := ⟨fun σ ρ W R q S hR hw => jOf_of (pj_ez hge hme hg hm (pa_cons pe_tOf (pa_cons pe_tOf pa_nil hs2) hs) hse hs hpl)
  (ha.run σ ρ W _ _ S (fun v d W1 g1 k1 r1 q1 => hb.run σ ρ W1 _ _ (S.step g1 k1) (fun u e W2 g2 k2 r2 q2 => by
  obtain ⟨ds, es, hd, he, q2⟩ := q2
  obtain ⟨S1, vs, rfl, s1⟩ := sqd_of k2 (r1.step g2) hd
  obtain ⟨S2, us, rfl, s2⟩ := sqd_of k2 r2 he
  exact ⟨S1, S2, vs, us, rfl, s1.its W2 (Gs.refl _) k2, s2.its W2 (Gs.refl _) k2, hR _ _ W2 (g1.trans g2) k2 (wk_ez s1 s2) q2⟩) q1) hw)⟩
@[simp] def wListI (wi : IW M) : NW M := fun ρ g q => wi ρ g fun ds g' => ds.length ≤ sizeLine ∧ q ds g'
theorem dn_listI {wi : IW M} (hc : C.X.calm = true) (hm : C.X.mg "list" = none) (hj : DJ C e wi) (hg : Gl C.X "list" := by rfl) (hs : starEach [e] C.X.env = (false, eval e C.X.env) :: starEach [] C.X.env := by rfl) :
    DN C (.Call (.Name "list" p) [e] [] pos) (wListI wi) := ⟨fun σ ρ W Q q S hQ hw => tOf_of (pe_listI hc hg hm pj_tOf hs) (hj.run σ ρ W _ _ S (fun J ds W1 g1 k1 wk q1 => by
  refine ⟨ds.length, fun i H vs => ∃ W2 : Wd M, W2.H = H ∧ Go W1 W2 ∧ Wok C.X.K W2 ∧ W2.g = W1.g ∧ RpA C.X.K W2.F W2.R vs (ds.take i), ⟨W1, rfl, Go.refl _, k1, rfl, .nil⟩, fun i H vs hg hi => ?_, fun H vs hg => ?_, q1.1, fun D H' vs hg hD hl => ?_⟩
  · obtain ⟨W2, rfl, g2, k2, e2, r2⟩ := hg
    obtain ⟨go, yl⟩ := wk.go i W2 ds[i] g2.s k2 (List.getElem?_eq_getElem hi)
    refine ⟨go, fun x H' y => ?_⟩
    obtain ⟨W3, rfl, g3, k3, e3, r3⟩ := yl x H' y
    refine ⟨W3, rfl, g2.trans g3, k3, e3.trans e2, ?_⟩
    rw [List.take_succ_eq_append_getElem hi]
    exact (r2.step g3).append (.cons r3 .nil)
  · obtain ⟨W2, rfl, g2, k2, e2, r2⟩ := hg
    exact wk.stop _ W2 g2.s k2 (List.getElem?_eq_none (Nat.le_refl _))
  · obtain ⟨W2, rfl, g2, k2, e2, r2⟩ := hg
    rw [List.take_length] at r2
    refine hQ D vs ds (W2.new D (.lst vs)) ((g1.trans g2).trans (Go.new k2 hD)) (k2.new hD) upd_same (k2.noF hD) (k2.noR hD) (nofresh (g1.trans g2) hD) r2 ?_
    show q ds W2.g
    rw [e2]
    exact q1.2) hw)⟩
end
end DL
set_option Elab.async false
set_option linter.all false
set_option maxRecDepth 100000
set_option maxHeartbeats 1000000
namespace DL
open PySem L2 StX
section
variable {M : Ghost} {C : Ct M} {W W1 W2 W' : Wd M} {σ : L2.St} {ρ : DEnv} {e : Expr} {es : List Expr} {we : EW M} {pos p : Pos} {wa : AW M}

def tyN : D → Option String
  | .non => some "NoneType"
  | .bl _ => some "bool"
  | .int _ => some "int"
  | .str _ => some "str"
  | .lst _ => some "list"
  | .tup _ => some "tuple"
  | .dic _ => some "dict"
  | .ob _ => none
  | .exn _ _ _ => none
  | .tx _ => none
  | .cl _ => none
def isTyp (t T : String) : Bool := t == T || (t == "bool" && T == "int")
def isiD (T : String) (d : D) (q : D → Prop) : Prop := ∃ t, tyN d = some t ∧ q (.bl (isTyp t T))
@[simp] def wAStar (w : EW M) (u : AW M) : AW M := fun ρ g q => w ρ g fun d g1 => ∃ ds, (d = .lst ds ∨ d = .tup ds) ∧ u ρ g1 fun es g2 => q (ds ++ es) g2
theorem da_star (he : DP C e we) (hr : DA C es wa) (hs : starEach (.Starred e p :: es) C.X.env = (true, eval e C.X.env) :: starEach es C.X.env := by rfl) : DA C (.Starred e p :: es) (wAStar we wa) := ⟨fun σ ρ W Q q S hQ hw =>
  aOf_of (pa_star pe_tOf pa_tOf hs) (he.run σ ρ W _ _ S (fun v d W1 g1 k1 r1 q1 => by
    obtain ⟨ds, hd, q1⟩ := q1
    have fr : ∃ (a : Addr) (vs : List V), v = .ref a ∧ (SqT C.X.K W1.H a vs ∨ SqL C.X.K W1.H a vs) ∧ RpA C.X.K W1.F W1.R vs ds := by
      rcases hd with rfl | rfl
      · obtain ⟨a, vs, rfl, hp, np, ra⟩ := r1.lst_inv k1
        exact ⟨a, vs, rfl, .inr (.of hp), ra⟩
      · obtain ⟨a, vs, rfl, hp, ra⟩ := r1.tup_inv
        exact ⟨a, vs, rfl, .inl (same_tup k1.sub hp), ra⟩
    obtain ⟨a, vs, rfl, hq, ra⟩ := fr
    exact ⟨a, vs, rfl, hq, hr.run σ ρ W1 _ _ (S.step g1 k1) (fun us es W2 g2 k2 r2 q2 => hQ (vs ++ us) (ds ++ es) W2 (g1.trans g2) k2 ((ra.step g2).append r2) q2) q1⟩) hw)⟩

def cInt : List D → (D → Prop) → Prop
  | [.int i], q => q (.int i)
  | [.bl b], q => q (.int (if b then 1 else 0))
  | [.str x], q => ∃ n, PySem.intText? (S x) = some n ∧ x.length ≤ 640 ∧ q (.int n)
  | _, _ => False
theorem calld_int : CallD C (.type "int") cInt := by
  refine ⟨_, call_int1.or call_int_str, fun W vs ds Q q k r hQ h => ?_⟩
  obtain ⟨d, rfl⟩ := one_of h (fun _ h => h) (fun a _ _ _ h => by cases a <;> exact h)
  obtain ⟨v, rfl, r0⟩ := pair1 r
  cases d with
  | int i => exact .inl (.inl ⟨i, by rw [r0.int_inv], hQ _ _ W (Go.refl W) k rfl (.int _) h⟩)
  | bl b => exact .inl (.inr ⟨b, by rw [r0.bl_inv], hQ _ _ W (Go.refl W) k rfl (.int _) h⟩)
  | str x =>
    obtain ⟨z, rfl, rfl⟩ := r0.str_inv
    obtain ⟨n, hn, hl, h⟩ := h
    rw [S_of] at hn
    exact .inr ⟨z, n, rfl, hn, by rw [str_len]; exact hl, hQ _ _ W (Go.refl W) k rfl (.int _) h⟩
  | _ => exact h.elim
/-- the signs of a number -/
def dec (i : Int) : List Nat := (Str.ofString (toString i)).cps.toList
def cStr : List D → (D → Prop) → Prop
  | [.int i], q => i.natAbs.log2 < 1920 ∧ q (.str (dec i))
  | _, _ => False
def flatD : D → Bool
  | .non => true
  | .bl _ => true
  | .int _ => true
  | .str _ => true
  | _ => false
def eqF : D → D → Bool
  | .non, .non => true
  | .bl a, .bl b => a == b
  | .bl a, .int b => (if a then 1 else 0) == b
  | .int a, .bl b => a == (if b then 1 else 0)
  | .int a, .int b => a == b
  | .str a, .str b => a == b
  | _, _ => false
theorem str_beq (z z2 : Str) : (z == z2) = (z.cps.toList == z2.cps.toList) := by
  have : (z == z2) = decide (z = z2) := by
    cases h : decide (z = z2) with
    | true => exact (by simpa using h)
    | false => exact (by simpa using h)
  rw [this, Bool.beq_eq_decide_eq]
  refine decide_eq_decide.mpr ⟨fun h => by rw [h], fun h => ?_⟩
  obtain ⟨a⟩ := z
  obtain ⟨b⟩ := z2
  rw [show a = b from Array.toList_inj.mp h]
theorem rp_flat {K : PySem.W.Frag} {F : Hp} {R : List Addr} {v : V} {d : D} (r : Rp K F R v d) : flatV v = flatD d := by cases r <;> rfl
theorem rp_eqF {K : PySem.W.Frag} {F : Hp} {R : List Addr} {v u : V} {d e : D} (r : Rp K F R v d) (s : Rp K F R u e) : eqV v u = eqF d e := by
  cases r <;> cases s <;> first | rfl | skip
  rename_i z x hz z2 x2 hz2
  subst hz hz2
  exact str_beq z z2
theorem rpa_flat {K : PySem.W.Frag} {F : Hp} {R : List Addr} : ∀ {vs : List V} {ds : List D}, RpA K F R vs ds → vs.all flatV = ds.all flatD
  | _, _, .nil => rfl
  | _, _, .cons r t => by rw [List.all_cons, List.all_cons, rp_flat r, rpa_flat t]
theorem rpa_in {K : PySem.W.Frag} {F : Hp} {R : List Addr} {x : V} {d : D} (r : Rp K F R x d) : ∀ {vs : List V} {ds : List D}, RpA K F R vs ds → inV x vs = ds.any fun y => eqF y d
  | _, _, .nil => rfl
  | _, _, .cons s t => by
    rw [List.any_cons, ← rpa_in r t, ← rp_eqF s r]
    rfl
def oInB (f : Bool → Bool) : D → D → (D → Prop) → Prop
  | .str [c], .str z, q => q (.bl (f (decide (c ∈ z))))
  | d, .lst ds, q => flatD d = true ∧ ds.all flatD = true ∧ q (.bl (f (ds.any fun y => eqF y d)))
  | d, .tup ds, q => flatD d = true ∧ ds.all flatD = true ∧ q (.bl (f (ds.any fun y => eqF y d)))
  | _, _, _ => False
def oIn := oInB id
def oNotIn := oInB not
theorem oInB_inv {f : Bool → Bool} {d e : D} {q : D → Prop} (h : oInB f d e q) : (∃ c z, d = .str [c] ∧ e = .str z ∧ q (.bl (f (decide (c ∈ z))))) ∨ (∃ ds, (e = .lst ds ∨ e = .tup ds) ∧ flatD d = true ∧ ds.all flatD = true ∧ q (.bl (f (ds.any fun y => eqF y d)))) := by
  unfold oInB at h
  split at h
  · exact .inl ⟨_, _, rfl, rfl, h⟩
  · exact .inr ⟨_, .inl rfl, h⟩
  · exact .inr ⟨_, .inr rfl, h⟩
  · exact h.elim
theorem flat_frozen {K : PySem.W.Frag} {v : V} {d : D} (r : RdP K W v d) (h : flatD d = true) : Rp K W.F W.R v d := by
  rcases r with r | ⟨_, _, _, _, rfl, _⟩
  · exact r
  · cases h
theorem opd_inB {f : Bool → Bool} {neg : Bool} {g : Value → Value → Sem Value} (hf : ∀ b, f b = if neg then !b else b) (h1 : OpR C.X g (rIn C.X.K neg)) (h2 : OpR C.X g (fun x y H Q => ∃ (c : Nat) (z : Str), x = .str ⟨#[c]⟩ ∧ y = .str z ∧ Q (.bl (f (decide (c ∈ z.cps.toList)))) H)) : OpD C g (oInB f) := by
  refine ⟨_, h1.or h2, fun W x y d e Q q k r1 r2 hQ h => ?_⟩
  rcases oInB_inv h with ⟨c, z, rfl, rfl, h⟩ | ⟨ds, he, f1, f2, h⟩
  · obtain ⟨z1, rfl, e1⟩ := r1.str_inv
    obtain ⟨z2, rfl, rfl⟩ := r2.str_inv
    have : z1 = ⟨#[c]⟩ := by
      obtain ⟨a⟩ := z1
      have : a.toList = [c] := e1
      rw [show a = #[c] from Array.toList_inj.mp this]
    subst this
    exact .inr ⟨c, z2, rfl, rfl, hQ _ _ W (Go.refl W) k rfl (.bl _) h⟩
  · have r0 := flat_frozen r1 f1
    have fr : ∃ (a : Addr) (vs : List V), y = .ref a ∧ (SqL C.X.K W.H a vs ∨ SqT C.X.K W.H a vs) ∧ RpA C.X.K W.F W.R vs ds := by
      rcases he with rfl | rfl
      · obtain ⟨a, vs, rfl, hp, np, ra⟩ := r2.lst_inv k
        exact ⟨a, vs, rfl, .inl (.of hp), ra⟩
      · obtain ⟨a, vs, rfl, hp, ra⟩ := r2.tup_inv
        exact ⟨a, vs, rfl, .inr (same_tup k.sub hp), ra⟩
    obtain ⟨a, vs, rfl, hq, ra⟩ := fr
    refine .inl ⟨a, vs, rfl, hq, by rw [rp_flat r0]; exact f1, by rw [rpa_flat ra]; exact f2, hQ _ _ W (Go.refl W) k rfl (.bl _) ?_⟩
    rw [rpa_in r0 ra, ← hf]
    exact h
theorem opd_in : OpD C (compareOp .In) oIn := opd_inB (neg := false) (fun b => rfl) op_in_seq op_in_sign
variable {a b c : Expr} {wx wy wz : EW M} {r r' : D → D → (D → Prop) → Prop}
@[simp] def wAug (i : Nat) (f : Int → Int → Int) (we : EW M) : SW M := fun k ρ g => ∃ d, ρ[i]? = some (.im d) ∧ we ρ g fun e g' => asI d fun x => asI e fun y => k.nx (ρ.set i (.im (.int (f x y)))) g'
theorem ds_aug {i : Nat} {x : Str} {op : Operator} {f : Int → Int → Int} {pos' : Pos} (hN : C.X.N.Nodup) (hi : C.X.N[i]? = some x) (hx : Loc C.X.env.scope x) (ho : PIp C.X op (ipI f)) (he : DE C e we) (hf : C.X.fn x = true ∨ C.X.env.scope.names.lookup x = some .local := by first | exact .inl rfl | exact .inr rfl | assumption) :
    DS C (.AugAssign (.Name x pos') op e pos) (wAug i f we) := ⟨fun σ ρ W k E S l h => by
  obtain ⟨d, e0, h⟩ := h
  obtain ⟨o, h1, v, h2, r⟩ := S.sl i _ e0
  subst h2
  refine tsOf_of (ps_aug hN hi hx pe_tOf ho hf) ⟨v, h1, he.run σ ρ W _ _ S (fun u d2 W1 g1 k1 r1 q1 => ?_) h⟩
  cases d with
  | int m =>
    cases d2 with
    | int n =>
      cases r
      cases r1
      refine ⟨m, n, rfl, rfl, l.nx _ _ W1 g1.s (S.set g1 k1 (s := .im (.int (f m n))) (.int _) i) q1⟩
    | _ => exact q1.elim
  | _ => exact q1.elim⟩

variable {e2 : Expr} {apos cpos p1 : Pos}
@[simp] def wExt (i : Nat) (we : EW M) : SW M := fun k ρ g => ∃ ds, ρ[i]? = some (.own ds) ∧ we ρ g fun d g' => ∃ es, d = .lst es ∧ ds.length + es.length ≤ sizeLine ∧ k.nx (ρ.set i (.own (ds ++ es))) g'
theorem ds_extend {i : Nat} {x : Str} (hv : PE C.X (.Name x p1) (tVar i)) (he : DE C e we) (hline : (apos.endLine == cpos.line) = true := by rfl)
    (hs : swapsWith (.Call (.Attribute (.Name x p1) "extend" apos) [e] [] cpos) none pos.line C.X.env = pure false := by rfl)
    (hst : starEach [e] C.X.env = (false, eval e C.X.env) :: starEach [] C.X.env := by rfl) (hbase : attributeBase (.Name x p1) "extend" C.X.env (eval (.Name x p1) C.X.env) = eval (.Name x p1) C.X.env := by rfl)
    (hpl : (backTo cpos (starEach [] C.X.env)).any (·.1) = false := by rfl)
    (hfew : ((backTo cpos (starEach [e] C.X.env)).all (fun x => !x.1) && (backToKw cpos (keywordEach [] C.X.env)).all (fun x => x.1.isSome) && decide ([e].length + ([] : List Keyword).length + (if ([] : List Keyword).isEmpty then 0 else 1) < 30)) = true := by rfl) :
    DS C (.Expr (.Call (.Attribute (.Name x p1) "extend" apos) [e] [] cpos) pos) (wExt i we) := ⟨fun σ ρ W k E S l h => by
  obtain ⟨ds, e0, h⟩ := h
  obtain ⟨o, h1, p, vs, h2, h3, h4, h5, h6, r⟩ := S.sl i _ e0
  subst h2
  refine tsOf_of (ps_expr (pe_bm PySem.F.plainAttrs_list PySem.F.slot_list_extend PySem.F.type_list_extend mt_extend hv (pa_cons pe_tOf pa_nil hst) hbase hfew hline hst hpl) hs) ⟨.ref p, h1, .inl ⟨rfl, vs, .of h3⟩, ?_⟩
  refine he.run σ ρ W _ _ S (fun v d W1 g1 k1 r1 q1 => ?_) h
  obtain ⟨es, rfl, hz, q1⟩ := q1
  have S1 := S.step g1 k1
  obtain ⟨o2, a1, p2, vs2, a2, a3, a4, a5, a6, r2⟩ := S1.sl i _ e0
  subst a2
  rw [h1] at a1
  cases a1
  have ev : vs2 = vs := by
    have := g1.keep _ _ h3 h5
    rw [a3] at this
    cases this
    rfl
  subst ev
  cases r1 with
  | lst hb rb =>
    rename_i ab ub
    obtain ⟨S2, g2⟩ := S1.write e0 h1 (r2.append rb)
    exact ⟨p, ab, vs2, ub, rfl, rfl, a3, k1.sub _ _ hb, by rw [r2.length, rb.length]; exact hz, l.nx _ _ _ (g1.s.trans g2) S2 q1⟩⟩

theorem de_glob {x : Str} {v : V} {d : D} {u : Value} (hm : C.X.mg x = some u) (rv : RelV v u) (r : ∀ F R, Rp C.X.K F R v d) (hg : Gl C.X x := by rfl) (hd : (x == ("__debug__" : Str)) = false := by decide) : DE C (.Name x pos) (wC d) := de_c (pe_glob hg hm rv hd) r
end
end DL
set_option Elab.async false
set_option linter.all false
set_option maxRecDepth 100000
set_option maxHeartbeats 1000000
namespace DL
open PySem PySem.Spec PyProof.Rows L2
section
variable {prog : Program} {w : World} {A : Around} {E : Value → Shared → Prop} {s : Shared}
end
section
variable {M : Ghost} {C : Ct M} {W W1 W2 W' : Wd M} {σ : L2.St} {ρ : DEnv} {e : Expr} {es : List Expr} {we : EW M} {pos p : Pos} {wa : AW M}
def oRev (d : D) (q : D → Prop) : Prop := match d with
  | .lst ds => q (.lst ds.reverse)
  | .tup ds => q (.tup ds.reverse)
  | _ => False
def oRevN (d : D) (q : List D → Prop) : Prop := match d with
  | .lst ds => q ds.reverse
  | _ => False
variable {k1 : Nat} {p1 p2 p3 : Pos}
def GlS (o : Option Value) (x : List Nat) : Prop := ∃ z t, o = some (.str z t) ∧ z.cps.toList = x
theorem de_glS {x : Str} {y : List Nat} (h : GlS (C.X.mg x) y) (hg : Gl C.X x := by rfl) (hd : (x == ("__debug__" : Str)) = false := by decide) : DE C (.Name x pos) (wC (.str y)) := by
  obtain ⟨z, t, h, e⟩ := h
  exact de_glob h (v := .str z) ⟨t, rfl⟩ (fun _ _ => .str z y e) hg hd

variable {a b : Expr} {wx wy : EW M} {p4 pos2 : Pos}
end
section
variable {M : Ghost} {C : Ct M} {W W1 W2 W' : Wd M} {σ : L2.St} {ρ : DEnv}
variable {pos : Pos}
@[simp] def wPar3 (i j l : Nat) (wx wy wz : VW M) : SW M := fun k ρ g => wx ρ g fun s g1 => wy ρ g1 fun t g2 => wz ρ g2 fun u g3 => k.nx (((ρ.set i s).set j t).set l u) g3
theorem ds_par3 {i j l : Nat} {x y z : Str} {a b c : Expr} {wx wy wz : VW M} {px py pz pt : Pos} {kt k2 : Nat} {pt2 : Pos} (hc : C.X.calm = true) (hN : C.X.N.Nodup) (hi : C.X.N[i]? = some x) (hj : C.X.N[j]? = some y) (hl : C.X.N[l]? = some z) (hij : i ≠ j) (hil : i ≠ l) (hjl : j ≠ l)
    (hx : C.X.env.scope.names.lookup x = some .local) (hy : C.X.env.scope.names.lookup y = some .local) (hz : C.X.env.scope.names.lookup z = some .local) (ha : DV C a wx) (hb : DV C b wy) (hcc : DV C c wz)
    (hw : swappedStores [.Tuple [.Name x px, .Name y py, .Name z pz] kt pt] (.Tuple [a, b, c] k2 pt2) C.X.env = pure (some [x, y, z]) := by rfl) (hs : swapsWithSole [.Tuple [.Name x px, .Name y py, .Name z pz] kt pt] (.Tuple [a, b, c] k2 pt2) pos.line C.X.env = pure false := by rfl)
    (h1 : starEach [a, b, c] C.X.env = (false, eval a C.X.env) :: starEach [b, c] C.X.env := by rfl) (h2 : starEach [b, c] C.X.env = (false, eval b C.X.env) :: starEach [c] C.X.env := by rfl) (h3 : starEach [c] C.X.env = (false, eval c C.X.env) :: starEach [] C.X.env := by rfl) :
    DS C (.Assign [.Tuple [.Name x px, .Name y py, .Name z pz] kt pt] (.Tuple [a, b, c] k2 pt2) pos) (wPar3 i j l wx wy wz) := ⟨fun σ ρ W k E S lf h => by
  refine tsOf_of (ps_par3 hc hN hi hj hl hij hil hjl hx hy hz (pa_cons pe_tOf (pa_cons pe_tOf (pa_cons pe_tOf pa_nil h3) h2) h1) hw hs) ?_
  refine ha.run σ ρ W _ _ S (fun v s W1 g1 k1 f1 q1 => ?_) h
  refine hb.run σ ρ W1 _ _ (S.step g1 k1) (fun u t W2 g2 k2 f2 q2 => ?_) q1
  refine hcc.run σ ρ W2 _ _ (S.step (g1.trans g2) k2) (fun w r W3 g3 k3 f3 q3 => ?_) q2
  refine ⟨v, u, w, rfl, ?_⟩
  have S3 := S.step ((g1.trans g2).trans g3) k3
  have o1 : SlOk C W3 s (some v) := ((slOk_fresh S g1 f1).step g2).step g3
  have o2 : SlOk C W3 t (some u) := (slOk_fresh (S.step g1 k1) g2 f2).step g3
  have o3 : SlOk C W3 r (some w) := slOk_fresh (S.step (g1.trans g2) k2) g3 f3
  have T1 := S3.puts o1 i fun p w1 e1 m t' w2 _ a1 a2 => own_live S w2 a1 a2 (fresh_dead f1 w1 e1)
  have T2 := T1.puts o2 j fun p w1 e1 m t' w2 _ a1 a2 => by
    have dead := fresh_dead f2 w1 e1
    by_cases hm : i = m
    · subst hm
      have hlt : i < ρ.length := by
        have := (List.getElem?_eq_some_iff.mp a1).1
        rwa [List.length_set] at this
      rw [List.getElem?_set_self hlt] at a1
      rw [List.getElem?_set_self (by rw [S.len]; exact hlt)] at a2
      cases a1
      cases a2
      exact fresh_live f1 w2 rfl dead
    · rw [List.getElem?_set_ne hm] at a1 a2
      exact g1.live _ (own_live S w2 a1 a2) dead
  have T3 := T2.puts o3 l fun p w1 e1 m t' w2 _ a1 a2 => by
    have dead := fresh_dead f3 w1 e1
    by_cases hm : j = m
    · subst hm
      have hlt : j < (ρ.set i s).length := (List.getElem?_eq_some_iff.mp a1).1 |> fun h => by rwa [List.length_set] at h
      rw [List.getElem?_set_self hlt] at a1
      rw [List.getElem?_set_self (by rw [T1.len]; exact hlt)] at a2
      cases a1
      cases a2
      exact fresh_live f2 w2 rfl dead
    · rw [List.getElem?_set_ne hm] at a1 a2
      by_cases hm2 : i = m
      · subst hm2
        have hlt : i < ρ.length := by
          have := (List.getElem?_eq_some_iff.mp a1).1
          rwa [List.length_set] at this
        rw [List.getElem?_set_self hlt] at a1
        rw [List.getElem?_set_self (by rw [S.len]; exact hlt)] at a2
        cases a1
        cases a2
        exact g2.live _ (fresh_live f1 w2 rfl) dead
      · rw [List.getElem?_set_ne hm2] at a1 a2
        exact (g1.trans g2).live _ (own_live S w2 a1 a2) dead
  exact lf.nx _ _ W3 ((g1.trans g2).trans g3).s T3 q3⟩
end
end DL
set_option Elab.async false
set_option linter.all false
set_option maxRecDepth 100000
set_option maxHeartbeats 1000000
namespace DL
open PySem L2
section
variable {K : PySem.W.Frag}
/-- the class that a name of the text tells -/
inductive CN (K : PySem.W.Frag) : Str → Value → Prop
  | own {x : Str} {C : Addr} : PySem.W.nsIn K mainGlobals x = some (some (.ref C)) → CN K x (.ref C)
  | ty {x : Str} {T : String} : PySem.W.nsIn K mainGlobals x = some none → bootBuiltins x = some (.type T) → x ≠ "__name__" → CN K x (.type T)
end
section
variable {X : Cx} {pos : Pos}
/-- a class as a value -/
def clsV : Value → V
  | .ref C => .ref C
  | .type T => .ty T
  | _ => .non
theorem CN.rel {K : PySem.W.Frag} {x : Str} {c : Value} (h : CN K x c) : RelV (clsV c) c ∧ ClsV (clsV c) c := by
  cases h with
  | own => exact ⟨rfl, .own _⟩
  | ty => exact ⟨rfl, .ty _⟩
theorem CN.names {x : Str} {c : Value} (h : CN X.K x c) {pins : List (Addr × Obj)} {σ : L2.St} {H : Hp} {s : Shared} (I : Inv X pins σ H s) : X.mg x = some c ∨ (X.mg x = none ∧ bootBuiltins x = some c ∧ x ≠ "__name__") := by
  cases h with
  | own e => exact .inl (PySem.W.mg_of I.mod.kin I.mod.glob e)
  | ty e b n => exact .inr ⟨PySem.W.mg_none_of I.mod.kin I.mod.glob e, b, n⟩
end
section
variable {M : Ghost} {C : Ct M} {W W1 W2 W' : Wd M} {σ : L2.St} {ρ : DEnv} {e : Expr} {es : List Expr} {we : EW M} {pos p : Pos} {wa : AW M}
end
end DL
set_option Elab.async false
set_option linter.all false
set_option maxRecDepth 100000
set_option maxHeartbeats 4000000
namespace DL
open PySem L2 PySem.W PySem.Calls PyProof.Rows PySem.HandSPX Builtin Builtin.ObjectAttr
section
variable {prog : Program} {w : World} {A : Around} {E : Value → Shared → Prop} {R : Result → Shared → Prop} {s : Shared} {K : Frag} {n f : Str} {B newId initId : String} {bmB : List Value} {C fI : Addr} {q : Str}
end
section
variable {X : Cx} {n f : Str}
end
section
variable {M : Ghost} {C : Ct M} {W W1 W2 W' : Wd M} {σ : L2.St} {ρ : DEnv} {e : Expr} {es : List Expr} {we : EW M} {pos p pos2 : Pos} {n f : Str}
end
end DL
set_option Elab.async false
set_option linter.all false
set_option maxRecDepth 100000
set_option maxHeartbeats 4000000
namespace DL
open PySem L2 PySem.W PySem.Calls PyProof.Rows
section
variable {X : Cx} {pins : List (Addr × Obj)} {σ : L2.St} {H : Hp} {s : Shared}
/-- an object that nobody tells of is tracked as it is -/
theorem Inv.track {a : Addr} {oe : Obj} {fv : Array Value} (I : Inv X pins σ H s) (he : s.heap.get? a = some oe) (hd : oe.data = .fields fv) (na : H a = none) (h0 : X.s_0.heap.get? a = none) (nL : a ≠ X.env.locals)
    (np : ∀ p ∈ X.pn ++ pins, p.1 ≠ a) : Inv X pins σ (upd H a (.frz oe exU)) s := by
  have n0 : ∀ {b : Addr} {o : Obj}, X.s_0.heap.get? b = some o → b ≠ a := fun {b o} e z => by rw [z, h0] at e; cases e
  refine ⟨I.ok, I.os, I.bare, ⟨I.base.keep, I.base.slot, fun b o e n hx => ?_, I.base.there, fun b xs e => ?_, fun b o u e => ?_, fun b ps e => ?_⟩, I.loc, I.cell, ?_, fun x c e => ?_, fun p hp => ?_, fun b u e => ?_, I.len⟩
  · rw [upd_ne (n0 e)]; exact I.base.free b o e n hx
  · have q := I.base.tups b xs e
    rw [upd_ne (ne_of_none q na)]; exact q
  · have q := I.base.frzs b o u e
    rw [upd_ne (ne_of_none q na)]; exact q
  · obtain ⟨more, q⟩ := I.base.tbls b ps e
    exact ⟨more, by rw [upd_ne (ne_of_none q na)]; exact q⟩
  · rw [upd_ne (Ne.symm nL)]; exact I.free
  · have hc : c ≠ a := fun z => by
      obtain ⟨v, o, ho, hv⟩ := I.cell x c e
      rw [z, he] at ho
      cases ho
      rw [hd] at hv
      cases hv
    rw [upd_ne hc]; exact I.freeC x c e
  · obtain ⟨h1, h2, h3⟩ := I.pin p hp
    exact ⟨h1, by rw [upd_ne (np p hp)]; exact h2, h3⟩
  · by_cases hb : b = a
    · subst hb
      rw [upd_same] at e
      cases e
      exact ⟨he, True.intro, ⟨_, he⟩, fun _ _ _ _ => True.intro⟩
    · rw [upd_ne hb] at e
      exact (I.hok b u e).stay (fun _ _ _ q => q) (fun c q => by rw [upd_ne (ne_of_none q na)]; exact q) fun c xs q => by rw [upd_ne (ne_of_none q na)]; exact q
end

section
variable {M : Ghost} {C : Ct M} {W W1 W2 W' : Wd M} {σ : L2.St} {ρ : DEnv} {pos : Pos}
end
section
variable {K : Frag} {n x f : Str} {b d : Bool} {ms : List Str} {tab : List (Str × Bool)} {ns : List Str}
end
section
variable {M : Ghost} {C : Ct M} {W W1 W2 W' : Wd M} {σ : L2.St} {ρ : DEnv} {pos : Pos}
end
end DL
set_option Elab.async false
set_option linter.all false
set_option maxRecDepth 100000
set_option maxHeartbeats 1000000
namespace DL
open PySem L2
section
variable {X : Cx}
/-- a list beside an empty one -/
def rNil (K : PySem.W.Frag) (f : Bool → Bool) : R2 := fun x y H Q => ∃ p q xs, x = .ref p ∧ y = .ref q ∧ SqL K H p xs ∧ SqL K H q [] ∧ Q (.bl (f xs.isEmpty)) H
theorem op_neNil (hu : X.A.units < cLine) : OpR X (compareOp .NotEq) (rNil X.K not) := by
  intro pins s σ H x y v u Q I rx ry h
  obtain ⟨p, q, xs, rfl, rfl, h1, h2, hq⟩ := h
  cases (show v = Value.ref p from rx)
  cases (show u = Value.ref q from ry)
  obtain ⟨its, rv, l1, _⟩ := I.list h1
  obtain ⟨it2, rw2, l2, _⟩ := I.list h2
  cases rw2
  cases rv with
  | nil => exact PySem.SeqAt.RcNeAt.lists (e := fun _ => true) l1.isList l2.isList rfl hu (fun j h1 _ => absurd h1 (by simp)) X.prog X.w _ _ ⟨.bl _, H, I, rfl, hq⟩
  | cons a t => exact PySem.SeqAt.RcNeAt.lists_lengths l1.isList l2.isList (by simp) hu X.prog X.w _ _ ⟨.bl _, H, I, rfl, hq⟩
end
section
variable {M : Ghost} {C : Ct M} {W W1 W2 W' : Wd M} {σ : L2.St} {ρ : DEnv} {e o : Expr} {es : List Expr} {we wo : EW M} {pos apos : Pos} {wa : AW M}
def oNil (f : Bool → Bool) : D → D → (D → Prop) → Prop
  | .lst x, .lst [], q => q (.bl (f x.isEmpty))
  | _, _, _ => False
theorem opd_nil {f : Bool → Bool} {op : Value → Value → Sem Value} (h : OpR C.X op (rNil C.X.K f)) : OpD C op (oNil f) := by
  refine ⟨_, h, fun W x y d e Q q k r1 r2 hQ h => ?_⟩
  cases d with
  | lst a =>
    cases e with
    | lst b =>
      cases b with
      | nil =>
        obtain ⟨p, vs, rfl, hp, np, ra⟩ := r1.lst_inv k
        obtain ⟨p2, vs2, rfl, hp2, np2, rb⟩ := r2.lst_inv k
        cases rb
        refine ⟨p, p2, vs, rfl, rfl, .of hp, .of hp2, hQ _ _ W (Go.refl W) k rfl (.bl _) ?_⟩
        cases ra <;> exact h
      | cons => exact h.elim
    | _ => exact h.elim
  | _ => exact h.elim
def oNilT (f : Bool → Bool) : D → D → (D → Prop) → Prop
  | .tup x, .tup [], q => q (.bl (f x.isEmpty))
  | _, _, _ => False
@[simp] theorem sm_nilT {f : Bool → Bool} {ds : List D} {q : D → Prop} : oNilT f (.tup ds) (.tup []) q = q (.bl (f ds.isEmpty)) := rfl
theorem opd_neNil (hu : C.X.A.units + 64 < cLine) : OpD C (compareOp .NotEq) (oNil not) := opd_nil (op_neNil (by omega))
@[simp] theorem sm_nil {f : Bool → Bool} {ds : List D} {q : D → Prop} : oNil f (.lst ds) (.lst []) q = q (.bl (f ds.isEmpty)) := rfl
end
end DL
set_option Elab.async false
set_option linter.all false
set_option maxRecDepth 100000
set_option maxHeartbeats 1000000
namespace DL
open PySem L2 PySem.W
section
variable {K : Frag}
end
end DL
set_option Elab.async false
set_option linter.all false
set_option maxRecDepth 100000
set_option maxHeartbeats 1000000
namespace DL
open PySem L2 PySem.W
section
variable {X : Cx}
end
section
variable {M : Ghost} {C : Ct M}
def cListX : List D → (List D → Prop) → Prop
  | [.lst ds], q => q ds
  | [.tup ds], q => q ds
  | [.str x], q => x.length ≤ sizeLine ∧ q (x.map fun c => .str [c])
  | _, _ => False
@[simp] theorem sm_listX1 {ds : List D} {qn : List D → Prop} : (cListX [.lst ds] qn) = (qn ds) := rfl
@[simp] theorem sm_listX2 {ds : List D} {qn : List D → Prop} : (cListX [.tup ds] qn) = (qn ds) := rfl
@[simp] theorem sm_listX3 {x : List Nat} {qn : List D → Prop} : (cListX [.str x] qn) = (x.length ≤ sizeLine ∧ qn (x.map fun c => .str [c])) := rfl
end
end DL
set_option Elab.async false
set_option linter.all false
set_option maxRecDepth 100000
set_option maxHeartbeats 1000000
namespace DL
open PySem L2
section
variable {M : Ghost} {C : Ct M} {W W1 W2 W' : Wd M} {σ : L2.St} {ρ : DEnv} {e : Expr} {we : EW M} {pos : Pos}
end
end DL
set_option Elab.async false
set_option linter.all false
set_option maxRecDepth 100000
set_option maxHeartbeats 4000000
namespace L2
open PySem PySem.Spec PyProof.Rows
section
variable {X : Cx}
end
end L2
namespace DL
open PySem L2
section
variable {M : Ghost} {C : Ct M}
def oMulT : D → D → (D → Prop) → Prop
  | .tup x, .int j, q => x ≠ [] ∧ 0 ≤ j ∧ j ≤ 1000 ∧ x.length ≤ 1000 ∧ q (.tup (List.replicate j.toNat x).flatten)
  | _, _, _ => False
@[simp] theorem sm_mulT {ds : List D} {j : Int} {q : D → Prop} : (oMulT (.tup ds) (.int j) q) = (ds ≠ [] ∧ 0 ≤ j ∧ j ≤ 1000 ∧ ds.length ≤ 1000 ∧ q (.tup (List.replicate j.toNat ds).flatten)) := rfl
end
end DL
set_option Elab.async false
set_option linter.all false
set_option maxRecDepth 100000
set_option maxHeartbeats 1000000
namespace DL
open PySem L2
section
variable {M : Ghost} {C : Ct M} {W W1 W2 W' : Wd M} {σ : L2.St} {ρ : DEnv} {e e1 e2 : Expr} {we w1 w2 wi : EW M} {pos p1 p2 s1 s2 apos cpos : Pos}
end
end DL
set_option Elab.async false
set_option linter.all false
set_option maxRecDepth 100000
set_option maxHeartbeats 3200000
namespace DL
open PySem L2
def kyE (e : Int × Value) : Key := match e.2 with
  | .int i _ => .inl i
  | .str x _ => .inr x
  | _ => .inl 0
theorem kyE_is {k : Key} {e : Int × Value} (h : keyIs k e.2 = true) : kyE e = k := by
  obtain ⟨z, v⟩ := e
  rcases keyIs_shape h with ⟨i, u, rfl, rfl⟩ | ⟨x, u, rfl, rfl⟩ <;> rfl
/-- the set at an address, of these members -/
structure MSet (P : Program) (w : World) (h : Heap) (a : Addr) (o : Obj) (es : Array (Int × Value)) (ep : Nat) (tb : SetTable) (L : List Key) : Prop where
  at_ : h.get? a = some o
  ex : o.ExactSet
  dat : o.data = .set es ep tb
  el : ElemsOf (mixKind P w) es.toList
  ks : (es.toList.map kyE).Perm L
  nd : L.Nodup
  few : es.size < scanBound
  fit : tb.fits es.size = true
  ris : Ris tb.place.toList
  led : w.params.followText "set-order" = true ∨ tb.led = true
def IsM (P : Program) (w : World) (h : Heap) (a : Addr) (L : List Key) : Prop := ∃ o es ep tb, MSet P w h a o es ep tb L
section
variable {P : Program} {w : World} {A : Around} {E : Value → Shared → Prop} {s : Shared} {a : Addr} {L : List Key} {k : Key} {v : Value}
theorem MSet.size {h : Heap} {o : Obj} {es : Array (Int × Value)} {ep : Nat} {tb : SetTable} (M : MSet P w h a o es ep tb L) : es.size = L.length := by
  have := M.ks.length_eq
  rw [List.length_map, Array.length_toList] at this
  exact this
theorem MSet.mem {h : Heap} {o : Obj} {es : Array (Int × Value)} {ep : Nat} {tb : SetTable} (M : MSet P w h a o es ep tb L) (j : Key) : j ∈ L ↔ ∃ e ∈ es.toList, keyIs j e.2 = true := by
  rw [← M.ks.mem_iff, List.mem_map]
  constructor
  · rintro ⟨e, he, rfl⟩
    obtain ⟨⟨j, hj, _⟩, _⟩ := M.el e he
    exact ⟨e, he, by rw [kyE_is hj]; exact hj⟩
  · rintro ⟨e, he, hj⟩
    exact ⟨e, he, kyE_is hj⟩
theorem IsM.keep {h h' : Heap} (R : IsM P w h a L) (k : ∀ o, h.get? a = some o → h'.get? a = some o) : IsM P w h' a L := by
  obtain ⟨o, es, ep, tb, M⟩ := R
  exact ⟨o, es, ep, tb, k o M.at_, M.ex, M.dat, M.el, M.ks, M.nd, M.few, M.fit, M.ris, M.led⟩
theorem IsM.fresh (h : Heap) : IsM P w (h.push { cls := .type "set", dict := none, data := .set #[] 0 (.fresh 0 0 (!w.params.followText "set-order")) }) h.objs.size [] := by
  refine ⟨_, #[], 0, _, Heap.get?_push_size _ rfl, ⟨rfl, rfl, rfl⟩, rfl, fun e he => by simp at he, by simp, List.nodup_nil, by decide, by rfl, List.Pairwise.nil, ?_⟩
  cases z : w.params.followText "set-order"
  · exact .inr rfl
  · exact .inl rfl
end

section
variable {X : Cx}
theorem le_of_rising : ∀ (xs : List Str) (x : Str), PyProof.Rows.risingS x xs = true → (x :: xs).Pairwise fun a b => ¬ b.cps.toList < a.cps.toList
  | [], x, _ => by simp
  | y :: xs, x, h => by
    have h' : (!PySem.Spec.ltCps y.cps.toList x.cps.toList && PyProof.Rows.risingS y xs) = true := h
    rw [Bool.and_eq_true, Bool.not_eq_true', PyProof.Rows.ltCps_eq, decide_eq_false_iff_not] at h'
    have ih := le_of_rising xs y h'.2
    refine List.pairwise_cons.mpr ⟨fun z hz => ?_, ih⟩
    rcases List.mem_cons.mp hz with rfl | hz
    · exact h'.1
    · have h2 := (List.pairwise_cons.mp ih).1 z hz
      exact fun c => h'.1 (by
        by_cases e : y.cps.toList < z.cps.toList
        · exact List.lt_trans e c
        · rw [List.le_antisymm (List.not_lt.mp e) (List.not_lt.mp h2)] at c
          exact c)
theorem le_of_sortedS {xs : List Str} (h : PyProof.Rows.sortedS xs = true) : xs.Pairwise fun a b => ¬ b.cps.toList < a.cps.toList := by
  cases xs with
  | nil => exact .nil
  | cons x xs => exact le_of_rising xs x h
end

section
variable {M : Ghost} {C : Ct M} {e : Expr} {wA : AW M} {p p2 pos pos2 : Pos}
theorem nodup_map {α β : Type} {f : α → β} (hf : ∀ a b, f a = f b → a = b) {l : List α} (h : l.Nodup) : (l.map f).Nodup := by
  rw [List.Nodup, List.pairwise_map]
  exact h.imp fun z e => z (hf _ _ e)
theorem strs_rpa {K : PySem.W.Frag} {F : Hp} {R : List Addr} : ∀ ys : List Str, RpA K F R (ys.map V.str) ((ys.map fun y => y.cps.toList).map D.str)
  | [] => .nil
  | y :: ys => .cons (rp_str y) (strs_rpa ys)
end
end DL
set_option Elab.async false
set_option linter.all false
set_option maxRecDepth 100000
set_option maxHeartbeats 1000000
namespace DL
open PySem L2
section
variable {M : Ghost} {C : Ct M}
def oIsTB (f : Bool → Bool) : D → D → (D → Prop) → Prop
  | .bl a, .bl b, q => q (.bl (f (decide (a = b))))
  | _, _, _ => False
def oIsT := oIsTB id
def oNotT := oIsTB not
@[simp] theorem sm_isT {a b : Bool} {q : D → Prop} : (oIsT (.bl a) (.bl b) q) = (q (.bl (decide (a = b)))) := rfl
@[simp] theorem sm_notT {a b : Bool} {q : D → Prop} : (oNotT (.bl a) (.bl b) q) = (q (.bl (!decide (a = b)))) := rfl
end
end DL
set_option Elab.async false
set_option linter.all false
set_option maxRecDepth 100000
set_option maxHeartbeats 1000000
namespace DL
open PySem L2
section
variable {M : Ghost} {C : Ct M} {o e : Expr} {wo we : EW M} {apos pos : Pos}
end
end DL
set_option Elab.async false
set_option linter.all false
set_option maxRecDepth 100000
set_option maxHeartbeats 1000000
namespace DL
open PySem L2
section
variable {K : PySem.W.Frag} {F : Hp} {R : List Addr}
end
section
variable {M : Ghost} {C : Ct M} {e e2 ke ve : Expr} {we wi wk wv : EW M} {pos p1 : Pos}
end
section
variable {M : Ghost} {C : Ct M} {W W1 W2 W3 : Wd M} {σ : L2.St} {ρ : DEnv} {pos : Pos}
end
section
variable {M : Ghost} {C : Ct M} {e : Expr}
end
end DL
set_option Elab.async false
set_option linter.all false
set_option maxRecDepth 100000
set_option maxHeartbeats 1000000
namespace DL
open PySem L2
section
variable {K : PySem.W.Frag} {F : Hp} {R : List Addr}
end
section
variable {M : Ghost} {C : Ct M} {e : Expr} {we : EW M} {pos p1 p2 apos bpos cpos dpos : Pos}
end
end DL
set_option Elab.async false
set_option linter.all false
set_option maxRecDepth 100000
set_option maxHeartbeats 1000000
namespace DL
open PySem L2
section
variable {M : Ghost} {C : Ct M} {o e : Expr} {wo we : EW M} {apos pos : Pos}
end
end DL
set_option Elab.async false
set_option linter.all false
set_option maxRecDepth 100000
set_option maxHeartbeats 1000000
namespace DL
open PySem L2
section
variable {X : Cx}
end
section
variable {M : Ghost} {C : Ct M}
end
end DL
set_option Elab.async false
set_option linter.all false
set_option maxRecDepth 100000
set_option maxHeartbeats 1000000
namespace DL
open PySem L2
section
variable {M : Ghost} {C : Ct M} {o : Expr} {wo : EW M} {apos pos : Pos}
end
end DL
set_option Elab.async false
set_option linter.all false
set_option maxRecDepth 100000
set_option maxHeartbeats 1000000
namespace DL
open PySem L2 PySem.W
section
variable {prog : Program} {w : World} {A : Around} {E : Value → Shared → Prop} {s : Shared}
end
section
variable {X : Cx}
end
section
variable {M : Ghost} {C : Ct M}
def cTupleX : List D → (D → Prop) → Prop
  | [.lst ds], q => q (.tup ds)
  | [.tup ds], q => q (.tup ds)
  | [.str x], q => x.length ≤ sizeLine ∧ q (.tup (x.map fun c => .str [c]))
  | _, _ => False
@[simp] theorem sm_tupleX1 {ds : List D} {q : D → Prop} : (cTupleX [.lst ds] q) = (q (.tup ds)) := rfl
@[simp] theorem sm_tupleX2 {ds : List D} {q : D → Prop} : (cTupleX [.tup ds] q) = (q (.tup ds)) := rfl
@[simp] theorem sm_tupleX3 {x : List Nat} {q : D → Prop} : (cTupleX [.str x] q) = (x.length ≤ sizeLine ∧ q (.tup (x.map fun c => .str [c]))) := rfl
end
end DL
set_option Elab.async false
set_option linter.all false
set_option maxRecDepth 100000
set_option maxHeartbeats 1000000
namespace DL
open PySem PySem.Spec PyProof.Rows L2
section
variable {M : Ghost} {C : Ct M} {e : Expr} {we : EW M} {pos : Pos} {k1 : Nat} {p1 p2 p3 : Pos}
end
/-- whether a text stands somewhere in another -/
def subB (x z : List Nat) : Bool := (List.range (z.length + 1)).any fun p => decide ((z.drop p).take x.length = x)
section
variable {M : Ghost} {C : Ct M} {W W1 W2 W' : Wd M} {σ : L2.St} {ρ : DEnv} {e : Expr} {es : List Expr} {we : EW M} {pos : Pos}
def oInT (d e : D) (q : D → Prop) : Prop := ∃ x z : List Nat, d = .str x ∧ e = .str z ∧ q (.bl (subB x z))
def oNotInT (d e : D) (q : D → Prop) : Prop := ∃ x z : List Nat, d = .str x ∧ e = .str z ∧ q (.bl (!subB x z))
@[simp] theorem sm_inT {x z : List Nat} {q : D → Prop} : (oInT (.str x) (.str z) q) = (q (.bl (subB x z))) := by
  refine propext ⟨?_, fun h => ⟨x, z, rfl, rfl, h⟩⟩
  rintro ⟨a, b, e1, e2, h⟩
  cases e1; cases e2; exact h
@[simp] theorem sm_notInT {x z : List Nat} {q : D → Prop} : (oNotInT (.str x) (.str z) q) = (q (.bl (!subB x z))) := by
  refine propext ⟨?_, fun h => ⟨x, z, rfl, rfl, h⟩⟩
  rintro ⟨a, b, e1, e2, h⟩
  cases e1; cases e2; exact h
end
end DL
set_option Elab.async false
set_option linter.all false
set_option maxRecDepth 100000
set_option maxHeartbeats 1000000
namespace DL
open PySem L2
end DL
set_option Elab.async false
set_option linter.all false
set_option maxRecDepth 100000
set_option maxHeartbeats 1000000
namespace DL
open PySem L2 PySem.W PySem.SeqAt
/-- a text and a number, by the text first -/
def ltTI (a : List Nat) (i : Int) (c : List Nat) (j : Int) : Bool := if a = c then decide (i < j) else decide (a < c)
section
variable {X : Cx}
end
section
variable {M : Ghost} {C : Ct M}
def oLtTI : D → D → (D → Prop) → Prop := fun d e q => ∃ a i c j, d = .tup [.str a, .int i] ∧ e = .tup [.str c, .int j] ∧ q (.bl (ltTI a i c j))
@[simp] theorem sm_ltTI {a c : List Nat} {i j : Int} {q : D → Prop} : oLtTI (.tup [.str a, .int i]) (.tup [.str c, .int j]) q = q (.bl (ltTI a i c j)) := by
  refine propext ⟨fun h => ?_, fun h => ⟨a, i, c, j, rfl, rfl, h⟩⟩
  obtain ⟨_, _, _, _, e1, e2, h⟩ := h
  cases e1; cases e2; exact h
/-- divmod -/
def cDivmod (ds : List D) (q : D → Prop) : Prop := ∃ i j : Int, ds = [.int i, .int j] ∧ CDiv i j ∧ q (.tup [.int (i / j), .int (i % j)])
@[simp] theorem sm_divmod {i j : Int} {q : D → Prop} : cDivmod [.int i, .int j] q = (CDiv i j ∧ q (.tup [.int (i / j), .int (i % j)])) := by
  refine propext ⟨fun h => ?_, fun h => ⟨i, j, rfl, h.1, h.2⟩⟩
  obtain ⟨_, _, e, h1, h2⟩ := h
  cases e
  exact ⟨h1, h2⟩
/-- a, b = a list -/
def gwTL (n : Nat) (w : GWs) : GW := fun d ρ q => match d with
  | .lst ds => ds.length = n ∧ w ds ρ q
  | _ => False
theorem dg_lst {is : List Nat} {ts : List Expr} {kk n : Nat} {gs : GWs} {pos : Pos} (hc : C.X.calm = true) (h : DGs C is ts gs) (hn : (assignEach ts C.X.env).length = n := by rfl) (hst : (assignEach ts C.X.env).findIdx? (·.1) = none := by rfl) :
    DG C is (.Tuple ts kk pos) (gwTL n gs) := ⟨fun σ ρ W v d Q q S r hQ hw => by
  cases d with
  | lst ds =>
    cases r with
    | lst hs r2 => exact tgOf_of (pg_unl hc pgs_tOf hn hst) ⟨_, _, rfl, .of (S.ok.sub _ _ hs), by rw [r2.length]; exact hw.1, h.run σ ρ W _ ds _ _ S r2 hQ hw.2⟩
  | _ => exact hw.elim⟩
end
end DL
set_option Elab.async false
set_option linter.all false
set_option maxRecDepth 100000
set_option maxHeartbeats 1000000
namespace DL
open PySem L2
section
variable {P : Program} {w : World} {K : PySem.W.Frag} {mg : Str → Option Value} {base : Heap}
end
section
variable {X : Cx} {k : Nat} {f : Addr} {sp : Sp} {E : L2.St → XK} {x : Str} {p pos : Pos} {e : Expr} {es : List Expr} {t : TA}
end
section
variable {M : Ghost} {C : Ct M} {W W1 W2 W' : Wd M} {σ : L2.St} {ρ : DEnv} {e : Expr} {es : List Expr} {we : EW M} {pos p : Pos} {wa : AW M}
end

section
variable {X : Cx} {pos : Pos}
end

section
variable {M : Ghost} {C : Ct M} {e : Expr} {we : EW M} {pos : Pos}
end
end DL
set_option Elab.async false
set_option linter.all false
set_option maxRecDepth 100000
set_option maxHeartbeats 1000000
namespace DL
open PySem L2
section
variable {X : Cx}
end
section
variable {M : Ghost} {C : Ct M}
end
end DL
set_option Elab.async false
set_option linter.all false
set_option maxRecDepth 100000
set_option maxHeartbeats 1000000
namespace DL
open PySem L2 PySem.W PySem.SeqAt
section
variable {X : Cx}
end
section
variable {M : Ghost} {C : Ct M}
end
end DL
set_option Elab.async false
set_option linter.all false
set_option maxRecDepth 100000
set_option maxHeartbeats 1000000
namespace DL
open PySem L2
section
variable {M : Ghost} {C : Ct M} {W W1 W2 W' : Wd M} {σ : L2.St} {ρ : DEnv} {e : Expr} {es : List Expr} {we : EW M} {pos : Pos}
end
end DL
set_option Elab.async false
set_option linter.all false
set_option maxRecDepth 100000
set_option maxHeartbeats 1000000
namespace DL
open PySem L2
section
variable {M : Ghost} {C : Ct M}
end
end DL
set_option Elab.async false
set_option linter.all false
set_option maxRecDepth 100000
set_option maxHeartbeats 1000000
namespace DL
open PySem PySem.Spec PyProof.Rows L2
section
variable {X : Cx}
variable {o e : Expr} {es : List Expr} {to : TE} {t : TA} {name : Str} {apos cpos : Pos} {T id : String} {r : V → List V → Hp → VK → Prop}
end
section
variable {M : Ghost} {C : Ct M} {W W1 W2 W' : Wd M} {σ : L2.St} {ρ : DEnv} {e o : Expr} {es : List Expr} {we wo : EW M} {pos apos : Pos} {wa : AW M}
/-- tuple(list): its object is known -/
def cTupleO : List D → (D → Prop) → Prop
  | [.lst ds], q => q (.tx ds)
  | _, _ => False
@[simp] theorem sm_tupleO {ds : List D} {q : D → Prop} : cTupleO [.lst ds] q = q (.tx ds) := rfl
end
end DL
set_option Elab.async false
set_option linter.all false
set_option maxRecDepth 100000
set_option maxHeartbeats 4000000
namespace DL
open PySem L2 PySem.Spec PySem.W PyProof.Rows GenW
section
variable {M : Model} {A : Around} {R : GenEnd} {Y : Protocol} {n : Nat} {s₀ : Shared} {c : Code} {fs : List Frame} {s : Shared} {env : Env}
  {K : Flow → Sem PySem.Fin} {J : Value → Sem PySem.Fin} {gd : Bool → Bool} {lv : List Value → List Value}
end
section
variable {prog : Program} {w : World} {A : Around} {R : GenEnd} {Y : Protocol} {n : Nat} {s₀ : Shared} {fs : List Frame} {s : Shared} {env : Env}
abbrev noted (env : Env) (x : Value) : Sem PySem.Fin := (do noteFrame x env; theTreesLotGoes x : Sem Unit).wrap (fun _ => .raise x) .raise id id
end
section
variable {X : Cx} {pos : Pos}
end
end DL
set_option Elab.async false
set_option linter.all false
set_option maxRecDepth 100000
set_option maxHeartbeats 4000000
namespace DL
open PySem L2 PySem.Spec PySem.W PyProof.Rows GenW
/-- what is wanted behind a statement of a generator: by what is out so far -/
structure Y3 (M : Ghost) where
  nx : List D → DEnv → M.G → Prop
  bk : List D → DEnv → M.G → Prop
  ct : List D → DEnv → M.G → Prop
abbrev YW (M : Ghost) := Y3 M → List D → DEnv → M.G → Prop
section
variable {M : Ghost} {C : Ct M} {W W1 W2 W' : Wd M} {σ : L2.St} {ρ : DEnv} {e c : Expr} {es : List Expr} {we : EW M} {pos p yp : Pos} {wa : AW M} {st : Stmt} {sts a b : List Stmt} {w u : YW M}
structure LfY (C : Ct M) (W : Wd M) (k : Y3 M) (D : GEnds) : Prop where
  nx : ∀ σ' ρ' W' ys ds, Gs W W' → Sat C σ' ρ' W' → RpA C.X.K W'.F W'.R ys ds → k.nx ds ρ' W'.g → D.nx ys σ' W'.H
  bk : ∀ σ' ρ' W' ys ds, Gs W W' → Sat C σ' ρ' W' → RpA C.X.K W'.F W'.R ys ds → k.bk ds ρ' W'.g → D.bk ys σ' W'.H
  ct : ∀ σ' ρ' W' ys ds, Gs W W' → Sat C σ' ρ' W' → RpA C.X.K W'.F W'.R ys ds → k.ct ds ρ' W'.g → D.ct ys σ' W'.H
theorem LfY.step {k : Y3 M} {D : GEnds} (l : LfY C W k D) (g : Gs W W1) : LfY C W1 k D :=
  ⟨fun σ' ρ' W' ys ds g' => l.nx σ' ρ' W' ys ds (g.trans g'), fun σ' ρ' W' ys ds g' => l.bk σ' ρ' W' ys ds (g.trans g'), fun σ' ρ' W' ys ds g' => l.ct σ' ρ' W' ys ds (g.trans g')⟩
end
end DL
set_option Elab.async false
set_option linter.all false
set_option maxRecDepth 100000
set_option maxHeartbeats 4000000
namespace DL
open PySem L2 PySem.Spec PySem.W PyProof.Rows GenW
/-- a def's promise, whatever is being shown -/
structure FnKB (P : Program) (w : World) (K : PySem.W.Frag) (mg : Str → Option Value) (base : Heap) (k : Nat) (x : Str) (ps : List Str) (sp : Sp) : Prop where
  ex : ∃ (f : Addr) (fd : FuncData), FnOk P w K mg base (L2N.CX P w) k f fd ps sp ∧ mg x = some (.ref f) ∧ PySem.W.keepIn K (.ref f) = true ∧ Binds K fd ps []
section
variable {P : Program} {w : World} {K : PySem.W.Frag} {mg : Str → Option Value} {base : Heap}
theorem FnKB.b {k : Nat} {x : Str} {ps : List Str} {sp : Sp} (F : FnKB P w K mg base k x ps sp) : FnB P w K mg base k x ps sp := by
  obtain ⟨f, fd, F, h⟩ := F.ex
  exact ⟨f, fd, ⟨F.len, fun A fr s H as us xs Q E room _ => F.run A fr s H as us xs Q E room⟩, h⟩
theorem fnKS_of {x qual : Str} {st : Stmt} {f : Addr} {fd : FuncData} {N ps : List Str} {k : Nat} {sp : DSp stg} {wb : (Exn → stg.G → Prop) → SW stg} (F : Fun K x qual st f fd) (Sc : FnScope N ps (defScope st))
    (hbody : ∀ (cdv : Value) (A : Around) (outer : List Env) (s : Shared) (H : Hp) (E : XK) (W0 : Wd stg) (EX : Exn → stg.G → Prop), Room k (A.deeper (PyProof.Rows.envOfC qual (defScope st) s.heap.objs.size f cdv)) →
      TakesD (M := stg) ⟨cxOf (L2N.CX P w) P w K mg base N qual (defScope st) f cdv A outer s H E, W0, xk EX, W0⟩ → DSs (M := stg) ⟨cxOf (L2N.CX P w) P w K mg base N qual (defScope st) f cdv A outer s H E, W0, xk EX, W0⟩ (defBody st) (wb EX))
    (hpure : ∀ (ds : List D) (g : Nat) (q : D → Nat → Prop) (ex : Exn → Nat → Prop), ds.length = ps.length → sp ds g q ex → wb ex (kEndS q) (startD N ds) g) :
    FnOk P w K mg base (L2N.CX P w) (k + 1) f fd ps (liftSp K mg ps.length sp) := by
  obtain ⟨oc, od, kV, doc, pm, an, cdv, ct, osl, rfl, lk, hcd⟩ := F.ex
  refine fn_of lk hcd Sc (fun vs H Q E h => ?_) (fun A outer s H vs Q E hr h => ?_)
  · obtain ⟨W, ds, q, ex, _, _, r, hl, _⟩ := h
    rw [r.length, hl]
  · obtain ⟨W, ds, q, ex, rfl, ok, r, hl, hsp, hQ, hE⟩ := h
    have tk : TakesD (M := stg) ⟨cxOf (L2N.CX P w) P w K mg base N qual (defScope st) f cdv A outer s W.H E, W, xk ex, W⟩ := fun u s' x =>
      L2N.takes_of (X := cxOf (L2N.CX P w) P w K mg base N qual (defScope st) f cdv A outer s W.H E) rfl rfl rfl rfl u s' (by
        obtain ⟨a, B, sI, pins, σ, H, cls, d, e, I, nb, up, sky, na, os, ag, x, ρ, W', z1, z2, z3, z4⟩ := x
        exact ⟨a, B, sI, pins, σ, H, cls, d, e, I, nb, up, sky, na, os, ag, hE _ _ _ ⟨x, W', z1, z2.go, z2.ok, z3, z4⟩⟩)
    refine ⟨_, pss_tOf, ?_⟩
    refine (hbody cdv A outer s W.H E W ex hr tk).run _ _ W (kEndS q) _ (sat_start ok rfl rfl r) ⟨fun σ' ρ' W' g S' h => ?_, fun v d W' g k r h => ?_, fun _ _ _ _ _ h => h.elim, fun _ _ _ _ _ h => h.elim⟩ (hpure ds W.g q ex hl hsp)
    · obtain ⟨n, hn, h⟩ := h
      exact hQ .non .non ({ W' with g := n } : Wd stg) (S'.go.trans (go_more (n := n))) (wok_more S'.ok hn) .non h
    · obtain ⟨n, hn, h⟩ := h
      exact hQ v d ({ W' with g := n } : Wd stg) (g.trans (go_more (n := n))) (wok_more k hn) r h
theorem fnKB_of {k : Nat} {f : Addr} {fd : FuncData} {x : Str} {ps : List Str} {sp : Sp} {qual : Str} {st : Stmt} (F : Fun K x qual st f fd) (g : mg x = some (.ref f)) (h : FnOk P w K mg base (L2N.CX P w) k f fd ps sp) (b : Binds K fd ps []) : FnKB P w K mg base k x ps sp := ⟨f, fd, h, g, F.kp, b⟩
end
section
variable {M : Ghost} {C : Ct M} {W W1 W2 W' : Wd M} {σ : L2.St} {ρ : DEnv} {e : Expr} {es : List Expr} {we : EW M} {pos p : Pos} {wa : AW M}
theorem passes_never {X : Cx} : L2.Passes (L2N.CX X.prog X.w) X (fun _ _ _ => False) := fun pins σ H s e s' I c => by
  obtain ⟨a, B, H', cls, d, _, _, _, _, _, _, _, z⟩ := c
  exact z.elim
theorem de_callK {k : Nat} {ps : List Str} {n : Nat} {sp : DSp M} {x : Str} (F : FnKB C.X.prog C.X.w C.X.K C.X.mg C.X.base k x ps (liftSp C.X.K C.X.mg n sp)) (hr : Room k C.X.A) (ha : DA C (e :: es) wa)
    (hg : Gl C.X x := by rfl) (hdb : (x == ("__debug__" : Str)) = false := by decide) (he : starEach (e :: es) C.X.env = (false, eval e C.X.env) :: starEach es C.X.env := by rfl) (hpl : (backTo pos (starEach es C.X.env)).any (·.1) = false := by rfl) :
    DE C (.Call (.Name x p) (e :: es) [] pos) (wCallB n sp wa xno) := ⟨fun σ ρ W Q q S hQ hw => by
  obtain ⟨f, fd, F, hm, hk, hb⟩ := F.ex
  refine tOf_of (L2.pe_call (E := fun _ _ _ => False) (dvs := []) (ds := []) F hr hg hm hk hb .nil passes_never pa_tOf hdb he hpl) (ha.run σ ρ W _ _ S (fun vs ds W1 g1 k1 r1 q1 => ?_) hw)
  show liftSp C.X.K C.X.mg n sp (vs ++ []) W1.H Q (fun _ _ _ => False)
  rw [List.append_nil]
  exact ⟨W1, ds, q, fun x g => False, rfl, k1, r1, q1.1, q1.2, fun v d W2 g2 k2 r2 q2 => hQ v d W2 (g1.trans g2) k2 r2 q2, fun cls d H' h => by
    obtain ⟨_, _, _, _, _, _, z⟩ := h
    exact z⟩⟩
end
section
variable {P : Program} {w : World} {K : PySem.W.Frag} {mg : Str → Option Value} {base : Heap}
end
section
variable {M : Ghost} {C : Ct M} {W W1 W2 W' : Wd M} {σ : L2.St} {ρ : DEnv} {e : Expr} {es : List Expr} {we : EW M} {pos p pos2 p2 : Pos} {wa : AW M}
end
end DL
set_option Elab.async false
set_option linter.all false
set_option maxRecDepth 100000
set_option maxHeartbeats 4000000
namespace GenW
open PySem
open Sem (wp)
/-- a sleeper's dummy: whoever wakes it is stuck -/
def dmy : GenState → GenState
  | .suspended _ l c p fs cl => .suspended (fun _ => .unsupported "") l c p fs cl
  | x => x
def slp : GenState → Bool
  | .suspended .. => true
  | _ => false
/-- no generator's frame among these -/
def noG (fs : List Frame) : Prop := splitAtGen fs = none
def GsG : GenState → Prop
  | .suspended _ _ _ _ fs _ => noG fs
  | _ => True
def EG : End → Prop
  | .ret _ => True
  | .susp _ _ _ _ _ _ fs => noG fs
theorem noG_nil : noG [] := rfl
theorem noG_ret {k h g l c p kp fs} : noG (.ret k h g l c p kp :: fs) ↔ noG fs := by
  unfold noG
  show (splitAtGen fs).map _ = none ↔ _
  cases splitAtGen fs <;> simp
theorem noG_gen {g k l c p fs} : ¬ noG (.gen g k l c p :: fs) := by
  unfold noG
  intro h
  cases h
theorem noG_app {fs gs : List Frame} (h1 : noG fs) (h2 : noG gs) : noG (fs ++ gs) := by
  induction fs with
  | nil => exact h2
  | cons F r ih =>
    cases F with
    | ret k h g l c p kp => exact noG_ret.mpr (ih (noG_ret.mp h1))
    | gen g k l c p => exact absurd h1 noG_gen
section
variable (O : Array GenState)
/-- as it is with the sleepers of O at their places -/
def wokeA (G : Array GenState) : Array GenState := G.mapIdx fun j y => match O[j]? with | some (.suspended k l c p fs cl) => .suspended k l c p fs cl | _ => y
def woke (s : Shared) : Shared := { s with gens := wokeA O s.gens }
structure Gd (s : Shared) : Prop where
  sz : O.size ≤ s.gens.size
  at_ : ∀ (j : Nat) y, s.gens[j]? = some y → (∃ x, O[j]? = some x ∧ slp x = true ∧ y = dmy x) ∨ ((∀ x, O[j]? = some x → slp x = false) ∧ GsG y)
variable {O}
theorem wokeA_size {G : Array GenState} : (wokeA O G).size = G.size := by simp [wokeA]
theorem wokeA_at {G : Array GenState} {j : Nat} {y : GenState} (h : G[j]? = some y) : (wokeA O G)[j]? = some (match O[j]? with | some (.suspended k l c p fs cl) => .suspended k l c p fs cl | _ => y) := by
  simp [wokeA, Array.getElem?_mapIdx, h]
theorem woke_own {G : Array GenState} {j : Nat} {y : GenState} (h : G[j]? = some y) (n : ∀ x, O[j]? = some x → slp x = false) : (wokeA O G)[j]? = some y := by
  rw [wokeA_at h]
  cases e : O[j]? with
  | none => rfl
  | some x =>
    have := n x e
    cases x <;> first | rfl | cases this
theorem woke_slp {G : Array GenState} {j : Nat} {x : GenState} (h : G[j]? = some (dmy x)) (e : O[j]? = some x) (q : slp x = true) : (wokeA O G)[j]? = some x := by
  rw [wokeA_at h, e]
  cases x <;> first | rfl | cases q
theorem wokeA_set {G : Array GenState} {g : Nat} {y : GenState} (n : ∀ x, O[g]? = some x → slp x = false) : wokeA O (G.setIfInBounds g y) = (wokeA O G).setIfInBounds g y := by
  apply Array.ext_getElem?
  intro j
  by_cases hj : j < G.size
  · by_cases e : g = j
    · subst e
      have h1 : (G.setIfInBounds g y)[g]? = some y := by simp [hj]
      rw [woke_own h1 n]
      simp [wokeA_size, hj]
    · have h1 : (G.setIfInBounds g y)[j]? = some G[j] := by rw [Array.getElem?_setIfInBounds_ne e]; exact Array.getElem?_eq_getElem hj
      rw [wokeA_at h1, Array.getElem?_setIfInBounds_ne e, wokeA_at (Array.getElem?_eq_getElem hj)]
  · have a : (wokeA O (G.setIfInBounds g y))[j]? = none := by
      apply Array.getElem?_eq_none
      simp [wokeA_size]; omega
    have b : ((wokeA O G).setIfInBounds g y)[j]? = none := by
      apply Array.getElem?_eq_none
      simp [wokeA_size]; omega
    rw [a, b]
theorem woke_set {s : Shared} {g : Nat} {y : GenState} (n : ∀ x, O[g]? = some x → slp x = false) : woke O (s.setGen g y) = (woke O s).setGen g y := by
  unfold woke Shared.setGen
  rw [wokeA_set n]
theorem setGen_atW {s : Shared} {g : Nat} {x : GenState} (h : g < s.gens.size) : (s.setGen g x).gens[g]? = some x := by
  show (s.gens.setIfInBounds g x)[g]? = some x
  simp [h]
theorem Gd.set {s : Shared} {g : Nat} {y : GenState} (h : Gd O s) (n : ∀ x, O[g]? = some x → slp x = false) (hy : GsG y) : Gd O (s.setGen g y) := by
  refine ⟨by rw [setGen_size]; exact h.sz, fun j z e => ?_⟩
  by_cases q : g = j
  · subst q
    have lt : g < s.gens.size := by
      have := (Array.getElem?_eq_some_iff.mp e).1
      rw [setGen_size] at this
      exact this
    rw [setGen_atW lt] at e
    cases e
    exact .inr ⟨n, hy⟩
  · have e2 : s.gens[j]? = some z := by
      rw [← e]
      show _ = (s.gens.setIfInBounds g y)[j]?
      rw [Array.getElem?_setIfInBounds_ne q]
    exact h.at_ j z e2
theorem Gd.own {s : Shared} {g : Nat} {y : GenState} (h : Gd O s) (e : s.gens[g]? = some y) (q : slp y = false) : (∀ x, O[g]? = some x → slp x = false) ∧ GsG y := by
  rcases h.at_ g y e with ⟨x, h1, h2, rfl⟩ | h
  · cases x <;> first | (cases h2; done) | (cases (show true = false from q); done)
  · exact h
theorem Gd.push {s : Shared} {c : Code} (h : Gd O s) : Gd O { s with gens := s.gens.push (.fresh c) } := by
  refine ⟨by show _ ≤ (s.gens.push _).size; rw [Array.size_push]; exact Nat.le_succ_of_le h.sz, fun j z e => ?_⟩
  have e' : (s.gens.push (GenState.fresh c))[j]? = some z := e
  rw [Array.getElem?_push] at e'
  by_cases q : j = s.gens.size
  · rw [if_pos q] at e'
    cases e'
    refine .inr ⟨fun x hx => ?_, trivial⟩
    have := (Array.getElem?_eq_some_iff.mp hx).1
    have := h.sz
    omega
  · rw [if_neg q] at e'
    exact h.at_ j z e'
theorem woke_push {s : Shared} {c : Code} (h : Gd O s) : woke O { s with gens := s.gens.push (.fresh c) } = { woke O s with gens := (woke O s).gens.push (.fresh c) } := by
  unfold woke
  have : wokeA O (s.gens.push (.fresh c)) = (wokeA O s.gens).push (.fresh c) := by
    apply Array.ext_getElem?
    intro j
    rw [Array.getElem?_push, wokeA_size]
    by_cases q : j = s.gens.size
    · rw [if_pos q]
      have e : (s.gens.push (GenState.fresh c))[j]? = some (.fresh c) := by rw [Array.getElem?_push, if_pos q]
      refine woke_own e fun x hx => ?_
      have := (Array.getElem?_eq_some_iff.mp hx).1
      have := h.sz
      omega
    · rw [if_neg q]
      by_cases hj : j < s.gens.size
      · have e : (s.gens.push (GenState.fresh c))[j]? = some s.gens[j] := by rw [Array.getElem?_push, if_neg q]; exact Array.getElem?_eq_getElem hj
        rw [wokeA_at e, wokeA_at (Array.getElem?_eq_getElem hj)]
      · have a : (wokeA O (s.gens.push (.fresh c)))[j]? = none := by
          apply Array.getElem?_eq_none
          simp [wokeA_size]; omega
        have b : (wokeA O s.gens)[j]? = none := by
          apply Array.getElem?_eq_none
          simp [wokeA_size]; omega
        rw [a, b]
  simp only [this]
theorem seen_dmy (x : GenState) : (dmy x).seen = x.seen := by cases x <;> rfl
theorem no_uns {M : Model} {Γ : Ctx} {p : Pos} {w : String} {fs : List Frame} {s s' : Shared} {e : End} (h : Runs M Γ p (.unsupported w) fs s e s') : False := by
  have nil : ∀ {Γ : Ctx} {p : Pos} {s s' : Shared} {e : End}, Runs M Γ p (.unsupported w) [] s e s' → False := fun h => nomatch h
  cases h with
  | segRet h _ => exact nil h
  | segGen h _ => exact nil h
  | segSuspOut _ h => exact nil h
  | segSuspGen _ h _ _ => exact nil h
theorem EG.st {e : End} (h : EG e) : GsG e.genState := by
  cases e with
  | ret r => trivial
  | susp v g l k c p fs => exact h
theorem runs_woke {M : Model} {Γ : Ctx} {p : Pos} {t : Sem PySem.Fin} {fs : List Frame} {s s' : Shared} {e : End} (h : Runs M Γ p t fs s e s') : Gd O s → noG fs → Gd O s' ∧ EG e ∧ Runs M Γ p t fs (woke O s) e (woke O s') := by
  induction h with
  | done => exact fun g _ => ⟨g, trivial, .done⟩
  | raise => exact fun g _ => ⟨g, trivial, .raise⟩
  | again hq _ ih => exact fun g n => let ⟨a, b, c⟩ := ih g n; ⟨a, b, .again hq c⟩
  | rule _ ih => exact fun g n => let ⟨a, b, c⟩ := ih g n; ⟨a, b, .rule c⟩
  | «at» _ ih => exact fun g n => let ⟨a, b, c⟩ := ih g n; ⟨a, b, .at c⟩
  | load ho _ ih => exact fun g n => let ⟨a, b, c⟩ := ih g n; ⟨a, b, .load ho c⟩
  | update ho _ ih => exact fun g n => let ⟨a, b, c⟩ := ih ⟨g.sz, g.at_⟩ n; ⟨a, b, .update ho c⟩
  | loadIfAlive _ ih => exact fun g n => let ⟨a, b, c⟩ := ih g n; ⟨a, b, .loadIfAlive c⟩
  | point _ ih => exact fun g n => let ⟨a, b, c⟩ := ih g n; ⟨a, b, .point c⟩
  | alloc _ ih => exact fun g n => let ⟨a, b, c⟩ := ih ⟨g.sz, g.at_⟩ n; ⟨a, b, .alloc c⟩
  | fresh _ ih => exact fun g n => let ⟨a, b, c⟩ := ih ⟨g.sz, g.at_⟩ n; ⟨a, b, .fresh c⟩
  | ask _ ih => exact fun g n => let ⟨a, b, c⟩ := ih g n; ⟨a, b, .ask c⟩
  | choose hn _ ih => exact fun g n => let ⟨a, b, c⟩ := ih ⟨g.sz, g.at_⟩ n; ⟨a, b, .choose hn c⟩
  | os _ ih => exact fun g n => let ⟨a, b, c⟩ := ih ⟨g.sz, g.at_⟩ n; ⟨a, b, .os c⟩
  | handled _ ih => exact fun g n => let ⟨a, b, c⟩ := ih g n; ⟨a, b, .handled c⟩
  | genState hs _ ih =>
    rename_i s₀ g₀ st _ _ _ _ _ _
    intro g n
    obtain ⟨a, b, c⟩ := ih g n
    refine ⟨a, b, ?_⟩
    rcases g.at_ _ _ hs with ⟨x, h1, h2, rfl⟩ | ⟨h1, _⟩
    · rw [seen_dmy] at c
      exact .genState (woke_slp hs h1 h2) c
    · exact .genState (woke_own hs h1) c
  | stack _ ih => exact fun g n => let ⟨a, b, c⟩ := ih g n; ⟨a, b, .stack c⟩
  | thread _ ih => exact fun g n => let ⟨a, b, c⟩ := ih g n; ⟨a, b, .thread c⟩
  | newGen _ ih =>
    intro g n
    obtain ⟨a, b, c⟩ := ih g.push n
    rw [woke_push g] at c
    refine ⟨a, b, .newGen ?_⟩
    rw [show (woke O _).gens.size = _ from wokeA_size]
    exact c
  | call _ _ ih1 ih2 =>
    intro g n
    obtain ⟨a, _, c⟩ := ih1 g noG_nil
    obtain ⟨a2, b2, c2⟩ := ih2 a n
    exact ⟨a2, b2, .call c c2⟩
  | callSusp _ ih =>
    intro g n
    obtain ⟨a, b, c⟩ := ih g noG_nil
    exact ⟨a, noG_app b (noG_ret.mpr noG_nil), .callSusp c⟩
  | yield => exact fun g _ => ⟨g, noG_nil, .yield⟩
  | resumeFresh hs _ hq _ ih1 ih2 =>
    intro g n
    have q := g.own hs rfl
    obtain ⟨a, b, c⟩ := ih1 (g.set q.1 trivial) noG_nil
    obtain ⟨a2, b2, c2⟩ := ih2 (a.set q.1 b.st) n
    rw [woke_set q.1] at c c2
    exact ⟨a2, b2, .resumeFresh (woke_own hs q.1) c hq c2⟩
  | resumeSuspended hs h1 hq _ ih1 ih2 =>
    intro g n
    rcases g.at_ _ _ hs with ⟨x, e1, e2, e3⟩ | q
    · cases x with
      | suspended k l c p fs cl =>
        have e4 := congrArg (fun y => match y with | GenState.suspended k .. => k | _ => fun _ => Sem.unsupported "") e3
        dsimp only [dmy] at e4
        subst e4
        exact (no_uns h1).elim
      | _ => cases e2
    · obtain ⟨a, b, c⟩ := ih1 (g.set q.1 trivial) q.2
      obtain ⟨a2, b2, c2⟩ := ih2 (a.set q.1 b.st) n
      rw [woke_set q.1] at c c2
      exact ⟨a2, b2, .resumeSuspended (woke_own hs q.1) c hq c2⟩
  | resumeJustStarted hs hv _ ih =>
    intro g n
    have q := g.own hs rfl
    obtain ⟨a, b, c⟩ := ih g n
    exact ⟨a, b, .resumeJustStarted (woke_own hs q.1) hv c⟩
  | resumeThrowFresh hs _ ih =>
    intro g n
    have q := g.own hs rfl
    obtain ⟨a, b, c⟩ := ih (g.set q.1 trivial) n
    rw [woke_set q.1] at c
    exact ⟨a, b, .resumeThrowFresh (woke_own hs q.1) c⟩
  | resumeRunning hs _ ih =>
    intro g n
    have q := g.own hs rfl
    obtain ⟨a, b, c⟩ := ih g n
    exact ⟨a, b, .resumeRunning (woke_own hs q.1) c⟩
  | resumeFinished hs _ ih =>
    intro g n
    have q := g.own hs rfl
    obtain ⟨a, b, c⟩ := ih g n
    exact ⟨a, b, .resumeFinished (woke_own hs q.1) c⟩
  | segRet _ _ ih1 ih2 =>
    intro g n
    obtain ⟨a, _, c⟩ := ih1 g noG_nil
    obtain ⟨a2, b2, c2⟩ := ih2 a (noG_ret.mp n)
    exact ⟨a2, b2, .segRet c c2⟩
  | segGen _ _ _ _ => exact fun _ n => (noG_gen n).elim
  | segSuspOut hs _ ih =>
    intro g n
    obtain ⟨a, b, c⟩ := ih g noG_nil
    exact ⟨a, noG_app b hs, .segSuspOut hs c⟩
  | segSuspGen hs _ _ _ _ _ =>
    intro g n
    rw [show splitAtGen _ = none from n] at hs
    cases hs
theorem wakes_woke {M : Model} {Γ : Ctx} {p : Pos} {g : Nat} {r : Resume} {s s' : Shared} {res : GenResult} (h : Wakes M Γ p g r s res s') (gd : Gd O s) : Gd O s' ∧ Wakes M Γ p g r (woke O s) res (woke O s') := by
  unfold Wakes at h ⊢
  cases hs : s.gens[g]? with
  | none => rw [hs] at h; exact h.elim
  | some st =>
    rw [hs] at h
    cases st with
    | fresh c =>
      have q := gd.own hs rfl
      rw [show (woke O s).gens[g]? = _ from woke_own hs q.1]
      dsimp only at h ⊢
      cases r with
      | send v =>
        cases v with
        | none =>
          obtain ⟨e₁, s₁, hr, hq, hres, rfl⟩ := h
          obtain ⟨a, b, c⟩ := runs_woke hr (gd.set q.1 trivial) noG_nil
          rw [woke_set q.1] at c
          exact ⟨a.set q.1 b.st, e₁, _, c, hq, hres, woke_set q.1⟩
        | _ => exact ⟨h.2 ▸ gd, h.1, by rw [h.2]⟩
      | throw x =>
        obtain ⟨h1, rfl⟩ := h
        exact ⟨gd.set q.1 trivial, h1, woke_set q.1⟩
    | suspended k l c p fs cl =>
      dsimp only at h
      obtain ⟨e₁, s₁, hr, hq, hres, rfl⟩ := h
      rcases gd.at_ _ _ hs with ⟨x, e1, e2, e3⟩ | q
      · cases x with
        | suspended k' l c p fs cl =>
          have e4 := congrArg (fun y => match y with | GenState.suspended k .. => k | _ => fun _ => Sem.unsupported "") e3
          dsimp only [dmy] at e4
          subst e4
          exact (no_uns hr).elim
        | _ => cases e2
      · rw [show (woke O s).gens[g]? = _ from woke_own hs q.1]
        dsimp only
        obtain ⟨a, b, c⟩ := runs_woke hr (gd.set q.1 trivial) q.2
        rw [woke_set q.1] at c
        exact ⟨a.set q.1 b.st, e₁, _, c, hq, hres, woke_set q.1⟩
    | running =>
      have q := gd.own hs rfl
      rw [show (woke O s).gens[g]? = _ from woke_own hs q.1]
      exact ⟨h.2 ▸ gd, h.1, by rw [h.2]⟩
    | finished =>
      have q := gd.own hs rfl
      rw [show (woke O s).gens[g]? = _ from woke_own hs q.1]
      exact ⟨h.2 ▸ gd, h.1, by rw [h.2]⟩
theorem wp_woke {α : Type} (M : Model) (Γ : Ctx) (t : Sem α) : ∀ (Q : α → Pos → Shared → Prop) (E : Value → Pos → Shared → Prop) (p : Pos) (s : Shared), Gd O s → wp M Γ t Q E p s →
    wp M Γ t (fun a p' s' => ∃ x, Gd O x ∧ s' = woke O x ∧ Q a p' x) (fun e p' s' => ∃ x, Gd O x ∧ s' = woke O x ∧ E e p' x) p (woke O s) := by
  induction t with
  | pure a => intro Q E p s hn h; exact ⟨s, hn, rfl, h⟩
  | raise e => intro Q E p s hn h; exact ⟨s, hn, rfl, h⟩
  | unsupported _ => intro Q E p s _ h; exact h
  | finish _ => intro Q E p s _ h; exact h
  | rule _ k ih => intro Q E p s hn h; exact ih () Q E p s hn h
  | «at» p' k ih => intro Q E p s hn h; exact ih () Q E p' s hn h
  | load a _ k ih => intro Q E p s hn h; obtain ⟨o, ho, h⟩ := h; exact ⟨o, ho, ih o Q E p s hn h⟩
  | update a _ f k ih => intro Q E p s hn h; exact ⟨h.1, ih () Q E p { s with heap := s.heap.update a f } ⟨hn.sz, hn.at_⟩ h.2⟩
  | loadIfAlive a k ih => intro Q E p s hn h; exact ih _ Q E p s hn h
  | point _ k ih => intro Q E p s hn h; exact ih () Q E p s hn h
  | register _ _ => intro Q E p s _ h; exact h
  | alloc o k ih => intro Q E p s hn h; exact ih _ Q E p { s with heap := s.heap.push o } ⟨hn.sz, hn.at_⟩ h
  | fresh k ih => intro Q E p s hn h; exact ih _ Q E p { s with toks := s.toks + 1 } ⟨hn.sz, hn.at_⟩ h
  | ask k ih => intro Q E p s hn h; exact ih _ Q E p s hn h
  | choose src m k ih => intro Q E p s hn h; exact ⟨h.1, ih _ Q E p { s with drawn := s.drawn.bump src } ⟨hn.sz, hn.at_⟩ h.2⟩
  | os q _ k ih => intro Q E p s hn h; exact ih _ Q E p { s with os := (Os.step s.os q).1 } ⟨hn.sz, hn.at_⟩ h
  | call c hd _ _ k ih =>
    intro Q E p s hn h
    obtain ⟨r, s', hr, h⟩ := h
    obtain ⟨a, _, b⟩ := runs_woke hr hn noG_nil
    exact ⟨r, woke O s', b, ih r Q E p s' a h⟩
  | handled own k ih => intro Q E p s hn h; exact ih _ Q E p s hn h
  | genState g k ih =>
    intro Q E p s hn h
    obtain ⟨st, hs, h⟩ := h
    rcases hn.at_ _ _ hs with ⟨x, h1, h2, rfl⟩ | ⟨h1, _⟩
    · rw [seen_dmy] at h
      exact ⟨x, woke_slp hs h1 h2, ih _ Q E p s hn h⟩
    · exact ⟨st, woke_own hs h1, ih _ Q E p s hn h⟩
  | newGen c k ih =>
    intro Q E p s hn h
    have z := ih _ Q E p { s with gens := s.gens.push (.fresh c) } hn.push h
    rw [woke_push hn] at z
    show wp M Γ (k (woke O s).gens.size) _ _ p _
    rw [show (woke O s).gens.size = s.gens.size from wokeA_size]
    exact z
  | resume g r _ k ih =>
    intro Q E p s hn h
    obtain ⟨res, s', hw, h⟩ := h
    obtain ⟨a, b⟩ := wakes_woke hw hn
    exact ⟨res, woke O s', b, ih res Q E p s' a h⟩
  | yield _ _ _ _ => intro Q E p s _ h; exact h
  | stack k ih => intro Q E p s hn h; exact ih _ Q E p s hn h
  | fork _ _ => intro Q E p s _ h; exact h
  | thread k ih => intro Q E p s hn h; exact ih _ Q E p s hn h
  | await _ _ _ _ _ => intro Q E p s _ h; exact h
end
/-- the state with dummies in the sleepers' places -/
def dull (s : Shared) : Shared := { s with gens := s.gens.map dmy }
theorem gd_dull (s : Shared) : Gd s.gens (dull s) := by
  refine ⟨by show _ ≤ (s.gens.map dmy).size; simp, fun j y e => ?_⟩
  have e' : (s.gens.map dmy)[j]? = some y := e
  rw [Array.getElem?_map] at e'
  cases q : s.gens[j]? with
  | none => rw [q] at e'; cases e'
  | some x =>
    rw [q] at e'
    have e2 : dmy x = y := by simpa using e'
    subst e2
    cases hx : slp x with
    | true => exact .inl ⟨x, rfl, hx, rfl⟩
    | false => exact .inr ⟨fun z hz => by cases hz; exact hx, by cases x <;> first | trivial | cases hx⟩
theorem woke_dull (s : Shared) : woke s.gens (dull s) = s := by
  have : wokeA s.gens (s.gens.map dmy) = s.gens := by
    apply Array.ext_getElem?
    intro j
    cases q : s.gens[j]? with
    | none =>
      have hj : s.gens.size ≤ j := by simpa using q
      apply Array.getElem?_eq_none
      simp [wokeA_size]; omega
    | some x =>
      have e : (s.gens.map dmy)[j]? = some (dmy x) := by rw [Array.getElem?_map, q]; rfl
      cases hx : slp x with
      | true => exact woke_slp e q hx
      | false =>
        rw [woke_own e fun z hz => by rw [q] at hz; cases hz; exact hx]
        cases x <;> first | rfl | cases hx
  unfold woke dull
  rw [this]
theorem bare_dull {s : Shared} (h : PyProof.Rows.AllBare s.gens) : PyProof.Rows.AllBare (dull s).gens := fun x hx => by
  obtain ⟨y, hy, e⟩ := Array.mem_map.mp hx
  have := h y hy
  subst e
  cases y <;> exact this
theorem bare_woke {O : Array GenState} {x : Shared} (hO : PyProof.Rows.AllBare O) (h : PyProof.Rows.AllBare x.gens) : PyProof.Rows.AllBare (woke O x).gens := fun y hy => by
  obtain ⟨j, hj, e⟩ := Array.mem_iff_getElem.mp hy
  have hj' : j < x.gens.size := by
    have : (wokeA O x.gens).size = x.gens.size := wokeA_size
    have : j < (wokeA O x.gens).size := hj
    omega
  have e1 : (woke O x).gens[j]? = _ := wokeA_at (O := O) (Array.getElem?_eq_getElem hj')
  have e2 : (woke O x).gens[j]? = some y := by
    rw [Array.getElem?_eq_getElem hj]
    exact congrArg some e
  rw [e1] at e2
  cases q : O[j]? with
  | none =>
    rw [q] at e2
    cases e2
    exact h _ (Array.getElem_mem hj')
  | some z =>
    have hz := hO z (Array.mem_of_getElem? q)
    rw [q] at e2
    cases z with
    | suspended k l c p fs cl => cases e2; exact hz
    | _ => cases e2; exact h _ (Array.getElem_mem hj')
/-- what a run does with dummies in the sleepers' places it does without, and leaves them as they are -/
theorem wpAny_woke {α : Type} {M : Model} {A : Around} {s : Shared} {t : Sem α} {Q : α → Shared → Prop} {E : Value → Shared → Prop} (h : wpAny M A t Q E (dull s)) :
    wpAny M A t (fun a s' => ∃ x, Gd s.gens x ∧ s' = woke s.gens x ∧ Q a x) (fun e s' => ∃ x, Gd s.gens x ∧ s' = woke s.gens x ∧ E e x) s := fun Γ p hΓ => by
  have := wp_woke M Γ t _ _ p (dull s) (gd_dull s) (h Γ p hΓ)
  rw [woke_dull] at this
  exact this
/-- the sleepers of the one sleep in the other -/
def Kept (s s' : Shared) : Prop := ∀ (j : Nat) x, slp x = true → s.gens[j]? = some x → s'.gens[j]? = some x
theorem Kept.refl (s : Shared) : Kept s s := fun _ _ _ h => h
theorem Kept.trans {a b c : Shared} (h : Kept a b) (k : Kept b c) : Kept a c := fun j x q e => k j x q (h j x q e)
theorem kept_woke {s x : Shared} (g : Gd s.gens x) : Kept s (woke s.gens x) := fun j y q e => by
  have hj : j < s.gens.size := (Array.getElem?_eq_some_iff.mp e).1
  have hj' : j < x.gens.size := Nat.lt_of_lt_of_le hj g.sz
  have e1 := wokeA_at (O := s.gens) (Array.getElem?_eq_getElem hj')
  rw [e] at e1
  cases y with
  | suspended k l c p fs cl => exact e1
  | _ => cases q
end GenW
set_option Elab.async false
set_option linter.all false
set_option maxRecDepth 100000
set_option maxHeartbeats 4000000
namespace GenW
open PySem
open Sem (wp)
/-- the code goes on and comes to an end or a rest of which Φ tells -/
def SegQ (M : Model) (A : Around) (Φ : End → Shared → Prop) (c : Code) (t : Sem PySem.Fin) (fs : List Frame) (s : Shared) : Prop :=
  ∀ Γ p, Γ.code = c → Γ.Woken A → ∃ e s', Runs M Γ p t fs s e s' ∧ Φ e s'
section
variable {M : Model} {A : Around} {Φ Φ' : End → Shared → Prop} {c : Code} {fs : List Frame} {s : Shared} {env : Env}
  {K : Flow → Sem PySem.Fin} {H : Value → Sem PySem.Fin} {gd : Bool → Bool} {lv : List Value → List Value}
theorem sq_wrap {α : Type} {m : Sem α} {K : α → Sem PySem.Fin} {H : Value → Sem PySem.Fin} {gd lv}
    (h : wpAny M (A.over c fs) m (fun a s' => SegQ M A Φ c (K a) fs s') (fun x s' => SegQ M A Φ c (H x) fs s') s) :
    SegQ M A Φ c (m.wrap K H gd lv) fs s := by
  rintro Γ p rfl hΓ
  exact runs_wrap_of_wp K H gd lv m (h (Γ.over fs) p (hΓ.over fs)) (fun a p' s' h' => h' Γ p' rfl hΓ) (fun x p' s' h' => h' Γ p' rfl hΓ)
theorem sq_bind {α : Type} {m : Sem α} {K : α → Sem PySem.Fin}
    (h : wpAny M (A.over c fs) m (fun a s' => SegQ M A Φ c (K a) fs s') (fun x s' => SegQ M A Φ c (.raise x) fs s') s) :
    SegQ M A Φ c (m >>= K) fs s := by
  rw [Sem.bind_eq_wrap']; exact sq_wrap h
theorem sq_at {p' : Pos} {k : Unit → Sem PySem.Fin} (h : SegQ M A Φ c (k ()) fs s) : SegQ M A Φ c (.at p' k) fs s :=
  sq_wrap (m := standAt p') (K := k) (H := .raise) (gd := id) (lv := id) (wpAny_standAt h)
theorem sq_point {l : List Value} {k : Unit → Sem PySem.Fin} (h : SegQ M A Φ c (k ()) fs s) : SegQ M A Φ c (.point l k) fs s :=
  sq_wrap (m := point) (K := k) (H := .raise) (gd := id) (lv := fun _ => l) (wpAny_point h)
theorem sq_call {c' : Code} {h g l} {k : Result → Sem PySem.Fin} (hc : ∀ p, SegQ M A Φ c' (M.den c') (.ret k h g l c p [] :: fs) s) :
    SegQ M A Φ c (.call c' h g l k) fs s := by
  rintro Γ p rfl hΓ
  obtain ⟨e, s', hr, he⟩ := (hc p) (Γ.goto c') p rfl (hΓ.goto c')
  exact ⟨e, s', runs_call_seg hr, he⟩
theorem sq_leaf {k h g l c₁ p₁ kp} (r : Result) (hk : SegQ M A Φ c₁ (k r) fs s) : SegQ M A Φ c (leafOf r) (.ret k h g l c₁ p₁ kp :: fs) s := by
  rintro Γ p rfl hΓ
  obtain ⟨e, s', hr, he⟩ := hk (Γ.goto c₁) p₁ rfl (hΓ.goto c₁)
  exact ⟨e, s', Runs.pop r hr, he⟩
theorem sq_again {c' : Code} (hq : c'.quiet = true) (hc : SegQ M A Φ c' (M.den c') fs s) : SegQ M A Φ c (.pure (.again c')) fs s := by
  rintro Γ p rfl hΓ
  obtain ⟨e, s', hr, he⟩ := hc (Γ.goto c') p rfl (hΓ.goto c')
  exact ⟨e, s', Runs.head (c₁ := c') (fun _ _ x => .again hq x) hr, he⟩
theorem sq_end (r : Result) (h : Φ (.ret r) s) : SegQ M A Φ c (leafOf r) [] s := by
  rintro Γ p rfl _
  exact ⟨.ret r, s, Runs.leaf r, h⟩
theorem sq_yield {v g l} {k : Resume → Sem PySem.Fin} (hfs : splitAtGen fs = none) (h : ∀ p, Φ (.susp v g l k c p fs) s) : SegQ M A Φ c (.yield v g l k) fs s := by
  rintro Γ p rfl _
  exact ⟨_, s, Runs.yield' fs hfs, h p⟩
/-- an exception that can't be -/
theorem wp_false {α : Type} (M : Model) (Γ : Ctx) (t : Sem α) : ∀ (p : Pos) (s : Shared), wp M Γ t (fun _ _ _ => False) (fun _ _ _ => False) p s → False := by
  induction t with
  | pure a => exact fun _ _ h => h
  | raise e => exact fun _ _ h => h
  | unsupported _ => exact fun _ _ h => h
  | finish _ => exact fun _ _ h => h
  | rule _ k ih => exact fun p s h => ih () p s h
  | «at» p' k ih => exact fun p s h => ih () p' s h
  | load a _ k ih => exact fun p s h => let ⟨o, _, h⟩ := h; ih o p s h
  | update a _ f k ih => exact fun p s h => ih () p _ h.2
  | loadIfAlive a k ih => exact fun p s h => ih _ p s h
  | point _ k ih => exact fun p s h => ih () p s h
  | register _ _ => exact fun _ _ h => h
  | alloc o k ih => exact fun p s h => ih _ p _ h
  | fresh k ih => exact fun p s h => ih _ p _ h
  | ask k ih => exact fun p s h => ih _ p s h
  | choose src m k ih => exact fun p s h => ih _ p _ h.2
  | os q _ k ih => exact fun p s h => ih _ p _ h
  | call c hd _ _ k ih => exact fun p s h => let ⟨r, s', _, h⟩ := h; ih r p s' h
  | handled own k ih => exact fun p s h => ih _ p s h
  | genState g k ih => exact fun p s h => let ⟨st, _, h⟩ := h; ih _ p s h
  | newGen c k ih => exact fun p s h => ih _ p _ h
  | resume g r _ k ih => exact fun p s h => let ⟨res, s', _, h⟩ := h; ih res p s' h
  | yield _ _ _ _ => exact fun _ _ h => h
  | stack k ih => exact fun p s h => ih _ p s h
  | fork _ _ => exact fun _ _ h => h
  | thread k ih => exact fun p s h => ih _ p s h
  | await _ _ _ _ _ => exact fun _ _ h => h
theorem sq_false {α : Type} {t : Sem PySem.Fin} {m : Sem α} {s' : Shared} (h : wpAny M (A.over c fs) m (fun _ _ => False) (fun _ _ => False) s') : SegQ M A Φ c t fs s := by
  rintro Γ p rfl hΓ
  exact (wp_false M _ m p s' (h (Γ.over fs) p (hΓ.over fs))).elim
theorem sq_execs_nil (h : SegQ M A Φ c (K .next) fs s) : SegQ M A Φ c ((execs [] env).wrap K H gd lv) fs s := h
theorem sq_execs_cons {st : Stmt} {rest : List Stmt}
    (h : SegQ M A Φ c ((exec st env).wrap (fun f => match f with | .next => (execs rest env).wrap K H gd lv | f => K f) H gd lv) fs s) :
    SegQ M A Φ c ((execs (st :: rest) env).wrap K H gd lv) fs s := by rw [execs_cons_wrap]; exact h
theorem sq_Expr_Yield {e : Expr} {ypos pos : Pos} (hfs : splitAtGen fs = none) (hgd : gd false = false)
    (h : wpAny M (A.over c fs) (eval e env) (fun v s' => ∀ (k : Resume → Sem PySem.Fin) (g : Bool) (l : List Value) (p : Pos), g = false → (∀ Φ s'', SegQ M A Φ c (K .next) fs s'' → SegQ M A Φ c (k (.send .none)) fs s'') → Φ (.susp v g l k c p fs) s')
      (fun x s' => SegQ M A Φ c (H x) fs s') s) (hco : env.scope.isCoroutine = false := by rfl) (hi : interactive env = false := by rfl) :
    SegQ M A Φ c ((exec (.Expr (.Yield (some e) ypos) pos) env).wrap K H gd lv) fs s := by
  rw [exec_Expr env _ pos hi rfl]
  show SegQ M A Φ c (.at pos fun _ => ((eval e env >>= fun v => (standAt ypos >>= fun _ => yieldOut env v)) >>= fun x =>
    dropValue (.Yield (some e) ypos) pos x).wrap K H gd lv) fs s
  have hy : ∀ v, yieldOut env v = yieldValue v := fun v => by simp only [yieldOut, hco, Bool.false_eq_true, if_false]
  simp only [hy]
  refine sq_at ?_
  rw [Sem.bind_eq_wrap', Sem.bind_eq_wrap', Sem.wrap_wrap, Sem.wrap_wrap]
  refine sq_wrap (wpAny_mono h (fun v s' h' => ?_) fun _ _ x => x)
  refine sq_at (sq_yield hfs fun p => h' _ _ _ p hgd fun Φ s'' hx => ?_)
  exact hx
theorem sq_bind_wrap {α β : Type} {m : Sem α} {f : α → Sem β} {K : β → Sem PySem.Fin} {J : Value → Sem PySem.Fin} {gd : Bool → Bool} {lv : List Value → List Value}
    (h : wpAny M (A.over c fs) m (fun a s' => SegQ M A Φ c ((f a).wrap K J gd lv) fs s') (fun x s' => SegQ M A Φ c (J x) fs s') s) :
    SegQ M A Φ c ((m >>= f).wrap K J gd lv) fs s := by
  rw [Sem.bind_eq_wrap', Sem.wrap_wrap]
  exact sq_wrap h
theorem sq_for {tg iter : Expr} {body orelse : List Stmt} {pos : Pos} {J : Value → Sem PySem.Fin} (hs : ∀ x, foldedSetIterable iter env x = pure x)
    (h : wpAny M (A.over c fs) (eval iter env) (fun x s₁ => wpAny M (A.over c fs) (pyIter x) (fun it s₂ => ∀ p, SegQ M A Φ (.forLoop tg it body orelse env) (M.den (.forLoop tg it body orelse env))
        (.ret (fun r => ((match r with | .ok f => (.pure f : Sem Flow) | .error e => .raise e).onRaise (L2.cameBack env)).wrap K J gd lv) none (gd false) (lv []) c p [] :: fs) s₂)
      (fun x s' => SegQ M A Φ c (J x) fs s') s₁) (fun x s' => SegQ M A Φ c (J x) fs s') s) :
    SegQ M A Φ c ((exec (.For tg iter body orelse pos) env).wrap K J gd lv) fs s := by
  rw [exec_For]
  refine sq_bind_wrap (wpAny_standAt ?_)
  refine sq_bind_wrap (wpAny_mono h (fun x s₁ h₁ => ?_) fun _ _ z => z)
  rw [hs x]
  refine sq_bind_wrap (wpAny_pure ?_)
  refine sq_bind_wrap (wpAny_standAt ?_)
  refine sq_bind_wrap (wpAny_holding (wpAny_mono h₁ (fun it s₂ h₂ => ?_) fun _ _ z => z))
  exact sq_call h₂
end
section
variable {prog : Program} {w : World} {A : Around} {Φ : End → Shared → Prop} {fs : List Frame} {s : Shared} {env : Env}
theorem sq_forTurn {tg : Expr} {it : Value} {body : List Stmt}
    (h : wpAny (model prog w) (A.over (.forLoop tg it body [] env) fs) (pyNext it) (fun r s₁ => match r with
        | none => SegQ (model prog w) A Φ (.forLoop tg it body [] env) (.pure (.again (.block [] env))) fs s₁
        | some v => wpAny (model prog w) (A.over (.forLoop tg it body [] env) fs) (letOwnedTupleGo tg it v) (fun _ s₂ => wpAny (model prog w) (A.over (.forLoop tg it body [] env) fs) (assign tg env v) (fun _ s₃ =>
            SegQ (model prog w) A Φ (.forLoop tg it body [] env) ((execs body env).wrap (fun f => match f with
              | .next | .cont => .pure (.again (.forLoop tg it body [] env))
              | .brk => .pure (.done .next)
              | .ret v => .pure (.done (.ret v))) (DL.noted env) id id) fs s₃)
            (fun x s' => SegQ (model prog w) A Φ (.forLoop tg it body [] env) (DL.noted env x) fs s') s₂)
            (fun x s' => SegQ (model prog w) A Φ (.forLoop tg it body [] env) (DL.noted env x) fs s') s₁)
      (fun x s' => SegQ (model prog w) A Φ (.forLoop tg it body [] env) (DL.noted env x) fs s') s) :
    SegQ (model prog w) A Φ (.forLoop tg it body [] env) ((model prog w).den (.forLoop tg it body [] env)) fs s := by
  show SegQ _ A Φ _ ((forTurn tg it body [] env).onRaise (fun x => do noteFrame x env; theTreesLotGoes x)) fs s
  rw [Sem.onRaise_eq_wrap]
  have eH : (fun e => ((do noteFrame e env; theTreesLotGoes e : Sem Unit)).bind fun _ => (Sem.raise e : Sem PySem.Fin)) = DL.noted env := by
    funext e
    rw [Sem.bind_eq_wrap]
  unfold forTurn
  refine sq_bind_wrap (wpAny_standAt ?_)
  refine sq_bind_wrap (wpAny_onRaise (wpAny_mono h (fun r s₁ h₁ => ?_) fun x s' hx => wpAny_standAt ?_))
  · cases r with
    | none => exact h₁
    | some v =>
      refine sq_bind_wrap (wpAny_mono h₁ (fun _ s₂ h₂ => ?_) fun x s' hx => ?_)
      · refine sq_bind_wrap (wpAny_mono h₂ (fun _ s₃ h₃ => ?_) fun x s' hx => ?_)
        · rw [Sem.bind_eq_wrap', Sem.wrap_wrap]
          rw [Sem.wrap_congr (execs body env) _ _ (K' := fun f => match f with
              | .next | .cont => .pure (.again (.forLoop tg it body [] env))
              | .brk => .pure (.done .next)
              | .ret v => .pure (.done (.ret v))) (H' := DL.noted env) (fun f => by cases f <;> rfl) (fun e => by
                show ((do noteFrame e env; theTreesLotGoes e : Sem Unit)).bind (fun _ => (Sem.raise e : Sem PySem.Fin)) = _
                rw [Sem.bind_eq_wrap])]
          exact h₃
        · rw [Sem.bind_eq_wrap]; exact hx
      · rw [Sem.bind_eq_wrap]; exact hx
  · rw [Sem.bind_eq_wrap]; exact hx
/-- behind the last turn -/
theorem sq_noElse (h : SegQ (model prog w) A Φ (.block [] env) (.pure (.done .next)) fs s) : SegQ (model prog w) A Φ (.block [] env) ((model prog w).den (.block [] env)) fs s := by
  show SegQ _ A Φ _ (((execs [] env).onRaise (fun x => do noteFrame x env; theTreesLotGoes x)) >>= fun f => pure (.done f)) fs s
  exact sq_bind (wpAny_onRaise (wpAny_execs_nil h))
theorem sq_func {body : List Stmt}
    (h : SegQ (model prog w) A Φ (.func body env) ((execs body env).wrap (fun f => .pure (.done (.ret (match f with | .ret v => v | _ => .none))))
      (fun e => (leaving env e).wrap (fun _ => .raise e) .raise id id) id id) fs s) :
    SegQ (model prog w) A Φ (.func body env) ((model prog w).den (.func body env)) fs s := by
  show SegQ _ A Φ _ (.point [] fun _ => ((execs body env).onRaise (leaving env)) >>= _) fs s
  refine sq_point ?_
  rw [Sem.onRaise_eq_wrap, Sem.bind_eq_wrap', Sem.wrap_wrap]
  rw [Sem.wrap_congr (execs body env) _ _ (K' := fun f => .pure (.done (.ret (match f with | .ret v => v | _ => .none))))
    (H' := fun e => (leaving env e).wrap (fun _ => .raise e) .raise id id) (fun f => by cases f <;> rfl)
    (fun e => by rw [Sem.bind_eq_wrap, Sem.wrap_wrap]; rfl)]
  exact h
end
section
variable {M : Model}
/-- how a generator goes on -/
def GoQ (M : Model) (A : Around) (Φ : End → Shared → Prop) (gs : GenState) (s : Shared) : Prop :=
  match gs with
  | .fresh c => SegQ M A Φ c (M.den c) [] s
  | .suspended k _ c _ fs _ => SegQ M A Φ c (k (.send .none)) fs s
  | _ => False
theorem wpAny_resumeS {A : Around} {Φ : End → Shared → Prop} {E : Value → Shared → Prop} {s : Shared} {g : Nat} {gs : GenState}
    {l : List Value} {α : Type} {k : GenResult → Sem α} {Q : α → Shared → Prop} (hg : s.gens[g]? = some gs)
    (hgo : GoQ M A Φ gs (s.setGen g .running))
    (h : ∀ e s₁, Φ e s₁ → e.quiet = true ∧ wpAny M A (k e.result) Q E (s₁.setGen g e.genState)) :
    wpAny M A (.resume g (.send .none) l k) Q E s := by
  intro Γ p hΓ
  rw [Sem.wp_resume]
  have hB : ∀ c, (Γ.wake c p).Woken A := fun c => hΓ.wake c p
  cases gs with
  | fresh c =>
    obtain ⟨e₁, s₁, hr, he⟩ := hgo (Γ.wake c p) p rfl (hB c)
    obtain ⟨hq, hk⟩ := h e₁ s₁ he
    exact ⟨_, _, by unfold Wakes; rw [hg]; exact ⟨e₁, s₁, hr, hq, rfl, rfl⟩, hk Γ p hΓ⟩
  | suspended k₀ l₀ c₀ p₀ fs₀ cl =>
    obtain ⟨e₁, s₁, hr, he⟩ := hgo (Γ.wake c₀ p) p₀ rfl (hB c₀)
    obtain ⟨hq, hk⟩ := h e₁ s₁ he
    exact ⟨_, _, by unfold Wakes; rw [hg]; exact ⟨e₁, s₁, hr, hq, rfl, rfl⟩, hk Γ p hΓ⟩
  | running => exact hgo.elim
  | finished => exact hgo.elim
end
section
variable {P : Program} {w : World} {A : Around} {E : Value → Shared → Prop} {s : Shared}
/-- next of a generator that raises nothing -/
theorem next_genS {a : Addr} {g : Nat} {gs : GenState} {Φ : End → Shared → Prop} {Q : Option Value → Shared → Prop} (hh : A.handled = none)
    (hl : s.heap.NoLimit) (hroom : A.depth < recursionLimit) (hg : s.heap.IsGen a g) (hgs : s.gens[g]? = some gs)
    (hgo : GoQ (model P w) A.in1 Φ gs (s.setGen g .running))
    (hr : ∀ r s₁, Φ (.ret r) s₁ → (r = .ok (.ret .none) ∨ r = .ok .next) ∧ ∀ h', (∀ b o, s₁.heap.get? b = some o → h'.get? b = some o) → Q none { s₁.setGen g .finished with heap := h' })
    (hy : ∀ v q l k c p fs s₁, Φ (.susp v q l k c p fs) s₁ → (End.susp v q l k c p fs).quiet = true ∧ Q (some v) (s₁.setGen g (End.susp v q l k c p fs).genState)) :
    wpAny (model P w) A (pyNext (.ref a)) Q E s := by
  unfold pyNext
  refine wpAny_bind (wpAny_attempt (wpAny_callSpecial?_slot (name := Str.ofString "__next__") hg.typeIs slot_gen_next
    (wpAny_call_entry slot_gen_next hg.typeIs entry_gen_next ?_ (args_gen_next _))))
  show wpAny _ A.in1 (Builtin.Generator.genWake (.ref a) (.send .none)) _ _ s
  unfold Builtin.Generator.genWake
  refine wpAny_bind (wpAny_holding (wpAny_genNumber hg (wpAny_bind (wpAny_genState hgs ?_))))
  cases gs with
  | running => exact hgo.elim
  | finished => exact hgo.elim
  | _ =>
    refine wpAny_bind (wpAny_roomToWake hl hroom ?_)
    show wpAny _ A.in1 (.resume g (.send .none) [] _) _ _ s
    refine wpAny_resumeS hgs hgo fun e s₁ he => ?_
    cases e with
    | ret r =>
      obtain ⟨hr, hp⟩ := hr r s₁ he
      refine ⟨rfl, ?_⟩
      have hres : End.result (.ret r) = .returned .none := by
        rcases hr with hr | hr <;> rw [hr] <;> rfl
      first | rw [hres] | simp only [hres]
      show wpAny _ A.in1 (newExc (.type "StopIteration") [] >>= _) _ _ _
      refine wpAny_bind ?_
      simp only [newExc, newTuple]
      refine wpAny_bind (wpAny_newObj_type ?_ (by size_fits))
      refine wpAny_bind (m := firstArgMember _ _) (wpAny_of_eq (a := Value.none) (by first | rfl | (simp only [firstArgMember]; rfl)) ?_)
      refine wpAny_newObj_type ?_ (by size_fits)
      simp only [raiseNew]
      refine wpAny_bind (wpAny_bind (wpAny_handled ?_))
      first | rw [show A.in1.handled = none from hh] | rw [hh]
      refine wpAny_throw ?_
      refine wpAny_bind (wpAny_isInstance (T := "StopIteration") (b := true) ⟨_, Heap.get?_push_size _ rfl, rfl⟩ isSubtype_stop ?_)
      exact wpAny_pure (hp _ fun b o hb => Heap.get?_push_of_some _ (Heap.get?_push_of_some _ hb))
    | susp v q l k c p fs =>
      obtain ⟨h1, h2⟩ := hy v q l k c p fs s₁ he
      exact ⟨h1, wpAny_pure ⟨v, rfl, wpAny_pure h2⟩⟩
end
end GenW
set_option Elab.async false
set_option linter.all false
set_option maxRecDepth 100000
set_option maxHeartbeats 4000000
namespace GenW
open PySem
theorem wpAny_wokeO {O : Array GenState} {α : Type} {M : Model} {A : Around} {x : Shared} {t : Sem α} {Q : α → Shared → Prop} {E : Value → Shared → Prop} (g : Gd O x) (h : wpAny M A t Q E x) :
    wpAny M A t (fun a s' => ∃ y, Gd O y ∧ s' = woke O y ∧ Q a y) (fun e s' => ∃ y, Gd O y ∧ s' = woke O y ∧ E e y) (woke O x) := fun Γ p hΓ => wp_woke M Γ t _ _ p x g (h Γ p hΓ)
end GenW
namespace DL
open PySem L2 PySem.Spec PySem.W PyProof.Rows GenW
def trh (n : Nat) (h : Heap) : Heap := { h with objs := h.objs.extract 0 n }
theorem ext_get (a : Array Obj) (n b : Nat) : (a.extract 0 n)[b]? = if b < n then a[b]? else none := by
  by_cases hb : b < n
  · rw [if_pos hb, Array.getElem?_extract]
    split
    · simp
    · simp
      omega
  · rw [if_neg hb]
    apply Array.getElem?_eq_none
    rw [Array.size_extract]
    omega
theorem trh_get {n : Nat} {h : Heap} {b : Addr} : (trh n h).get? b = if b < n then h.get? b else none := by
  unfold trh Heap.get?
  rw [ext_get]
  by_cases hb : b < n
  · rw [if_pos hb, if_pos hb]
  · rw [if_neg hb, if_neg hb]
theorem trh_sub {n : Nat} {h : Heap} {b : Addr} {o : Obj} (e : (trh n h).get? b = some o) : h.get? b = some o ∧ b < n := by
  rw [trh_get] at e
  by_cases hb : b < n
  · rw [if_pos hb] at e; exact ⟨e, hb⟩
  · rw [if_neg hb] at e; cases e
theorem trh_at {n : Nat} {h : Heap} {b : Addr} {o : Obj} (e : h.get? b = some o) (hb : b < n) : (trh n h).get? b = some o := by rw [trh_get, if_pos hb]; exact e
theorem trh_size {n : Nat} {h : Heap} (hn : n ≤ h.objs.size) : (trh n h).objs.size = n := by
  show (h.objs.extract 0 n).size = n
  rw [Array.size_extract]; omega
theorem trh_le {n : Nat} {h : Heap} : (trh n h).objs.size ≤ n := by
  show (h.objs.extract 0 n).size ≤ n
  rw [Array.size_extract]; omega
def tr (n : Nat) (s : Shared) : Shared := { s with heap := trh n s.heap }
theorem trh_funs {n : Nat} {h base : Heap} : ∀ {l : List Env}, h.FunFrames base l → (∀ b ∈ frs l, b < n) → (trh n h).FunFrames base l
  | [], _, _ => trivial
  | env :: r, ⟨hk, ⟨L, o, hf, hn, ho, hd⟩, hr⟩, hs => by
    have hL : L < n := hs L (by unfold frs; rw [List.filterMap_cons, hf]; exact List.mem_cons_self)
    exact ⟨hk, ⟨L, o, hf, hn, trh_at ho hL, hd⟩, trh_funs hr fun b hb => hs b (by unfold frs; rw [List.filterMap_cons, hf]; exact List.mem_cons_of_mem _ hb)⟩

theorem inv_gens {X : Cx} {pins : List (Addr × Obj)} {σ : L2.St} {H : Hp} {s : Shared} {G : Array GenState} (I : Inv X pins σ H s) (h : AllBare G) : Inv X pins σ H { s with gens := G } :=
  ⟨I.ok, I.os, h, I.base, I.loc, I.cell, I.free, I.freeC, I.pin, I.hok, I.len⟩
theorem inv_dull {X : Cx} {pins : List (Addr × Obj)} {σ : L2.St} {H : Hp} {s : Shared} (I : Inv X pins σ H s) : Inv X pins σ H (dull s) := inv_gens I (bare_dull I.bare)
theorem inv_woke {X : Cx} {pins : List (Addr × Obj)} {σ : L2.St} {H : Hp} {s : Shared} {O : Array GenState} (hO : AllBare O) (I : Inv X pins σ H s) : Inv X pins σ H (woke O s) := inv_gens I (bare_woke hO I.bare)

structure Gp where
  P : Program
  w : World
  K : PySem.W.Frag
  mg : Str → Option Value
  base : Heap
  N : List Str
  qual : Str
  scope : Scope
  f : Addr
  cd : Value
  A : Around
  outer : List Env
  n0 : Nat
  g : Nat
  go : Addr × Obj
abbrev Gp.env (G : Gp) : Env := envOfC G.qual G.scope G.n0 G.f G.cd
/-- a stretch: the state and the world at its waking -/
structure Th (M : Ghost) where
  s : Shared
  W : Wd M
section
variable {M : Ghost}
def Gp.X (G : Gp) (θ : Th M) : Cx where
  prog := G.P
  w := G.w
  K := G.K
  mg := G.mg
  base := G.base
  A := G.A.deeper G.env
  N := G.N
  s_0 := tr G.n0 θ.s
  H_0 := θ.W.H
  env := G.env
  outer := G.outer
  stack := G.env :: G.outer
  ex := []
  calm := true
  fn := fun _ => true
  pn := [G.go]
  xe := fun e s' => wpAny (model G.P G.w) (G.A.deeper G.env) (leaving G.env e) (fun _ _ => False) (fun _ _ => False) s'
def Gp.C (G : Gp) (θ : Th M) : Ct M := ⟨G.X θ, θ.W, xno, θ.W⟩
/-- the walker has left all as it must -/
structure Wk (G : Gp) (fx : List (Addr × Obj)) (kg : List (Nat × GenState)) (W : Wd M) (s s' : Shared) (W' : Wd M) : Prop where
  bare : AllBare s'.gens
  kg : ∀ p ∈ kg, s'.gens[p.1]? = some p.2
  gg : G.g < s'.gens.size
  gs : Gs W W'
  ok : Wok G.K W'
  hok : HOk G.P G.w W'.H s'.heap
  fx : ∀ p ∈ fx, s'.heap.get? p.1 = some p.2 ∧ W'.H p.1 = none
  bs : ∀ b o, G.base.get? b = some o → s'.heap.get? b = some o ∧ W'.H b = none
  funs : s'.heap.FunFrames G.base G.outer
  frf : ∀ b ∈ frs G.outer, W'.H b = none
/-- behind a stretch -/
structure Aft (G : Gp) (W0 : Wd M) (s0 : Shared) (W : Wd M) (s : Shared) : Prop where
  go : Go W0 W
  gg : W.g = W0.g
  ok : Wok G.K W
  os : s.os = s0.os
  bare : AllBare s.gens
  un : Un (frs G.outer) [] W0.H W.H (trh G.n0 s0.heap) s.heap
  hok : HOk G.P G.w W.H s.heap
  gz : s0.gens.size ≤ s.gens.size
/-- a stretch's end: xs is what it hands out, j of them are out -/
def EndOk (G : Gp) (xs : List D) : Nat → Wd M → Shared → Nat → End → Shared → Prop
  | 0 => fun W0 s0 j e s => match e with
    | .ret r => (r = .ok (.ret .none) ∨ r = .ok .next) ∧ j = xs.length ∧ ∃ W, Aft G W0 s0 W s
    | .susp .. => False
  | m + 1 => fun W0 s0 j e s => match e with
    | .ret r => (r = .ok (.ret .none) ∨ r = .ok .next) ∧ j = xs.length ∧ ∃ W, Aft G W0 s0 W s
    | .susp v q l k c p fs => (End.susp v q l k c p fs).quiet = true ∧ ∃ (x : V) (d : D) (W : Wd M) (fx : List (Addr × Obj)) (kg : List (Nat × GenState)),
      xs[j]? = some d ∧ RelV x v ∧ Rp G.K W.F W.R x d ∧ Aft G W0 s0 W s ∧ (∀ p ∈ fx, s.heap.get? p.1 = some p.2 ∧ W.H p.1 = none ∧ G.n0 ≤ p.1 ∧ ∀ v, p.2.data ≠ .cell v) ∧ G.go ∈ fx ∧
      (∀ p ∈ kg, slp p.2 = true ∧ s.gens[p.1]? = some p.2 ∧ G.g < p.1) ∧
      ∀ s' W', Wk G fx kg W s s' W' → SegQ (model G.P G.w) G.A (EndOk G xs m W' s' (j + 1)) c (k (.send .none)) fs s'
/-- running -/
structure Rn (G : Gp) (θ : Th M) (ip : List (Addr × Obj)) (kg : List (Nat × GenState)) (σ : L2.St) (ρ : DEnv) (W : Wd M) (s : Shared) : Prop where
  inv : Inv (G.X θ) ip σ W.H s
  sat : Sat (G.C θ) σ ρ W
  ipn : ∀ p ∈ ip, G.n0 ≤ p.1
  kg : ∀ p ∈ kg, slp p.2 = true ∧ s.gens[p.1]? = some p.2 ∧ G.g < p.1
  gz : θ.s.gens.size ≤ s.gens.size
  gg : G.g < s.gens.size
  tz : G.n0 ≤ θ.s.heap.objs.size
structure Gok (G : Gp) : Prop where
  nocell : ∀ x c, G.env.cells.lookup x = some c → False
  out : ∀ b ∈ frs G.outer, b < G.n0
  go : G.n0 ≤ G.go.1
  hd : G.A.handled = none
/-- nothing of one's own that could change -/
def noOwn (ρ : DEnv) : Prop := ∀ s ∈ ρ, s.isOwn = false
@[simp] theorem noOwn_nil : noOwn [] := fun _ h => nomatch h
@[simp] theorem noOwn_no {ρ : DEnv} : noOwn (.no :: ρ) ↔ noOwn ρ := ⟨fun h s hs => h s (List.mem_cons_of_mem _ hs), fun h s hs => (List.mem_cons.mp hs).elim (fun e => by rw [e]; rfl) (h s)⟩
@[simp] theorem noOwn_im {d : D} {ρ : DEnv} : noOwn (.im d :: ρ) ↔ noOwn ρ := ⟨fun h s hs => h s (List.mem_cons_of_mem _ hs), fun h s hs => (List.mem_cons.mp hs).elim (fun e => by rw [e]; rfl) (h s)⟩
variable {G : Gp} {θ θ' : Th M} {ip : List (Addr × Obj)} {kg : List (Nat × GenState)} {σ σ' : L2.St} {ρ ρ' : DEnv} {W W' W1 : Wd M} {s s' : Shared}
theorem Rn.aft (R : Rn G θ ip kg σ ρ W s) (e : W.g = θ.W.g) : Aft G θ.W θ.s W s :=
  ⟨R.sat.go, e, R.sat.ok, R.inv.os, R.inv.bare, R.inv.base, R.inv.hok, R.gz⟩
theorem Rn.locals (R : Rn G θ ip kg σ ρ W s) : ∃ oL, s.heap.get? G.env.locals = some oL ∧ ∀ v, oL.data ≠ .cell v := by
  obtain ⟨m, ⟨o, es, ep, ho, hd, _⟩, _⟩ := R.inv.loc
  exact ⟨o, ho, fun v z => by rw [hd] at z; cases z⟩
/-- woken again -/
theorem Rn.wake (gk : Gok G) (R : Rn G θ ip kg σ ρ W s) (no : noOwn ρ) {oL : Obj} (hL : s.heap.get? G.env.locals = some oL) (z : Wk G ((G.env.locals, oL) :: G.go :: ip) kg W s s' W') : Rn G ⟨s', W'⟩ ip kg σ ρ W' s' := by
  have I := R.inv
  have hL' := (z.fx _ List.mem_cons_self).1
  have hn : G.n0 ≤ s'.heap.objs.size := Nat.le_of_lt (Heap.lt_size hL')
  have bsz : G.base.objs.size ≤ G.n0 := Nat.le_trans I.ok.bsz trh_le
  have blt : ∀ b o, G.base.get? b = some o → b < G.n0 := fun b o e => Nat.lt_of_lt_of_le (Heap.lt_size e) bsz
  refine ⟨⟨⟨I.ok.mod, I.ok.kind, I.ok.glob, I.ok.blt, trh_le, I.ok.inj, I.ok.has, fun x c _ e => (gk.nocell x c e).elim, I.ok.hd, I.ok.frames, I.ok.stk, I.ok.exf, fun b o e => ⟨trh_at (z.bs b o e).1 (blt b o e), (z.bs b o e).2⟩, ?_, I.ok.noex, I.ok.exfs, trh_funs z.funs gk.out, z.frf⟩,
    rfl, z.bare, Un.kept fun b o e => (trh_sub e).1, ?_, fun x c e => (gk.nocell x c e).elim, (z.fx _ List.mem_cons_self).2, fun x c e => (gk.nocell x c e).elim, fun p hp => ?_, z.hok, I.len⟩,
    ⟨z.ok, Go.refl _, R.sat.len, fun i t e => ?_, fun i j t u q e1 e2 o1 o2 => ?_, Gs.refl _⟩, R.ipn, fun p hp => ⟨(R.kg p hp).1, z.kg p hp, (R.kg p hp).2.2⟩, Nat.le_refl _, z.gg, hn⟩
  · show G.base.objs.size ≤ (trh G.n0 s'.heap).objs.size
    rw [trh_size hn]; exact bsz
  · obtain ⟨m, ⟨o, es, ep, ho, hd, h3⟩, hl⟩ := I.loc
    have ho' : s.heap.get? G.env.locals = some o := ho
    rw [hL] at ho'
    cases ho'
    refine ⟨m, ⟨_, es, ep, hL', hd, h3⟩, fun i x v e1 e2 e3 => ?_⟩
    obtain ⟨u, r, l⟩ := hl i x v e1 e2 e3
    rcases l with l | ⟨_, c, e, _⟩
    · exact ⟨u, r, .inl l⟩
    · exact (gk.nocell x c e).elim
  · obtain ⟨e, n, ne, nf, d⟩ := I.pin p hp
    have hm : p ∈ (G.env.locals, oL) :: G.go :: ip := by
      refine List.mem_cons_of_mem _ ?_
      rcases List.mem_append.mp hp with h | h
      · rw [List.mem_singleton.mp h]; exact List.mem_cons_self
      · exact List.mem_cons_of_mem _ h
    exact ⟨(z.fx p hm).1, (z.fx p hm).2, ne, nf, d⟩
  · obtain ⟨o, h1, h2⟩ := R.sat.sl i t e
    refine ⟨o, h1, ?_⟩
    cases t with
    | no => trivial
    | im d =>
      obtain ⟨v, e, r⟩ := h2
      exact ⟨v, e, r.gs z.gs⟩
    | own ds => exact absurd (no _ (List.mem_of_getElem? e)) (fun z => nomatch z)
    | odt ds => exact absurd (no _ (List.mem_of_getElem? e)) (fun z => nomatch z)
  · exact absurd (no _ (List.mem_of_getElem? e1)) (by rw [o1]; decide)
/-- what is wanted behind a statement: by how much is out, by the ghost at the last waking -/
structure Y5 (M : Ghost) where
  nx : Nat → M.G → DEnv → M.G → Prop
  bk : Nat → M.G → DEnv → M.G → Prop
  ct : Nat → M.G → DEnv → M.G → Prop
abbrev ZW (M : Ghost) := Y5 M → Nat → M.G → DEnv → M.G → Prop
def FlK (k : Y5 M) (f : Flow) (j : Nat) (g0 : M.G) (ρ : DEnv) (g : M.G) : Prop := match f with
  | .next => k.nx j g0 ρ g
  | .brk => k.bk j g0 ρ g
  | .cont => k.ct j g0 ρ g
  | .ret _ => False
structure GCt (G : Gp) (c : Code) (fs : List Frame) (gd : Bool → Bool) : Prop where
  over : G.A.over c fs = G.A.deeper G.env
  split : splitAtGen fs = none
  guard : fs.any Frame.guarded = false
  gd : gd false = false
/-- what follows -/
def KOk (G : Gp) (xs : List D) (ip : List (Addr × Obj)) (kg : List (Nat × GenState)) (W : Wd M) (k : Y5 M) (c : Code) (fs : List Frame) (Kc : Flow → Sem PySem.Fin) : Prop :=
  ∀ (θ' : Th M) (m' j' : Nat) (σ' : L2.St) (ρ' : DEnv) (W' : Wd M) (s' : Shared) (f : Flow), m' + j' = xs.length → Rn G θ' ip kg σ' ρ' W' s' → Gs W W' → FlK k f j' θ'.W.g ρ' W'.g →
    SegQ (model G.P G.w) G.A (EndOk G xs m' θ'.W θ'.s j') c (Kc f) fs s'
structure DZ (M : Ghost) (G : Gp) (xs : List D) (b : Bool) (st : Stmt) (w : ZW M) : Prop where
  run : ∀ (θ : Th M) (ip : List (Addr × Obj)) (kg : List (Nat × GenState)) (σ : L2.St) (ρ : DEnv) (W : Wd M) (s : Shared) (m j : Nat) (k : Y5 M) (c : Code) (fs : List Frame) (Kc : Flow → Sem PySem.Fin) (J : Value → Sem PySem.Fin) (gd : Bool → Bool) (lv : List Value → List Value),
    (b = false → kg = []) → Gok G → GCt G c fs gd → m + j = xs.length → Rn G θ ip kg σ ρ W s → KOk G xs ip kg W k c fs Kc → w k j θ.W.g ρ W.g →
    SegQ (model G.P G.w) G.A (EndOk G xs m θ.W θ.s j) c ((exec st G.env).wrap Kc J gd lv) fs s
structure DZs (M : Ghost) (G : Gp) (xs : List D) (b : Bool) (st : List Stmt) (w : ZW M) : Prop where
  run : ∀ (θ : Th M) (ip : List (Addr × Obj)) (kg : List (Nat × GenState)) (σ : L2.St) (ρ : DEnv) (W : Wd M) (s : Shared) (m j : Nat) (k : Y5 M) (c : Code) (fs : List Frame) (Kc : Flow → Sem PySem.Fin) (J : Value → Sem PySem.Fin) (gd : Bool → Bool) (lv : List Value → List Value),
    (b = false → kg = []) → Gok G → GCt G c fs gd → m + j = xs.length → Rn G θ ip kg σ ρ W s → KOk G xs ip kg W k c fs Kc → w k j θ.W.g ρ W.g →
    SegQ (model G.P G.w) G.A (EndOk G xs m θ.W θ.s j) c ((execs st G.env).wrap Kc J gd lv) fs s
theorem KOk.step {xs : List D} {k : Y5 M} {c : Code} {fs : List Frame} {Kc : Flow → Sem PySem.Fin} (h : KOk G xs ip kg W k c fs Kc) (g : Gs W W1) : KOk G xs ip kg W1 k c fs Kc :=
  fun θ' m' j' σ' ρ' W' s' f hm R gs hf => h θ' m' j' σ' ρ' W' s' f hm R (g.trans gs) hf
theorem kg_woke {x : Shared} (h : ∀ p ∈ kg, slp p.2 = true ∧ s.gens[p.1]? = some p.2 ∧ G.g < p.1) (g : Gd s.gens x) : ∀ p ∈ kg, slp p.2 = true ∧ (woke s.gens x).gens[p.1]? = some p.2 ∧ G.g < p.1 := fun p hp =>
  let ⟨h1, h2, h3⟩ := h p hp
  ⟨h1, kept_woke g _ _ h1 h2, h3⟩
theorem woke_size {O : Array GenState} {x : Shared} : (woke O x).gens.size = x.gens.size := wokeA_size
/-- behind a stretch of plain code, with the sleepers as they were -/
theorem Rn.to (R : Rn G θ ip kg σ ρ W s) {x : Shared} (g : Gd s.gens x) (I : Inv (G.X θ) ip σ' W'.H x) (S : Sat (G.C θ) σ' ρ' W') : Rn G θ ip kg σ' ρ' W' (woke s.gens x) :=
  ⟨inv_woke R.inv.bare I, S, R.ipn, kg_woke R.kg g, by rw [woke_size]; exact Nat.le_trans R.gz g.sz, by rw [woke_size]; exact Nat.lt_of_lt_of_le R.gg g.sz, R.tz⟩
/-- an exception can't be -/
theorem sq_xe {Φ : End → Shared → Prop} {c : Code} {fs : List Frame} {t : Sem PySem.Fin} {e : Value} {s1 : Shared} (h : G.A.over c fs = G.A.deeper G.env) (hx : (G.X θ).xe e s1) : SegQ (model G.P G.w) G.A Φ c t fs s :=
  sq_false (m := leaving G.env e) (s' := s1) (by rw [h]; exact hx)
variable {xs : List D} {b : Bool} {st : Stmt} {sts a a' : List Stmt} {w u v : ZW M} {pos yp : Pos} {e : Expr}
@[simp] def zYield (xs : List D) (we : EW M) : ZW M := fun k j g0 ρ g => we ρ g fun d g' => xs[j]? = some d ∧ g' = g0 ∧ noOwn ρ ∧ ∀ g'', k.nx (j + 1) g'' ρ g''
@[simp] def zIf (c : TW M) (w u : ZW M) : ZW M := fun k j g0 ρ g => c ρ g fun b g' => if b = true then w k j g0 ρ g' else u k j g0 ρ g'
theorem dzs_one (h1 : DZ M G xs b st w) : DZs M G xs b [st] w := ⟨fun θ ip kg σ ρ W s m j k c fs Kc J gd lv hb gk gc hm R l h => by
  refine sq_execs_cons (h1.run θ ip kg σ ρ W s m j k c fs _ J gd lv hb gk gc hm R (fun θ' m' j' σ' ρ' W' s' f hm' R' g' hf => ?_) h)
  cases f with
  | next => exact sq_execs_nil (l θ' m' j' σ' ρ' W' s' .next hm' R' g' hf)
  | brk => exact l θ' m' j' σ' ρ' W' s' .brk hm' R' g' hf
  | cont => exact l θ' m' j' σ' ρ' W' s' .cont hm' R' g' hf
  | ret v => exact hf.elim⟩
theorem dz_if {cnd : Expr} {wc : TW M} (hc : ∀ θ : Th M, DT (G.C θ) cnd wc) (ha : DZs M G xs b a w) (hb' : DZs M G xs b a' u) : DZ M G xs b (.If cnd a a' pos) (zIf wc w u) := ⟨fun θ ip kg σ ρ W s m j k c fs Kc J gd lv hb gk gc hm R l h => by
  rw [exec_If]
  refine sq_bind_wrap (wpAny_standAt (sq_bind_wrap ?_))
  rw [gc.over]
  refine wpAny_mono (wpAny_woke ((hc θ).run σ ρ W (fun d H' => ∃ W' : Wd M, W'.H = H' ∧ Go W W' ∧ Wok G.K W' ∧ (if d = true then w k j θ.W.g ρ W'.g else u k j θ.W.g ρ W'.g)) _ R.sat (fun d W' g ok q => ⟨W', rfl, g, ok, q⟩) h ip (dull s) (inv_dull R.inv))) (fun d s1 ⟨x, gx, e, q⟩ => ?_) fun y s' ⟨x, _, _, q⟩ => sq_xe gc.over q
  subst e
  obtain ⟨H1, I1, W', rfl, g, ok, q1⟩ := q
  have R1 := R.to gx I1 (R.sat.step g ok)
  cases d with
  | true => exact ha.run θ ip kg σ ρ W' _ m j k _ fs Kc J gd lv hb gk gc hm R1 (l.step g.s) q1
  | false => exact hb'.run θ ip kg σ ρ W' _ m j k _ fs Kc J gd lv hb gk gc hm R1 (l.step g.s) q1⟩
theorem dz_yield {we : EW M} (he : ∀ θ : Th M, DE (G.C θ) e we) (hco : G.scope.isCoroutine = false := by rfl) (hi : interactive G.env = false := by rfl) : DZ M G xs b (.Expr (.Yield (some e) yp) pos) (zYield xs we) := ⟨fun θ ip kg σ ρ W s m j k c fs Kc J gd lv hb gk gc hm R l h => by
  refine sq_Expr_Yield gc.split gc.gd ?_ hco hi
  rw [gc.over]
  refine wpAny_mono (wpAny_woke ((he θ).run σ ρ W (fun v H' => ∃ (d : D) (W' : Wd M), W'.H = H' ∧ Go W W' ∧ Wok G.K W' ∧ Rp G.K W'.F W'.R v d ∧ xs[j]? = some d ∧ W'.g = θ.W.g ∧ noOwn ρ ∧ ∀ g'', k.nx (j + 1) g'' ρ g'') _ R.sat (fun v d W' g ok r q => ⟨d, W', rfl, g, ok, r, q⟩) h ip (dull s) (inv_dull R.inv))) (fun v s1 ⟨x, gx, e, q⟩ => ?_) fun y s' ⟨x, _, _, q⟩ => sq_xe gc.over q
  subst e
  obtain ⟨y, H1, I1, rv, d, W1, rfl, g, ok, r, hx, hg, no, hk⟩ := q
  have R1 := R.to gx I1 (R.sat.step g ok)
  have hj : j < xs.length := (List.getElem?_eq_some_iff.mp hx).1
  obtain ⟨m, rfl⟩ : ∃ m', m = m' + 1 := ⟨m - 1, by omega⟩
  intro κ gq lq p hgq hκ
  obtain ⟨oL, hL, hLc⟩ := R1.locals
  refine ⟨?_, y, d, W1, (G.env.locals, oL) :: G.go :: ip, kg, hx, rv, r, R1.aft hg, fun p hp => ?_, List.mem_cons_of_mem _ List.mem_cons_self, R1.kg, fun s' W' z => ?_⟩
  · show (!(gq || fs.any Frame.guarded)) = true
    rw [hgq, gc.guard]; rfl
  · rcases List.mem_cons.mp hp with h | h
    · subst h
      exact ⟨hL, R1.inv.free, Nat.le_refl _, hLc⟩
    · have hm : p ∈ [G.go] ++ ip := by
        rcases List.mem_cons.mp h with h | h
        · exact List.mem_append_left _ (List.mem_singleton.mpr h)
        · exact List.mem_append_right _ h
      obtain ⟨h1, h2, _, _, h5⟩ := R1.inv.pin p hm
      refine ⟨h1, h2, ?_, h5⟩
      rcases List.mem_cons.mp h with h | h
      · rw [h]; exact gk.go
      · exact R.ipn p h
  · refine hκ _ _ ?_
    exact l ⟨s', W'⟩ m (j + 1) σ ρ W' s' .next (by omega) (R1.wake gk no hL z) (g.s.trans z.gs) (hk W'.g)⟩
end
end DL
set_option Elab.async false
set_option linter.all false
set_option maxRecDepth 100000
set_option maxHeartbeats 4000000
namespace DL
open PySem L2 PySem.Spec PySem.W PyProof.Rows GenW
section
variable {M : Ghost} {G : Gp} {θ θ' : Th M} {ip : List (Addr × Obj)} {kg : List (Nat × GenState)} {σ σ' : L2.St} {ρ ρ' : DEnv} {W W' W1 : Wd M} {s s' : Shared} {xs : List D} {b : Bool} {pos : Pos}
def forZ (gw : GW) (wb : ZW M) : List D → ZW M
  | [], k => k.nx
  | x :: ys, k => fun j g0 ρ g => gw x ρ fun ρ' => wb { nx := forZ gw wb ys k, bk := k.nx, ct := forZ gw wb ys k } j g0 ρ' g
@[simp] def zFor (wi : IW M) (gw : GW) (wb : ZW M) : ZW M := fun k j g0 ρ g => wi ρ g fun ys g' => forZ gw wb ys k j g0 ρ g'
theorem Rn.pins {ip' : List (Addr × Obj)} (R : Rn G θ ip kg σ ρ W s) (h : ∀ p ∈ ip', s.heap.get? p.1 = some p.2 ∧ W.H p.1 = none ∧ p.1 ≠ G.env.locals ∧ p.1 ∉ frs G.outer ∧ (∀ v, p.2.data ≠ .cell v) ∧ G.n0 ≤ p.1) : Rn G θ ip' kg σ ρ W s :=
  ⟨R.inv.pins_of fun p hp => let ⟨h1, h2, h3, h4, h5, _⟩ := h p hp; ⟨h1, h2, h3, h4, h5⟩, R.sat, fun p hp => (h p hp).2.2.2.2.2, R.kg, R.gz, R.gg, R.tz⟩
theorem Rn.unpin {il : List (Addr × Obj)} (R : Rn G θ (ip ++ il) kg σ ρ W s) : Rn G θ ip kg σ ρ W s :=
  ⟨R.inv.unpinned, R.sat, fun p hp => R.ipn p (List.mem_append_left _ hp), R.kg, R.gz, R.gg, R.tz⟩
theorem gct_loop {c c' : Code} {fs : List Frame} {gd : Bool → Bool} {k : Result → Sem PySem.Fin} {l kp : List Value} {p : Pos} (g : GCt G c fs gd) (hw : c'.weight = 0) (hu : c'.cUnits = 0) : GCt G c' (.ret k none (gd false) l c p kp :: fs) id where
  over := (over_loop hw hu).trans g.over
  split := by
    show (splitAtGen fs).map _ = none
    rw [g.split]; rfl
  guard := by
    show (gd false || fs.any Frame.guarded) = false
    rw [g.gd, g.guard]; rfl
  gd := rfl
/-- what stays true of an iterator's objects, whatever the stretch is -/
structure FpG (G : Gp) (ip : List (Addr × Obj)) (b : Addr) : Prop where
  ne : b ≠ G.env.locals
  nf : b ∉ frs G.outer
  n0 : G.n0 ≤ b
  cell : ∀ x c, G.env.cells.lookup x = some c → c ≠ b
  pn : ∀ p ∈ [G.go] ++ ip, p.1 ≠ b
theorem fpG_of {H : Hp} (hz : G.n0 ≤ θ.s.heap.objs.size) {b : Addr} (h : FpOk (G.X θ) ip H b) : FpG G ip b := by
  obtain ⟨_, f1, f2, f3, f4, f5⟩ := h
  refine ⟨f1, f2, ?_, f4, f5⟩
  rcases f3 with z | z
  · exact absurd (show b ∈ ([] : List Addr) from z) (by simp)
  · have : (trh G.n0 θ.s.heap).objs.size ≤ b := z
    rw [trh_size hz] at this
    exact this
theorem FpG.ok {H : Hp} {b : Addr} (h : FpG G ip b) (hn : H b = none) : FpOk (G.X θ) ip H b := ⟨hn, h.ne, h.nf, .inr (Nat.le_trans trh_le h.n0), h.cell, h.pn⟩
theorem dz_for {tg iter : Expr} {body : List Stmt} {is : List Nat} {wi : IW M} {gw : GW} {wb : ZW M} (hi : ∀ θ : Th M, DI (G.C θ) tg iter wi) (hg : ∀ θ : Th M, DG (G.C θ) is tg gw) (hb' : DZs M G xs b body wb)
    (hs : ∀ x, foldedSetIterable iter G.env x = pure x := by intro _; rfl) : DZ M G xs b (.For tg iter body [] pos) (zFor wi gw wb) := ⟨fun θ ip kg σ ρ W s m j k c fs Kc J gd lv hb gk gc hm R l h => by
  refine sq_for hs ?_
  rw [gc.over]
  have Iw := (hi θ).run σ ρ W (fun It H' => ∃ (ds : List D) (W' : Wd M), W'.H = H' ∧ Go W W' ∧ Wok G.K W' ∧ WK G.K W' It ds ∧ forZ gw wb ds k j θ.W.g ρ W'.g) _ R.sat (fun It ds W' g ok wk q => ⟨ds, W', rfl, g, ok, wk, q⟩) h ip (dull s) (inv_dull R.inv)
  refine wpAny_mono (wpAny_woke Iw) (fun v s1 ⟨x1, gx1, e1, q1⟩ => ?_) fun y s' ⟨x, _, _, q⟩ => sq_xe gc.over q
  subst e1
  refine wpAny_mono (wpAny_wokeO gx1 q1) (fun itv s2 ⟨x2, gx2, e2, q2⟩ => ?_) fun y s' ⟨x, _, _, q⟩ => sq_xe gc.over q
  subst e2
  obtain ⟨it, fp, tn, It, H2, rfl, I2, T, st2, f2, ds, W1, rfl, g1, ok1, wk, q1⟩ := q2
  have R1 := R.to gx2 I2 (R.sat.step g1 ok1)
  have fpg : ∀ b ∈ fp, FpG G ip b := fun b hb => fpG_of R.tz (f2 b hb)
  intro p
  have gl := fun (kk : Result → Sem PySem.Fin) => gct_loop (k := kk) (c' := .forLoop tg (.ref it) body [] G.env) (l := lv []) (kp := []) (p := p) gc rfl rfl
  have loop : ∀ (r i : Nat) (θ : Th M) (m j : Nat) (σ : L2.St) (ρ : DEnv) (W : Wd M) (s : Shared), r + i = ds.length → m + j = xs.length → Rn G θ ip kg σ ρ W s → Gs W1 W → tn i s.heap → (∀ b ∈ fp, W.H b = none) → forZ gw wb (ds.drop i) k j θ.W.g ρ W.g →
      SegQ (model G.P G.w) G.A (EndOk G xs m θ.W θ.s j) (.forLoop tg (.ref it) body [] G.env) ((model G.P G.w).den (.forLoop tg (.ref it) body [] G.env))
        (.ret (fun r => ((match r with | .ok f => (.pure f : Sem Flow) | .error e => .raise e).onRaise (cameBack G.env)).wrap Kc J gd lv) none (gd false) (lv []) c p [] :: fs) s := by
    intro r
    induction r with
    | zero =>
      intro i θ m j σ ρ W s hi hm R gs st fr q
      have hd : ds[i]? = none := List.getElem?_eq_none (by omega)
      have ed : ds.drop i = [] := List.drop_eq_nil_of_le (by omega)
      rw [ed] at q
      refine sq_forTurn ?_
      rw [(gl _).over]
      refine wpAny_mono (wpAny_woke (T.done (G.X θ) rfl rfl rfl rfl i ip (dull s) σ W.H (G.X θ).xe (inv_dull R.inv) (fun b hb => (fpg b hb).ok (fr b hb)) st (wk.stop i W gs R.sat.ok hd))) (fun rr s4 ⟨x, gx, e, hr, I4⟩ => ?_) fun y s' ⟨x, _, _, q⟩ => sq_xe (gl _).over q
      subst e hr
      exact sq_again rfl (sq_noElse (sq_leaf (.ok .next) (l θ m j σ ρ W _ .next hm (R.to gx I4 R.sat) (g1.s.trans gs) q)))
    | succ r ih =>
      intro i θ m j σ ρ W s hi hm R gs st fr q
      have hlt : i < ds.length := by omega
      have hd : ds[i]? = some ds[i] := List.getElem?_eq_getElem hlt
      rw [List.drop_eq_getElem_cons hlt] at q
      obtain ⟨go, yld⟩ := wk.go i W ds[i] gs R.sat.ok hd
      refine sq_forTurn ?_
      rw [(gl _).over]
      refine wpAny_mono (wpAny_woke (T.item (G.X θ) rfl rfl rfl rfl i ip (dull s) σ W.H (G.X θ).xe (inv_dull R.inv) (fun b hb => (fpg b hb).ok (fr b hb)) st go)) (fun rr s4 ⟨x4, gx4, e4, u, hr, h4⟩ => ?_) fun y s' ⟨x, _, _, q⟩ => sq_xe (gl _).over q
      subst e4 hr
      refine wpAny_mono (wpAny_wokeO gx4 h4) (fun _ s5 ⟨x5, gx5, e5, h5⟩ => ?_) fun y s' ⟨x, _, _, q⟩ => sq_xe (gl _).over q
      subst e5
      obtain ⟨x, H5, I5, r5, y5, st5, fr5⟩ := h5
      obtain ⟨W3, rfl, g3, k3, e3, r3⟩ := yld x H5 y5
      have R5 := R.to gx5 I5 (R.sat.step g3 k3)
      have I5' := Inv.pinned I5 (fun b hb => (fpg b hb).ok (fr5 b hb)) (T.obj _ _ st5)
      rw [← e3] at q
      have Aw := (hg θ).run σ ρ W3 x ds[i] (fun σ' H' => ∃ ρ' : DEnv, H' = W3.H ∧ Sat (G.C θ) σ' ρ' W3 ∧ wb { nx := forZ gw wb (ds.drop (i + 1)) k, bk := k.nx, ct := forZ gw wb (ds.drop (i + 1)) k } j θ.W.g ρ' W3.g) _ (R.sat.step g3 k3) r3 (fun σ' ρ' S' _ _ q' => ⟨ρ', rfl, S', q'⟩) q
      refine wpAny_mono (wpAny_wokeO gx5 (Aw _ _ u I5' r5)) (fun _ s6 ⟨x6, gx6, e6, h6⟩ => ?_) fun y s' ⟨x, _, _, q⟩ => sq_xe (gl _).over q
      subst e6
      obtain ⟨σ6, H6, I6, ρ6, rfl, S6, q6⟩ := h6
      have R6 : Rn G θ (ip ++ pinsAt fp x5.heap) kg σ6 ρ6 W3 (woke s.gens x6) :=
        ⟨inv_woke R.inv.bare I6, S6, fun p hp => (List.mem_append.mp hp).elim (R.ipn p) fun z => (fpg _ (of_pinsAt z).1).n0, kg_woke R.kg gx6, by rw [woke_size]; exact Nat.le_trans R.gz gx6.sz, by rw [woke_size]; exact Nat.lt_of_lt_of_le R.gg gx6.sz, R.tz⟩
      have g13 : Gs W1 W3 := gs.trans g3.s
      refine hb'.run θ (ip ++ pinsAt fp x5.heap) kg σ6 ρ6 W3 _ m j { nx := forZ gw wb (ds.drop (i + 1)) k, bk := k.nx, ct := forZ gw wb (ds.drop (i + 1)) k } _ _ _ _ id id hb gk (gl _) hm R6 (fun θ' m' j' σ' ρ' W' s' f hm' R' g' hf => ?_) q6
      have fp' : ∀ b ∈ fp, ∀ o, x5.heap.get? b = some o → s'.heap.get? b = some o ∧ W'.H b = none := fun b hb o e => by
        have z := R'.inv.pin (b, o) (List.mem_append_right _ (List.mem_append_right _ (mem_pinsAt hb e)))
        exact ⟨z.1, z.2.1⟩
      have again : forZ gw wb (ds.drop (i + 1)) k j' θ'.W.g ρ' W'.g → SegQ (model G.P G.w) G.A (EndOk G xs m' θ'.W θ'.s j') (.forLoop tg (.ref it) body [] G.env) (.pure (.again (.forLoop tg (.ref it) body [] G.env)))
          (.ret (fun r => ((match r with | .ok f => (.pure f : Sem Flow) | .error e => .raise e).onRaise (cameBack G.env)).wrap Kc J gd lv) none (gd false) (lv []) c p [] :: fs) s' := fun q' =>
        sq_again rfl (ih (i + 1) θ' m' j' σ' ρ' W' s' (by omega) hm' R'.unpin (g13.trans g') (T.keep _ _ _ st5 fun b hb o e => (fp' b hb o e).1) (fun b hb => by
          obtain ⟨o, e, _⟩ := T.obj _ _ st5 b hb
          exact (fp' b hb o e).2) q')
      cases f with
      | next => exact again hf
      | cont => exact again hf
      | brk => exact sq_leaf (.ok .next) (l θ' m' j' σ' ρ' W' s' .next hm' R'.unpin ((g1.s.trans g13).trans g') hf)
      | ret v => exact hf.elim
  exact loop ds.length 0 θ m j σ ρ W1 _ rfl hm R1 (Gs.refl _) st2 (fun b hb => (f2 b hb).1) q1⟩
end
end DL
set_option Elab.async false
set_option linter.all false
set_option maxRecDepth 100000
set_option maxHeartbeats 4000000
namespace DL
open PySem L2 PySem.Spec PySem.W PyProof.Rows GenW
abbrev gzp (P : Program) (w : World) (K : PySem.W.Frag) (mg : Str → Option Value) (base : Heap) (outer : List Env) (n0 g : Nat) (N : List Str) (qual : Str) (scope : Scope) (f : Addr) (cd : Value) (go : Addr × Obj) (A : Around) : Gp :=
  ⟨P, w, K, mg, base, N, qual, scope, f, cd, A, outer, n0, g, go⟩
section
variable {M : Ghost}
/-- a generator that has not begun -/
def GzMade (P : Program) (w : World) (K : PySem.W.Frag) (mg : Str → Option Value) (base : Heap) (k : Nat) (outer : List Env) (s : Shared) (W : Wd M) (q : List D → Prop) (u : Value) (s' : Shared) : Prop :=
  ∃ (N : List Str) (qual : Str) (scope : Scope) (f : Addr) (cd : Value) (go : Addr × Obj) (c : Code) (xs : List D) (fx : List (Addr × Obj)),
    u = .ref go.1 ∧ q xs ∧ go ∈ fx ∧ (∀ h : Heap, h.get? go.1 = some go.2 → h.IsGen go.1 s.gens.size) ∧ s'.gens = s.gens.push (.fresh c) ∧ s'.os = s.os ∧ (∀ b o, s.heap.get? b = some o → s'.heap.get? b = some o) ∧
    (∀ p ∈ fx, s'.heap.get? p.1 = some p.2 ∧ s.heap.objs.size ≤ p.1 ∧ ∀ v, p.2.data ≠ .cell v) ∧
    ∀ (A : Around) (s2 : Shared) (W2 : Wd M), Room k A → A.frames = some outer → W2.g = W.g → Wk (gzp P w K mg base outer s.heap.objs.size s.gens.size N qual scope f cd go A) fx [] W s' s2 W2 →
      SegQ (model P w) A (EndOk (gzp P w K mg base outer s.heap.objs.size s.gens.size N qual scope f cd go A) xs xs.length W2 s2 0) c ((model P w).den c) [] s2
abbrev GSpZ (M : Ghost) := List D → M.G → (List D → Prop) → Prop
/-- a generator def's promise: what it hands out, by its arguments -/
structure GzFn (P : Program) (w : World) (K : PySem.W.Frag) (mg : Str → Option Value) (base : Heap) (k : Nat) (f : Addr) (fd : FuncData) (ps : List Str) (sp : GSpZ M) : Prop where
  run : ∀ (A : Around) (outer : List Env) (s : Shared) (W : Wd M) (args : Args) (us : List Value) (vs : List V) (ds : List D) (q : List D → Prop), Room k A → Env0 P w K mg base A outer s W.H → Wok K W → BindsTo s fd args (ps.zip us) → Vals vs us → RpA K W.F W.R vs ds →
    ds.length = ps.length → sp ds W.g q → codeAny (model P w) A (.call (.ref f) args) (fun r s' => match r with | .ok (.ret u) => GzMade P w K mg base k outer s W q u s' | _ => False) s
structure GzB (P : Program) (w : World) (K : PySem.W.Frag) (mg : Str → Option Value) (base : Heap) (k : Nat) (x : Str) (ps : List Str) (sp : GSpZ M) : Prop where
  ex : ∃ (f : Addr) (fd : FuncData), GzFn P w K mg base k f fd ps sp ∧ mg x = some (.ref f) ∧ PySem.W.keepIn K (.ref f) = true ∧ Binds K fd ps []
@[simp] def kEndZ (xs : List D) : Y5 M := { nx := fun j g0 _ g => j = xs.length ∧ g = g0, bk := fun _ _ _ _ => False, ct := fun _ _ _ _ => False }
variable {P : Program} {w : World} {K : PySem.W.Frag} {mg : Str → Option Value} {base : Heap}
theorem gzFn_of {x qual : Str} {st : Stmt} {f : Addr} {fd : FuncData} {N ps : List Str} {k : Nat} {sp : GSpZ M} {b : Bool} {wb : List D → ZW M} (F : Fun K x qual st f fd) (S : GScope N ps (defScope st)) (hnc : ∀ n, cellsFrom n (defScope st).names [] = [])
    (hbody : ∀ (cdv : Value) (A : Around) (outer : List Env) (n0 g : Nat) (go : Addr × Obj) (xs : List D), Room k (A.deeper (envOfC qual (defScope st) n0 f cdv)) → DZs M ⟨P, w, K, mg, base, N, qual, defScope st, f, cdv, A, outer, n0, g, go⟩ xs b (defBody st) (wb xs))
    (hpure : ∀ (ds : List D) (g : M.G) (q : List D → Prop), ds.length = ps.length → sp ds g q → ∃ xs, q xs ∧ wb xs (kEndZ xs) 0 g (startD N ds) g) :
    GzFn P w K mg base (k + 1) f fd ps sp := by
  obtain ⟨oc, od, kV, doc, pm, an, cdv, ct, osl, rfl, lk, hcd⟩ := F.ex
  refine ⟨fun A outer s W args us vs ds q hr e0 ok hb r rd hl hsp => ?_⟩
  obtain ⟨xs, hq, hw⟩ := hpure ds W.g q hl hsp
  have hlv : vs.length = ps.length := rd.length.trans hl
  have KX : K.In s.heap := e0.mod.kin.keeps fun b o e => (e0.bs b o e).1
  have lim : s.heap.NoLimit := e0.mod.nolimit.keeps fun b o e => (e0.bs b o e).1
  have hkind : ∀ y ∈ ps.zip us, (defScope st).names.lookup y.1 = some .local ∨ ((defScope st).names.lookup y.1 = some .cell ∧ ((cellsFrom (s.heap.objs.size + 1) (defScope st).names []).lookup y.1).isSome = true) := fun ⟨n, v⟩ hy => by
    rcases S.par n (List.of_mem_zip hy).1 with q | q
    · exact .inl q
    · exact .inr ⟨q, PySem.W.cellsFrom_some _ _ _ (.inl q)⟩
  refine codeAny_call_generator hr.depth (KX _ _ lk) rfl S.co S.gen rfl (PySem.W.codeRec_of KX hcd) (hb _ _ _ _ ?_)
  refine wpAny_newFunctionEnv_cells S.kind hkind fun env he s1 x => ?_
  subst he
  have lim1 : s1.heap.NoLimit := lim.keeps x.toInCall.keep
  refine ⟨lim1, ?_⟩
  obtain ⟨h1, tk, es1, hk1⟩ := x.done
  have os1 : s1.os = s.os := by rw [es1]
  have gen1 : s1.gens = s.gens := by rw [es1]
  have lt1 : s.heap.objs.size < s1.heap.objs.size := x.toInCall.ns.lt
  have kp1 : ∀ b o, s.heap.get? b = some o → s1.heap.get? b = some o := x.toInCall.keep
  have I1 : Inv (gcxOf P w K mg base N qual (defScope st) f cdv A outer s W.H (fun _ _ _ => False) []) [] (start N vs) W.H s1 := inv_startG S hr.hd e0 hlv r x
  have noc : ∀ y c, (envOfC qual (defScope st) s.heap.objs.size f cdv).cells.lookup y = some c → False := fun y c e => by
    have e' : (cellsFrom (s.heap.objs.size + 1) (defScope st).names []).lookup y = some c := e
    rw [hnc] at e'
    cases e'
  obtain ⟨mL, ⟨oL, esL, epL, hoL, hdL, h3L⟩, hlL⟩ := id I1.loc
  have hoL' : s1.heap.get? s.heap.objs.size = some oL := hoL
  have main : ∀ (go : Obj) (nm qn : Value) (tk2 : Nat), go.cls = .type "generator" → go.data = .fields #[.int s1.gens.size 0, nm, qn] → go.slots = #[] → (∀ h : Heap, (h.push go).get? h.objs.size = some go) →
      GzMade P w K mg base (k + 1) outer s W q (.ref s1.heap.objs.size) { s1 with gens := s1.gens.push (.fresh (.func (defBody st) (envOfC qual (defScope st) s.heap.objs.size f cdv))), toks := tk2, heap := s1.heap.push go } := by
    intro go nm qn tk2 hgc hgd0 hgs hgp
    refine ⟨N, qual, defScope st, f, cdv, (s1.heap.objs.size, go), _, xs, [(s.heap.objs.size, oL), (s1.heap.objs.size, go)], rfl, hq, by simp, fun h e => ⟨go, nm, qn, e, hgc, by rw [hgd0, gen1], hgs⟩, by rw [gen1], os1, fun b o e => Heap.get?_push_of_some _ (kp1 b o e), fun p hp => ?_, ?_⟩
    · rcases List.mem_cons.mp hp with h | h
      · subst h
        exact ⟨Heap.get?_push_of_some _ hoL', Nat.le_refl _, fun v z => by rw [hdL] at z; cases z⟩
      · rw [List.mem_singleton.mp h]
        exact ⟨hgp _, Nat.le_of_lt lt1, fun v z => by rw [hgd0] at z; cases z⟩
    intro A' s2 W2 hr' hfr hg2 z
    have hL2 := z.fx (s.heap.objs.size, oL) (by simp)
    have hg2' := z.fx (s1.heap.objs.size, go) (by simp)
    have hn : s.heap.objs.size ≤ s2.heap.objs.size := Nat.le_of_lt (Heap.lt_size hL2.1)
    have blt : ∀ b o, base.get? b = some o → b < s.heap.objs.size := fun b o e => Nat.lt_of_lt_of_le (Heap.lt_size e) e0.bsz
    have out : ∀ b ∈ frs outer, b < s.heap.objs.size := fun b hb => by
      obtain ⟨_, o, ho, _⟩ := e0.funs.mem hb
      exact Heap.lt_size ho
    have gk : Gok (gzp P w K mg base outer s.heap.objs.size s.gens.size N qual (defScope st) f cdv (s1.heap.objs.size, go) A') := ⟨noc, out, Nat.le_of_lt lt1, hr'.hd⟩
    have R : Rn (gzp P w K mg base outer s.heap.objs.size s.gens.size N qual (defScope st) f cdv (s1.heap.objs.size, go) A') ⟨s2, W2⟩ [] [] (start N vs) (startD N ds) W2 s2 := by
      refine ⟨⟨⟨e0.mod, I1.ok.kind, I1.ok.glob, I1.ok.blt, trh_le, I1.ok.inj, I1.ok.has, fun y c _ e => (noc y c e).elim, fun _ => hr'.hd, Around.frames_deeper hfr, .inr ⟨rfl, rfl⟩, fun b h => absurd (show b ∈ ([] : List Addr) from h) (by simp), fun b o e => ⟨trh_at (z.bs b o e).1 (blt b o e), (z.bs b o e).2⟩, ?_, fun b o _ h => absurd (show b ∈ ([] : List Addr) from h) (by simp), fun b h => absurd (show b ∈ ([] : List Addr) from h) (by simp), trh_funs z.funs out, z.frf⟩,
        rfl, z.bare, Un.kept fun b o e => (trh_sub e).1, ⟨mL, ⟨oL, esL, epL, hL2.1, hdL, h3L⟩, fun i y v e1 e2 e3 => ?_⟩, fun y c e => (noc y c e).elim, hL2.2, fun y c e => (noc y c e).elim, fun p hp => ?_, z.hok, I1.len⟩, ?_, fun p hp => (nomatch hp), fun p hp => (nomatch hp), Nat.le_refl _, ?_, hn⟩
      · show base.objs.size ≤ (trh s.heap.objs.size s2.heap).objs.size
        rw [trh_size hn]; exact e0.bsz
      · obtain ⟨u, ru, l⟩ := hlL i y v e1 e2 e3
        rcases l with l | ⟨_, c, e, _⟩
        · exact ⟨u, ru, .inl l⟩
        · exact (noc y c e).elim
      · have hp' : p = (s1.heap.objs.size, go) := by simpa [Gp.X] using hp
        subst hp'
        exact ⟨hg2'.1, hg2'.2, Nat.ne_of_gt lt1, fun hm => absurd (out _ hm) (Nat.not_lt.mpr (Nat.le_of_lt lt1)), fun v z => by rw [hgd0] at z; cases z⟩
      · have S0 := sat_start (C := (gzp P w K mg base outer s.heap.objs.size s.gens.size N qual (defScope st) f cdv (s1.heap.objs.size, go) A').C ⟨s2, W2⟩) (W := W2) (N := N) z.ok rfl rfl (rd.gs z.gs)
        exact S0
      · exact z.gg
    refine sq_func ?_
    refine (hbody cdv A' outer s.heap.objs.size s.gens.size (s1.heap.objs.size, go) xs (hr'.deeper _)).run ⟨s2, W2⟩ [] [] _ _ W2 s2 xs.length 0 (kEndZ xs) _ [] _ _ id id (fun _ => rfl) gk ⟨over_func, rfl, rfl, rfl⟩ (Nat.add_zero _) R (fun θ' m' j' σ' ρ' W' s' fl hm' R' g' hf => ?_) (by
      show wb xs (kEndZ xs) 0 W2.g (startD N ds) W2.g
      rw [hg2]; exact hw)
    cases fl with
    | next =>
      obtain ⟨hj, hg⟩ := hf
      refine sq_end (.ok (.ret .none)) ?_
      cases m' with
      | zero => exact ⟨.inl rfl, hj, W', R'.aft hg⟩
      | succ n => exact ⟨.inl rfl, hj, W', R'.aft hg⟩
    | brk => exact hf.elim
    | cont => exact hf.elim
    | ret v => exact hf.elim
  exact main _ _ _ _ rfl rfl rfl fun h => Heap.get?_push_size _ rfl
theorem gzB_of {k : Nat} {f : Addr} {fd : FuncData} {x : Str} {ps : List Str} {sp : GSpZ M} {qual : Str} {st : Stmt} (F : Fun K x qual st f fd) (g : mg x = some (.ref f)) (h : GzFn P w K mg base k f fd ps sp) (b : Binds K fd ps []) : GzB P w K mg base k x ps sp := ⟨f, fd, h, g, F.kp, b⟩
end
section
variable {M : Ghost} {C : Ct M} {W W1 W2 W' : Wd M} {σ : L2.St} {ρ : DEnv} {e : Expr} {es : List Expr} {we : EW M} {pos p pos2 p2 : Pos} {wa : AW M}
structure DGn (C : Ct M) (k : Nat) (e : Expr) (w : NW M) : Prop where
  run : ∀ (σ : L2.St) (ρ : DEnv) (W : Wd M) (q : List D → M.G → Prop) (pins : List (Addr × Obj)) (s : Shared), Sat C σ ρ W → Inv C.X pins σ W.H s → w ρ W.g q →
    wpAny (model C.X.prog C.X.w) C.X.A (eval e C.X.env) (fun u s' => ∃ (W1 : Wd M) (sc : Shared), Go W W1 ∧ Wok C.X.K W1 ∧ Inv C.X pins σ W1.H sc ∧ s.gens.size ≤ sc.gens.size ∧ GzMade C.X.prog C.X.w C.X.K C.X.mg C.X.base k C.X.stack sc W1 (fun xs => q xs W1.g) u s') C.X.xe s
@[simp] def wGz (n : Nat) (sp : GSpZ M) (wa : AW M) : NW M := fun ρ g q => wa ρ g fun ds g' => ds.length = n ∧ sp ds g' fun xs => q xs g'
theorem run_gz {X : Cx} {pins : List (Addr × Obj)} {s : Shared} {us : List Value} {vs : List V} {ds : List D} {k : Nat} {f : Addr} {fd : FuncData} {ps : List Str} {sp : GSpZ M} {q : List D → Prop} {E1 : Value → Shared → Prop} (F : GzFn X.prog X.w X.K X.mg X.base k f fd ps sp) (hr : Room k X.A) (hb : Binds X.K fd ps [])
    (ok : Wok X.K W) (I : Inv X pins σ W.H s) (r : Vals vs us) (rd : RpA X.K W.F W.R vs ds) (hl : ds.length = ps.length) (h : sp ds W.g q) :
    wpAny (model X.prog X.w) X.A (call (.ref f) us) (fun u s' => GzMade X.prog X.w X.K X.mg X.base k X.stack s W q u s') E1 s := by
  have hl2 : (us ++ []).length = ps.length := by rw [List.append_nil, ← r.length, rd.length, hl]
  refine wpAny_call (codeAny_mono (F.run X.A X.stack s W ⟨us, []⟩ (us ++ []) vs ds q hr I.env0 ok (hb s us I.kIn hl2) (by rw [List.append_nil]; exact r) rd hl h) fun r s' hq => ?_)
  cases r with
  | error e => exact False.elim hq
  | ok fl =>
    cases fl with
    | ret u => exact hq
    | next => exact False.elim hq
    | brk => exact False.elim hq
    | cont => exact False.elim hq
theorem dgn_call {k : Nat} {ps : List Str} {n : Nat} {sp : GSpZ M} {x : Str} (F : GzB C.X.prog C.X.w C.X.K C.X.mg C.X.base k x ps sp) (hn : ps.length = n) (hr : Room k C.X.A) (ha : DA C (e :: es) wa)
    (hg : Gl C.X x := by rfl) (hdb : (x == ("__debug__" : Str)) = false := by decide) (he : starEach (e :: es) C.X.env = (false, eval e C.X.env) :: starEach es C.X.env := by rfl) (hpl : (backTo pos (starEach es C.X.env)).any (·.1) = false := by rfl) :
    DGn C k (.Call (.Name x p) (e :: es) [] pos) (wGz n sp wa) := ⟨fun σ ρ W q pins s S I h => by
  obtain ⟨f, fd, F, hm, hk, hb⟩ := F.ex
  refine wpAny_Call_Name_kw (ld_glob I hg hm ?_ hdb)
  have Aw := ha.run σ ρ W (fun vs H' => ∃ (ds : List D) (W1 : Wd M), W1.H = H' ∧ Go W W1 ∧ Wok C.X.K W1 ∧ RpA C.X.K W1.F W1.R vs ds ∧ ds.length = n ∧ sp ds W1.g fun xs => q xs W1.g) _ S (fun vs ds W1 g1 k1 r1 q1 => ⟨ds, W1, rfl, g1, k1, r1, q1⟩) h
  refine PySem.W.callWith_K (h₀ := C.X.base) I.ok.mod.kin hk (wpAny_gsz (n := s.gens.size) (Nat.le_refl _) (wpAny_mono (Aw pos pins s I) (fun us s1 ⟨vs, H1, I1, r, q1⟩ hsz => ⟨I1.kIn, ?_⟩) fun _ _ z _ => z)) he hpl
  obtain ⟨ds, W1, rfl, g1, k1, r1, hl, hq⟩ := q1
  exact wpAny_mono (run_gz (us := us) F hr hb k1 I1 r r1 (hl.trans hn.symm) hq) (fun u s' h' => ⟨W1, s1, g1, k1, I1, hsz, h'⟩) fun _ _ z => z⟩
end
end DL
set_option Elab.async false
set_option linter.all false
set_option maxRecDepth 100000
set_option maxHeartbeats 4000000
namespace DL
open PySem L2 PySem.Spec PySem.W PyProof.Rows GenW
theorem objOk_ex {P : Program} {w : World} {H : Hp} {h : Heap} {a : Addr} {o : HO} (x : ObjOk P w H h a o) : ∃ u, h.get? a = some u := by
  cases o with
  | lst xs => obtain ⟨_, _, _, _, e⟩ := x; exact ⟨_, e⟩
  | tup xs => obtain ⟨_, _, _, o, e, _⟩ := x; exact ⟨o, e⟩
  | dK kvs => obtain ⟨_, _, _, _, o, _, _, e, _⟩ := x; exact ⟨o, e⟩
  | dT kvs => obtain ⟨_, _, _, _, o, _, _, e, _⟩ := x; exact ⟨o, e⟩
  | set S n => obtain ⟨o, _, _, _, e, _⟩ := x; exact ⟨o, e⟩
  | ins C dx fs => obtain ⟨_, _, _, e, _⟩ := x; exact ⟨_, e⟩
  | own y => exact x
  | xd fs => obtain ⟨_, ⟨o, _, _, e, _⟩, _⟩ := x; exact ⟨o, e⟩
  | rng lo hi => obtain ⟨_, _, _, e⟩ := x; exact ⟨_, e⟩
  | frz ob u => obtain ⟨e, _⟩ := x; exact ⟨_, e⟩
  | tbl ps => exact ⟨_, show h.get? a = some _ from x⟩
  | met f y => exact ⟨_, show h.get? a = some _ from x⟩
  | ext φ => obtain ⟨_, ⟨u, e⟩, _⟩ := x; exact ⟨u, e⟩
/-- the walker's own things lie below -/
structure Blw (X : Cx) (pins : List (Addr × Obj)) (n0 : Nat) : Prop where
  lo : X.env.locals < n0
  ce : ∀ x c, X.env.cells.lookup x = some c → c < n0
  pn : ∀ p ∈ X.pn ++ pins, p.1 < n0
  s0 : X.s_0.heap.objs.size ≤ n0
  fs : ∀ b ∈ X.fs, b < n0
theorem blw_of {X : Cx} {pins : List (Addr × Obj)} {σ : L2.St} {H : Hp} {s : Shared} (I : Inv X pins σ H s) : Blw X pins s.heap.objs.size :=
  ⟨I.lt, fun x c e => let ⟨v, h⟩ := I.cell x c e; h.lt, fun p hp => Heap.lt_size (I.pin p hp).1, I.sz, fun b hb => by
    obtain ⟨_, o, ho, _⟩ := I.ok.funs.mem hb
    exact Nat.lt_of_lt_of_le (Heap.lt_size ho) I.sz⟩
section
variable {M : Ghost} {X : Cx} {pins : List (Addr × Obj)} {σ : L2.St} {W0 W : Wd M} {s s1 : Shared} {n0 : Nat}
/-- behind a generator's stretch: the walker's state -/
theorem inv_aft (I : Inv X pins σ W0.H s) (b : Blw X pins n0) (go : Go W0 W) (un : Un (frs X.stack) [] W0.H W.H (trh n0 s.heap) s1.heap) (hok : HOk X.prog X.w W.H s1.heap) (os : s1.os = s.os) (bare : AllBare s1.gens) : Inv X pins σ W.H s1 := by
  have inCh : ∀ c o, s.heap.get? c = some o → W0.H c = none → c ∉ (List.range s.heap.objs.size).filter (fun c => decide (n0 ≤ c) && (W0.H c).isNone) → c < n0 := fun c o e n hc => by
    rcases Nat.lt_or_ge c n0 with h | h
    · exact h
    · exact absurd (List.mem_filter.mpr ⟨List.mem_range.mpr (Heap.lt_size e), by simp [h, n]⟩) hc
  refine I.call' (ch := (List.range s.heap.objs.size).filter (fun c => decide (n0 ≤ c) && (W0.H c).isNone)) os ⟨fun c o e n hf hc => ?_, fun c o e n hf hc => ?_, fun c o e n hc => ?_, fun c o e hc => ?_, un.tups, un.frzs, un.tbls⟩ hok bare fun c hc => ?_
  · exact un.keep c o (trh_at e (inCh c o e n hc)) n hf (by simp)
  · exact un.slot c o (trh_at e (inCh c o e n hc)) n hf (by simp)
  · exact un.free c o (trh_at e (inCh c o e n hc)) n (by simp)
  · by_cases n : W0.H c = none
    · exact un.there c o (trh_at e (inCh c o e n hc)) (by simp)
    · have := go.live c n
      cases q : W.H c with
      | none => exact absurd q this
      | some u => exact objOk_ex (hok c u q)
  · obtain ⟨_, h⟩ := List.mem_filter.mp hc
    have hn : n0 ≤ c := by
      have := (Bool.and_eq_true _ _ ▸ h).1
      exact of_decide_eq_true this
    exact ⟨.inr (Nat.le_trans b.s0 hn), fun z => absurd (z ▸ b.lo) (Nat.not_lt.mpr hn), fun x d e z => absurd (z ▸ b.ce x d e) (Nat.not_lt.mpr hn), fun p hp z => absurd (z ▸ b.pn p hp) (Nat.not_lt.mpr hn)⟩
end
section
variable {M : Ghost} {G : Gp} {xs : List D} {m j : Nat} {W0 : Wd M} {s0 s : Shared}
theorem endOk_ret {r : Result} (h : EndOk G xs m W0 s0 j (.ret r) s) : (r = .ok (.ret .none) ∨ r = .ok .next) ∧ j = xs.length ∧ ∃ W, Aft G W0 s0 W s := by
  cases m <;> exact h
theorem endOk_susp {v : Value} {q : Bool} {l : List Value} {k : Resume → Sem PySem.Fin} {c : Code} {p : Pos} {fs : List Frame} (h : EndOk G xs m W0 s0 j (.susp v q l k c p fs) s) : ∃ m', m = m' + 1 ∧ (End.susp v q l k c p fs).quiet = true ∧
    ∃ (x : V) (d : D) (W : Wd M) (fx : List (Addr × Obj)) (kg : List (Nat × GenState)),
      xs[j]? = some d ∧ RelV x v ∧ Rp G.K W.F W.R x d ∧ Aft G W0 s0 W s ∧ (∀ p ∈ fx, s.heap.get? p.1 = some p.2 ∧ W.H p.1 = none ∧ G.n0 ≤ p.1 ∧ ∀ v, p.2.data ≠ .cell v) ∧ G.go ∈ fx ∧
      (∀ p ∈ kg, slp p.2 = true ∧ s.gens[p.1]? = some p.2 ∧ G.g < p.1) ∧
      ∀ s' W', Wk G fx kg W s s' W' → SegQ (model G.P G.w) G.A (EndOk G xs m' W' s' (j + 1)) c (k (.send .none)) fs s' := by
  cases m with
  | zero => exact h.elim
  | succ m => exact ⟨m, rfl, h⟩
end
section
variable {M : Ghost} {C : Ct M} {W W1 W2 W' : Wd M} {σ : L2.St} {ρ : DEnv} {e : Expr} {pos p p2 : Pos}
theorem isGen_typed {h : Heap} {a : Addr} {g : Nat} (x : h.IsGen a g) : ∃ o vs, h.get? a = some o ∧ o.cls = .type "generator" ∧ o.data = .fields vs := let ⟨o, nm, qn, ho, hc, hd, _⟩ := x; ⟨o, _, ho, hc, hd⟩
theorem setGen_ne {s : Shared} {g j : Nat} {x : GenState} (h : j ≠ g) : (s.setGen g x).gens[j]? = s.gens[j]? := by
  show (s.gens.setIfInBounds g x)[j]? = _
  rw [Array.getElem?_setIfInBounds_ne (Ne.symm h)]
end
end DL
set_option Elab.async false
set_option linter.all false
set_option maxRecDepth 100000
set_option maxHeartbeats 4000000
namespace DL
open PySem L2 PySem.Spec PySem.W PyProof.Rows GenW
theorem call_list_z {P : Program} {w : World} {s : Shared} {A : Around} {a : Addr} {g : Nat} {Q' : Value → Shared → Prop} {E : Value → Shared → Prop} (hg : s.heap.IsGen a g)
    (h : ∀ (h4 : Heap) (c : Nat), h4.get? s.heap.objs.size = some (lstObj #[] c) → (∀ b o, s.heap.get? b = some o → h4.get? b = some o) → ∀ R : Result → Shared → Prop, (∀ s', Q' (.ref s.heap.objs.size) s' → R (.ok (.ret .none)) s') →
      codeAny (model P w) A.in1 (.builtin "list.extend.loop" ⟨[.ref s.heap.objs.size, .ref a, .none], []⟩) R { s with heap := h4 }) :
    wpAny (model P w) A (call (.type "list") [.ref a]) Q' E s := by
  have hSa : s.heap.objs.size ≠ a := by
    obtain ⟨o, _, _, ho, _⟩ := id hg
    exact Nat.ne_of_gt (Heap.lt_size ho)
  refine callType_codes (Q₁ := fun obj s₁ => obj = .ref s.heap.objs.size ∧ s₁ = { s with heap := s.heap.push { cls := .type "list", data := .seq #[] } }) F.called_list (F.typeCall_list_1 _) F.entry_list_init
    (code_list_new _ ⟨rfl, rfl⟩) fun obj s₁ h₁ => ?_
  obtain ⟨rfl, rfl⟩ := h₁
  have hS : (s.heap.push { cls := .type "list", data := .seq #[] }).get? s.heap.objs.size = some { cls := .type "list", data := .seq #[] } := Heap.get?_push_size _ rfl
  refine ⟨⟨_, hS, rfl⟩, F.args_list_init_2 _ _, ?_⟩
  show wpAny _ A.in1.in1 (do let old ← Builtin.List.listItems (.ref s.heap.objs.size); Builtin.List.listUpdate (.ref s.heap.objs.size) (fun _ => #[]); letGo old.toList.reverse; Builtin.List.listExtendWith (.ref s.heap.objs.size) (.ref a) .none) _ _ _
  refine wpAny_bind ?_
  unfold Builtin.List.listItems
  refine wpAny_bind (wpAny_seqItems hS rfl (wpAny_pure ?_))
  show wpAny _ A.in1.in1 (updateSeq s.heap.objs.size (fun _ => #[]) >>= fun _ => letGo (#[] : Array Value).toList.reverse >>= fun _ => Builtin.List.listExtendWith (.ref s.heap.objs.size) (.ref a) .none) _ _ _
  refine wpAny_bind (wpAny_updateSeq hS rfl ?_)
  have hS2 := Heap.get?_update_self (Obj.mapSeq (fun _ => (#[] : Array Value))) hS rfl
  refine wpAny_bind (wpAny_letGo ?_)
  unfold Builtin.List.listExtendWith
  have up : ∀ (h : Heap) (f : Obj → Obj), (∀ b o, s.heap.get? b = some o → h.get? b = some o) → ∀ b o, s.heap.get? b = some o → (h.update s.heap.objs.size f).get? b = some o := fun h f q b o e =>
    (Heap.get?_update_other _ _ (Ne.symm (Nat.ne_of_lt (Heap.lt_size e)))).trans (q b o e)
  have k1 : ∀ b o, s.heap.get? b = some o → (s.heap.push { cls := .type "list", data := .seq #[] }).get? b = some o := fun b o e => Heap.get?_push_of_some _ e
  have k2 := up _ (Obj.mapSeq (fun _ => (#[] : Array Value))) k1
  have gty : ∀ {h : Heap}, (∀ b o, s.heap.get? b = some o → h.get? b = some o) → h.IsGen a g := fun {h} q => hg.keeps q
  refine wpAny_bind (wpAny_typeOf (Heap.IsGen.typeIs (s := { s with heap := _ }) (gty k2)) ?_)
  have h1 : Builtin.List.listSameRef (.ref s.heap.objs.size) (.ref a) = false := by simp [Builtin.List.listSameRef, hSa]
  have h2 : (Value.type "generator" == Value.type "list") = false := by decide
  have h3 : (Value.type "generator" == Value.type "tuple") = false := by decide
  simp only [h1, h2, h3, Bool.or_false, Bool.false_eq_true, if_false]
  refine wpAny_bind (wpAny_pyIter_gen (s := { s with heap := _ }) (gty k2) ?_)
  refine wpAny_bind (wpAny_holding ?_)
  unfold Builtin.List.listLengthHint
  refine wpAny_bind (wpAny_specialOf (Heap.IsGen.typeIs (s := { s with heap := _ }) (gty k2)) F.gen_no_len ?_)
  show wpAny _ A.in1.in1 (specialOf (Value.ref a) (Str.ofString "__length_hint__") >>= _) _ _ _
  refine wpAny_bind (wpAny_specialOf (Heap.IsGen.typeIs (s := { s with heap := _ }) (gty k2)) F.gen_no_hint ?_)
  refine wpAny_pure ?_
  show wpAny _ A.in1.in1 (rule "list.extend.makes-room" >>= fun _ => Builtin.List.listTouch (.ref s.heap.objs.size) >>= fun _ =>
    again (.builtin "list.extend.loop" ⟨[.ref s.heap.objs.size, .ref a, .none], []⟩)) _ _ _
  refine wpAny_bind (wpAny_rule ?_)
  refine wpAny_bind ?_
  show wpAny _ A.in1.in1 (updateSeq s.heap.objs.size (·.push .none) >>= fun _ => updateSeq s.heap.objs.size (·.pop)) _ _ _
  refine wpAny_bind (wpAny_updateSeq hS2 rfl ?_)
  have hS3 := Heap.get?_update_self (Obj.mapSeq (·.push Value.none)) hS2 rfl
  refine wpAny_updateSeq (hz := by seq_fits) hS3 rfl ?_
  have hS4 := Heap.get?_update_self (Obj.mapSeq (·.pop)) hS3 rfl
  have k4 := up _ (Obj.mapSeq (·.pop)) (up _ (Obj.mapSeq (·.push Value.none)) k2)
  refine wpAny_pure ⟨plainId_quiet F.plain_extend_loop _, ?_⟩
  exact h _ _ hS4 k4 _ fun s' hs => ⟨rfl, hs⟩
section
variable {M : Ghost} {C : Ct M} {W W1 W2 W' : Wd M} {σ : L2.St} {ρ : DEnv} {e : Expr} {pos p p2 : Pos} {wi : NW M}
@[simp] def wListZ (w : NW M) : NW M := fun ρ g q => w ρ g fun xs g' => xs.length ≤ sizeLine ∧ q xs g'
theorem dn_listZ {k : Nat} (hi : DGn C k e wi) (hr : Room (k + 3) C.X.A) (hc : C.X.calm = true) (hml : C.X.mg "list" = none)
    (hgl : Gl C.X "list" := by rfl) (he : starEach [e] C.X.env = (false, eval e C.X.env) :: starEach [] C.X.env := by rfl) :
    DN C (.Call (.Name "list" p) [e] [] pos) (wListZ wi) := ⟨fun σ ρ W Q q S hQ hw pins s I => by
  refine wpAny_Call_Name_kw (ld_blt I hgl hml (u := .type "list") (by decide +kernel) ?_ (by decide) (by decide))
  refine PyProof.Rows.callWith_type1 ?_ he rfl
  rw [he]
  show wpAny _ _ (spliced ((false, eval e C.X.env) :: backTo pos (starEach [] C.X.env))) _ _ s
  refine Calls.spliced_cons (thn (hi.run σ ρ W _ pins s S I hw) fun u s1 h1 => ?_)
  refine Calls.spliced_nil ?_
  obtain ⟨W1, sc, g1, k1, I0, _, N, qual, scope, f, cd, go, cd0, xs, fx, rfl, ⟨hxs, hq⟩, hgo, hgen, hgens, hos, hkp, hfx, wake⟩ := h1
  have bl := blw_of I0
  have bare1 : AllBare s1.gens := by rw [hgens]; exact AllBare.push I0.bare rfl
  have I1 : Inv C.X pins σ W1.H s1 := I0.call' (ch := []) hos (Un.kept hkp) (I0.hok.kept hkp) bare1 fun b z => by simp at z
  have pinFx : ∀ {fx : List (Addr × Obj)} {W : Wd M} {σ : L2.St} {s : Shared}, Inv C.X pins σ W.H s → (∀ p ∈ fx, s.heap.get? p.1 = some p.2 ∧ W.H p.1 = none ∧ sc.heap.objs.size ≤ p.1 ∧ ∀ v, p.2.data ≠ .cell v) → Inv C.X (pins ++ fx) σ W.H s := fun {fx W σ s} I h =>
    I.pins_of fun p hp => (List.mem_append.mp hp).elim (fun z => I.pin p (List.mem_append_right _ z)) fun z =>
      let ⟨h1, h2, h3, h4⟩ := h p z
      ⟨h1, h2, fun e => absurd (e ▸ bl.lo) (Nat.not_lt.mpr h3), fun e => absurd (bl.fs _ e) (Nat.not_lt.mpr h3), h4⟩
  have I1' : Inv C.X (pins ++ fx) σ W1.H s1 := pinFx I1 fun p hp => ⟨(hfx p hp).1, I0.hok.fresh (hfx p hp).2.1, (hfx p hp).2⟩
  have hg1 : s1.gens[sc.gens.size]? = some (.fresh cd0) := by rw [hgens]; simp
  refine call_list_z (hgen _ (hfx go hgo).1) fun h4 c hS4 hk4 R hR => ?_
  have hSn : W1.H s1.heap.objs.size = none := I1.hok.fresh (Nat.le_refl _)
  have I2 : Inv C.X (pins ++ fx) σ (W1.new s1.heap.objs.size (.lst [])).H { s1 with heap := h4 } := I1'.laid (t' := s1.toks) hk4 (Nat.le_refl _) ⟨Nat.zero_le _, [], c, .nil, hS4⟩
  have S1 := S.step g1 k1
  have gN : Go W1 (W1.new s1.heap.objs.size (.lst [])) := Go.new k1 hSn
  have kN : Wok C.X.K (W1.new s1.heap.objs.size (.lst [])) := k1.new hSn
  have wk1 : Wk (gzp C.X.prog C.X.w C.X.K C.X.mg C.X.base C.X.stack sc.heap.objs.size sc.gens.size N qual scope f cd go C.X.A.in1.in1.in1) fx [] W1 s1 ({ s1 with heap := h4 }.setGen sc.gens.size .running) (W1.new s1.heap.objs.size (.lst [])) :=
    ⟨allBare_setGen (s := { s1 with heap := h4 }) bare1 rfl, fun p hp => (nomatch hp), by rw [setGen_size]; exact (Array.getElem?_eq_some_iff.mp hg1).1, gN.s, kN, I2.hok, fun p hp => let z := I2.pin p (List.mem_append_right _ (List.mem_append_right _ hp)); ⟨z.1, z.2.1⟩, I2.bs, I2.stack, I2.stkFree⟩
  have hrk : Room k C.X.A.in1.in1.in1 := hr.in1.in1.in1
  have go1 := wake C.X.A.in1.in1.in1 _ (W1.new s1.heap.objs.size (.lst [])) hrk I1.ok.frames rfl wk1
  have loop : ∀ (n i : Nat) (s3 : Shared) (W3 : Wd M) (gs3 : GenState) (fx3 : List (Addr × Obj)) (vs : List V), n + i = xs.length → Inv C.X (pins ++ fx3) σ W3.H s3 → Wok C.X.K W3 → Go W1 W3 → W3.H s1.heap.objs.size = some (.lst vs) → W3.F s1.heap.objs.size = none → s1.heap.objs.size ∉ W3.R → RpA C.X.K W3.F W3.R vs (xs.take i) → W3.g = W1.g →
      s3.gens[sc.gens.size]? = some gs3 → go ∈ fx3 → GoQ (model C.X.prog C.X.w) C.X.A.in1.in1.in1 (EndOk (gzp C.X.prog C.X.w C.X.K C.X.mg C.X.base C.X.stack sc.heap.objs.size sc.gens.size N qual scope f cd go C.X.A.in1.in1.in1) xs n W3 (s3.setGen sc.gens.size .running) i) gs3 (s3.setGen sc.gens.size .running) →
      codeAny (model C.X.prog C.X.w) C.X.A.in1 (.builtin "list.extend.loop" ⟨[.ref s1.heap.objs.size, .ref go.1, .none], []⟩) R s3 := by
    intro n
    induction n with
    | zero =>
      intro i s3 W3 gs3 fx3 vs hn I3 k3 g3 hS hF hnR rd eg e3 go3 goq
      have isg := hgen _ (I3.pin go (List.mem_append_right _ (List.mem_append_right _ go3))).1
      refine codeAny_builtin F.entry_extend_loop ?_
      rw [Around.under_plainId F.plain_extend_loop _]
      show wpAny _ C.X.A.in1.in1 (pyNext (.ref go.1) >>= _) _ _ s3
      refine wpAny_bind (next_genS (A := C.X.A.in1.in1) (I3.ok.hd hc) I3.nolimit hr.in1.in1.depth isg e3 goq (fun r s4 he => ?_) fun v qq ll κ c4 p4 fs4 s4 he => ?_)
      · obtain ⟨h1, hi, W4, a⟩ := endOk_ret he
        refine ⟨h1, fun h' hk => ?_⟩
        have I4 : Inv C.X pins σ W4.H s4 := inv_aft I3.unpinned bl a.go a.un a.hok a.os a.bare
        have I5 : Inv C.X pins σ W4.H { s4.setGen sc.gens.size .finished with heap := h' } := inv_gens (I4.kept (h' := h') (t' := s4.toks) hk) (allBare_setGen a.bare rfl)
        refine wpAny_pure (hR _ ⟨.ref s1.heap.objs.size, W4.H, I5, rfl, ?_⟩)
        rw [hi, List.take_length] at rd
        have hS4 := a.go.keep _ _ hS hnR
        refine hQ _ vs xs W4 ((g1.trans g3).trans a.go) a.ok hS4 ?_ (a.go.notR (by rw [hS]; simp) hnR) ?_ (rd.step a.go) ?_
        · cases z : W4.F s1.heap.objs.size with
          | none => rfl
          | some o =>
            rcases a.go.young _ (by rw [z]; simp) with y | y
            · exact absurd hF y
            · rw [hS] at y; cases y
        · cases z : W.H s1.heap.objs.size with
          | none => rfl
          | some o => exact absurd hSn (g1.live _ (by rw [z]; simp))
        · rw [show W4.g = W3.g from a.gg, eg]
          exact hq
      · obtain ⟨m', hm, _⟩ := endOk_susp he
        cases hm
    | succ n ih =>
      intro i s3 W3 gs3 fx3 vs hn I3 k3 g3 hS hF hnR rd eg e3 go3 goq
      have isg := hgen _ (I3.pin go (List.mem_append_right _ (List.mem_append_right _ go3))).1
      refine codeAny_builtin F.entry_extend_loop ?_
      rw [Around.under_plainId F.plain_extend_loop _]
      show wpAny _ C.X.A.in1.in1 (pyNext (.ref go.1) >>= _) _ _ s3
      refine wpAny_bind (next_genS (A := C.X.A.in1.in1) (I3.ok.hd hc) I3.nolimit hr.in1.in1.depth isg e3 goq (fun r s4 he => ?_) fun v qq ll κ c4 p4 fs4 s4 he => ?_)
      · obtain ⟨h1, hi, W4, a⟩ := endOk_ret he
        exact absurd hi (by omega)
      · obtain ⟨m', hm, hqt, x, d, W4, fx4, kg4, hx, rv, rd4, a, hfx4, hgo4, hkg4, wake4⟩ := endOk_susp he
        have em : n = m' := by omega
        subst em
        refine ⟨hqt, ?_⟩
        have I4 : Inv C.X pins σ W4.H s4 := inv_aft I3.unpinned bl a.go a.un a.hok a.os a.bare
        have hS4 := a.go.keep _ _ hS hnR
        have hnR4 := a.go.notR (show W3.H s1.heap.objs.size ≠ none by rw [hS]; simp) hnR
        have hF4 : W4.F s1.heap.objs.size = none := by
          cases z : W4.F s1.heap.objs.size with
          | none => rfl
          | some o =>
            rcases a.go.young _ (by rw [z]; simp) with y | y
            · exact absurd hF y
            · rw [hS] at y; cases y
        obtain ⟨hle, its, nn, rvs, hobj⟩ := a.hok _ _ hS4
        have I4' : Inv C.X (pins ++ fx4) σ W4.H (s4.setGen sc.gens.size (End.susp v qq ll κ c4 p4 fs4).genState) := inv_gens (pinFx I4 hfx4) (allBare_setGen a.bare (End.bare_of_quiet hqt))
        have lvs : vs.length = i := by
          have := rd.length
          rw [List.length_take] at this
          omega
        have lits : its.length = i := by rw [← rvs.length, lvs]
        have hasz : its.toArray.size < sizeLine := by
          have : its.toArray.size = its.length := by simp
          omega
        have gsz : sc.gens.size < s4.gens.size := by
          have h1 := (Array.getElem?_eq_some_iff.mp e3).1
          have h2 : (s3.setGen sc.gens.size .running).gens.size ≤ s4.gens.size := a.gz
          rw [setGen_size] at h2
          exact Nat.lt_of_lt_of_le h1 h2
        show wpAny _ C.X.A.in1.in1 (updateSeq s1.heap.objs.size (·.push v) >>= _) _ _ _
        refine wpAny_bind ?_
        refine wpAny_updateSeq (s := s4.setGen sc.gens.size (End.susp v qq ll κ c4 p4 fs4).genState) hobj rfl (wpAny_pure ⟨plainId_quiet F.plain_extend_loop _, ?_⟩) (Nat.le_of_lt hasz) (by show (its.toArray.push v).size ≤ sizeLine + 1; rw [Array.size_push]; omega)
        have hpush : ∃ c', (s4.heap.update s1.heap.objs.size (Obj.mapSeq (·.push v))).get? s1.heap.objs.size = some (lstObj (its.toArray.push v) c') := ⟨_, Heap.get?_update_self _ hobj rfl⟩
        have I5 : Inv C.X (pins ++ fx4) σ (W4.put s1.heap.objs.size (.lst (vs ++ [x]))).H { s4.setGen sc.gens.size (End.susp v qq ll κ c4 p4 fs4).genState with heap := s4.heap.update s1.heap.objs.size (Obj.mapSeq (·.push v)) } := by
          obtain ⟨c', hc'⟩ := hpush
          refine I4'.write (x := s1.heap.objs.size) (e := s1.heap.objs.size) (t' := s4.toks) (o := .lst (vs ++ [x])) (by rw [hS4]; trivial) (.inl rfl) (fun b u hb q => (Heap.get?_update_other _ _ (Ne.symm hb)).trans q) ⟨_, hc'⟩ ⟨?_, its ++ [v], c', rvs.append (.cons rv .nil), ?_⟩
          · rw [List.length_append, List.length_singleton, lvs]; omega
          · rw [hc']
            simp
        have k5 : Wok C.X.K (W4.put s1.heap.objs.size (.lst (vs ++ [x]))) := a.ok.put hF4 hnR4
        have g5 : Go W1 (W4.put s1.heap.objs.size (.lst (vs ++ [x]))) := (g3.trans a.go).put hSn
        have htk : xs.take (i + 1) = xs.take i ++ [d] := by rw [List.take_add_one, hx]; rfl
        have z5 : (s4.setGen sc.gens.size (End.susp v qq ll κ c4 p4 fs4).genState).gens[sc.gens.size]? = some (End.susp v qq ll κ c4 p4 fs4).genState := setGen_atW gsz
        refine ih (i + 1) _ (W4.put s1.heap.objs.size (.lst (vs ++ [x]))) (End.susp v qq ll κ c4 p4 fs4).genState fx4 (vs ++ [x]) (by omega) I5 k5 g5 upd_same hF4 hnR4 ?_ (a.gg.trans eg) z5 hgo4 ?_
        · rw [htk]
          exact (rd.step a.go).append (.cons rd4 .nil)
        · refine wake4 _ (W4.put s1.heap.objs.size (.lst (vs ++ [x]))) ⟨allBare_setGen I5.bare rfl, fun p hp => ?_, ?_, ⟨Same.refl _, fun _ _ h => h⟩, k5, I5.hok, fun p hp => ?_, I5.bs, I5.stack, I5.stkFree⟩
          · obtain ⟨k1, k2, k3⟩ := hkg4 p hp
            have k3' : p.1 ≠ sc.gens.size := Nat.ne_of_gt k3
            rw [setGen_ne k3']
            show (s4.setGen sc.gens.size _).gens[p.1]? = _
            rw [setGen_ne k3']
            exact k2
          · rw [setGen_size]
            show _ < (s4.setGen sc.gens.size _).gens.size
            rw [setGen_size]
            exact gsz
          · have z := I5.pin p (List.mem_append_right _ (List.mem_append_right _ hp))
            exact ⟨z.1, z.2.1⟩
  exact loop xs.length 0 _ (W1.new s1.heap.objs.size (.lst [])) (.fresh cd0) fx [] rfl I2 kN gN upd_same (k1.noF hSn) (k1.noR hSn) .nil rfl hg1 hgo go1⟩
end
end DL
set_option Elab.async false
set_option linter.all false
set_option maxRecDepth 100000
set_option maxHeartbeats 4000000
namespace DL
open PySem L2 PySem.Spec PySem.W PyProof.Rows GenW
section
variable {M : Ghost} {G : Gp} {θ θ' : Th M} {ip : List (Addr × Obj)} {kg : List (Nat × GenState)} {σ σ' : L2.St} {ρ ρ' : DEnv} {W W' W1 : Wd M} {s s' : Shared} {xs : List D} {b : Bool} {pos : Pos}
theorem Rn.kg0 (R : Rn G θ ip kg σ ρ W s) : Rn G θ ip [] σ ρ W s := ⟨R.inv, R.sat, R.ipn, fun p hp => (nomatch hp), R.gz, R.gg, R.tz⟩
theorem blw_th {n0 : Nat} (hn : G.n0 ≤ n0) (h : Blw (G.X θ) ip n0) : Blw (G.X θ') ip n0 := ⟨h.lo, h.ce, h.pn, Nat.le_trans trh_le hn, h.fs⟩
theorem dz_forZ {k : Nat} {tg iter : Expr} {body : List Stmt} {is : List Nat} {wi : NW M} {gw : GW} {wb : ZW M} (hr : Room (k + 1) (G.A.deeper G.env)) (hi : ∀ θ : Th M, DGn (G.C θ) k iter wi) (hg : ∀ θ : Th M, DG (G.C θ) is tg gw) (hb' : DZs M G xs true body wb)
    (hs : ∀ x, foldedSetIterable iter G.env x = pure x := by intro _; rfl) : DZ M G xs false (.For tg iter body [] pos) (zFor wi gw wb) := ⟨fun θ ip kg σ ρ W s m j kk c fs Kc J gd lv hb gk gc hm R l h => by
  have ekg := hb rfl
  subst ekg
  refine sq_for hs ?_
  rw [gc.over]
  refine wpAny_mono ((hi θ).run σ ρ W _ ip s R.sat R.inv h) (fun u s1 h1 => ?_) fun y s' q => sq_xe gc.over q
  obtain ⟨W1, sc, g1, k1, I0, hsz, N, qual, scope, f, cd, go, cd0, ys, fx, rfl, hq, hgo, hgen, hgens, hos, hkp, hfx, wake⟩ := h1
  have bl := blw_of I0
  have n0c : G.n0 ≤ sc.heap.objs.size := Nat.le_of_lt bl.lo
  have bare1 : AllBare s1.gens := by rw [hgens]; exact AllBare.push I0.bare rfl
  have I1 : Inv (G.X θ) ip σ W1.H s1 := I0.call' (ch := []) hos (Un.kept hkp) (I0.hok.kept hkp) bare1 fun b z => by simp at z
  have gin : G.g < sc.gens.size := Nat.lt_of_lt_of_le R.gg hsz
  have pinFx : ∀ {fx : List (Addr × Obj)} {θ : Th M} {W : Wd M} {σ : L2.St} {s : Shared}, Inv (G.X θ) ip σ W.H s → (∀ p ∈ fx, s.heap.get? p.1 = some p.2 ∧ W.H p.1 = none ∧ sc.heap.objs.size ≤ p.1 ∧ ∀ v, p.2.data ≠ .cell v) → Inv (G.X θ) (ip ++ fx) σ W.H s := fun {fx θ W σ s} I h =>
    I.pins_of fun p hp => (List.mem_append.mp hp).elim (fun z => I.pin p (List.mem_append_right _ z)) fun z =>
      let ⟨h1, h2, h3, h4⟩ := h p z
      ⟨h1, h2, fun e => absurd (e ▸ bl.lo) (Nat.not_lt.mpr h3), fun e => absurd (bl.fs _ e) (Nat.not_lt.mpr h3), h4⟩
  have I1' : Inv (G.X θ) (ip ++ fx) σ W1.H s1 := pinFx I1 fun p hp => ⟨(hfx p hp).1, I0.hok.fresh (hfx p hp).2.1, (hfx p hp).2⟩
  have hg1 : s1.gens[sc.gens.size]? = some (.fresh cd0) := by rw [hgens]; simp
  have hsz1 : sc.gens.size < s1.gens.size := (Array.getElem?_eq_some_iff.mp hg1).1
  refine wpAny_pyIter_gen (hgen _ (hfx go hgo).1) ?_
  have hrd : Room k (G.A.deeper G.env).in1 := hr.in1
  have wk1 : Wk (gzp G.P G.w G.K G.mg G.base (G.env :: G.outer) sc.heap.objs.size sc.gens.size N qual scope f cd go (G.A.deeper G.env).in1) fx [] W1 s1 (s1.setGen sc.gens.size .running) W1 :=
    ⟨allBare_setGen bare1 rfl, fun p hp => (nomatch hp), by rw [setGen_size]; exact hsz1, Gs.refl _, k1, I1.hok, fun p hp => ⟨(hfx p hp).1, I0.hok.fresh (hfx p hp).2.1⟩, I1.bs, I1.stack, I1.stkFree⟩
  have go1 := wake (G.A.deeper G.env).in1 (s1.setGen sc.gens.size .running) W1 hrd I1.ok.frames rfl wk1
  have S1 := R.sat.step g1 k1
  have R1 : Rn G θ (ip ++ fx) [] σ ρ W1 s1 := ⟨I1', S1, fun p hp => (List.mem_append.mp hp).elim (R.ipn p) fun z => Nat.le_trans n0c (hfx p z).2.1, fun p hp => (nomatch hp), Nat.le_trans R.gz (Nat.le_trans hsz (Nat.le_of_lt hsz1)), Nat.lt_trans gin hsz1, R.tz⟩
  intro p
  have gl := fun (kc : Result → Sem PySem.Fin) => gct_loop (k := kc) (c' := .forLoop tg (.ref go.1) body [] G.env) (l := lv []) (kp := []) (p := p) gc rfl rfl
  have loop : ∀ (n i : Nat) (θ : Th M) (m j : Nat) (σ : L2.St) (ρ : DEnv) (W : Wd M) (gs : GenState) (fx : List (Addr × Obj)) (s : Shared), n + i = ys.length → m + j = xs.length → Rn G θ (ip ++ fx) [] σ ρ W s → Gs W1 W → forZ gw wb (ys.drop i) kk j θ.W.g ρ W.g →
      s.gens[sc.gens.size]? = some gs → go ∈ fx → GoQ (model G.P G.w) (G.A.deeper G.env).in1 (EndOk (gzp G.P G.w G.K G.mg G.base (G.env :: G.outer) sc.heap.objs.size sc.gens.size N qual scope f cd go (G.A.deeper G.env).in1) ys n W (s.setGen sc.gens.size .running) i) gs (s.setGen sc.gens.size .running) →
      SegQ (model G.P G.w) G.A (EndOk G xs m θ.W θ.s j) (.forLoop tg (.ref go.1) body [] G.env) ((model G.P G.w).den (.forLoop tg (.ref go.1) body [] G.env))
        (.ret (fun r => ((match r with | .ok f => (.pure f : Sem Flow) | .error e => .raise e).onRaise (cameBack G.env)).wrap Kc J gd lv) none (gd false) (lv []) c p [] :: fs) s := by
    intro n
    induction n with
    | zero =>
      intro i θ m j σ ρ W gs3 fx3 s3 hn hm R3 g3 q3 e3 go3 goq
      have isg := hgen _ (R3.inv.pin go (List.mem_append_right _ (List.mem_append_right _ go3))).1
      refine sq_forTurn ?_
      rw [(gl _).over]
      refine next_genS (A := G.A.deeper G.env) (R3.inv.ok.hd rfl) R3.inv.nolimit hr.depth isg e3 goq (fun r s4 he => ?_) fun v qq ll κ c4 p4 fs4 s4 he => ?_
      · obtain ⟨h1, hi, W4, a⟩ := endOk_ret he
        refine ⟨h1, fun h' hk => ?_⟩
        have I4 : Inv (G.X θ) ip σ W4.H s4 := inv_aft R3.inv.unpinned (blw_th n0c bl) a.go a.un a.hok a.os a.bare
        have I5 : Inv (G.X θ) ip σ W4.H { s4.setGen sc.gens.size .finished with heap := h' } := inv_gens (I4.kept (h' := h') (t' := s4.toks) hk) (allBare_setGen a.bare rfl)
        have sz4 : s3.gens.size ≤ s4.gens.size := by
          have h2 : (s3.setGen sc.gens.size .running).gens.size ≤ s4.gens.size := a.gz
          rw [setGen_size] at h2
          exact h2
        have sz5 : ({ s4.setGen sc.gens.size .finished with heap := h' } : Shared).gens.size = s4.gens.size := setGen_size _ _ _
        rw [hi, List.drop_length] at q3
        refine sq_again rfl (sq_noElse (sq_leaf (.ok .next) (l θ m j σ ρ W4 _ .next hm ⟨I5, R3.sat.step a.go a.ok, R.ipn, fun p hp => (nomatch hp), by rw [sz5]; exact Nat.le_trans R3.gz sz4, by rw [sz5]; exact Nat.lt_of_lt_of_le R3.gg sz4, R3.tz⟩ ((g1.s.trans g3).trans a.go.s) ?_)))
        show kk.nx j θ.W.g ρ W4.g
        rw [show W4.g = W.g from a.gg]
        exact q3
      · obtain ⟨m', hm, _⟩ := endOk_susp he
        cases hm
    | succ n ih =>
      intro i θ m j σ ρ W gs3 fx3 s3 hn hm R3 g3 q3 e3 go3 goq
      have isg := hgen _ (R3.inv.pin go (List.mem_append_right _ (List.mem_append_right _ go3))).1
      refine sq_forTurn ?_
      rw [(gl _).over]
      refine next_genS (A := G.A.deeper G.env) (R3.inv.ok.hd rfl) R3.inv.nolimit hr.depth isg e3 goq (fun r s4 he => ?_) fun v qq ll κ c4 p4 fs4 s4 he => ?_
      · obtain ⟨h1, hi, W4, a⟩ := endOk_ret he
        exact absurd hi (by omega)
      · obtain ⟨m', hm', hqt, x, d, W4, fx4, kg4, hx, rv, rd, a, hfx4, hgo4, hkg4, wake4⟩ := endOk_susp he
        have em : n = m' := by omega
        subst em
        refine ⟨hqt, ?_⟩
        have I4 : Inv (G.X θ) ip σ W4.H s4 := inv_aft R3.inv.unpinned (blw_th n0c bl) a.go a.un a.hok a.os a.bare
        have I4' : Inv (G.X θ) (ip ++ fx4) σ W4.H (s4.setGen sc.gens.size (End.susp v qq ll κ c4 p4 fs4).genState) := inv_gens (pinFx I4 hfx4) (allBare_setGen a.bare (End.bare_of_quiet hqt))
        have S4 := R3.sat.step a.go a.ok
        have sz4 : s3.gens.size ≤ s4.gens.size := by
          have h2 : (s3.setGen sc.gens.size .running).gens.size ≤ s4.gens.size := a.gz
          rw [setGen_size] at h2
          exact h2
        have gsz : sc.gens.size < s4.gens.size := Nat.lt_of_lt_of_le (Array.getElem?_eq_some_iff.mp e3).1 sz4
        have R4 : Rn G θ (ip ++ fx4) ((sc.gens.size, (End.susp v qq ll κ c4 p4 fs4).genState) :: kg4) σ ρ W4 (s4.setGen sc.gens.size (End.susp v qq ll κ c4 p4 fs4).genState) := by
          refine ⟨I4', S4, fun p hp => (List.mem_append.mp hp).elim (R.ipn p) fun z => Nat.le_trans n0c (hfx4 p z).2.2.1, fun p hp => ?_, by rw [setGen_size]; exact Nat.le_trans R3.gz sz4, by rw [setGen_size]; exact Nat.lt_of_lt_of_le R3.gg sz4, R3.tz⟩
          rcases List.mem_cons.mp hp with h | h
          · subst h
            exact ⟨rfl, setGen_atW gsz, gin⟩
          · obtain ⟨k1, k2, k3⟩ := hkg4 p h
            have k3' : sc.gens.size < p.1 := k3
            refine ⟨k1, ?_, Nat.lt_trans gin k3'⟩
            rw [setGen_ne (Nat.ne_of_gt k3')]
            exact k2
        obtain ⟨og, vs, ho, hcl, hdt⟩ := isGen_typed (hgen _ (hfx4 go hgo4).1)
        refine go_of (s := s4.setGen sc.gens.size (End.susp v qq ll κ c4 p4 fs4).genState) ho hcl hdt (by decide) ?_
        have hlt : i < ys.length := (List.getElem?_eq_some_iff.mp hx).1
        have hd : ys[i] = d := by
          rw [List.getElem?_eq_getElem hlt] at hx
          exact Option.some.inj hx
        rw [List.drop_eq_getElem_cons hlt, hd] at q3
        have q4 : gw d ρ fun ρ' => wb { nx := forZ gw wb (ys.drop (i + 1)) kk, bk := kk.nx, ct := forZ gw wb (ys.drop (i + 1)) kk } j θ.W.g ρ' W4.g := by
          rw [show W4.g = W.g from a.gg]
          exact q3
        have Aw := (hg θ).run σ ρ W4 x d (fun σ' H' => ∃ ρ' : DEnv, H' = W4.H ∧ Sat (G.C θ) σ' ρ' W4 ∧ wb { nx := forZ gw wb (ys.drop (i + 1)) kk, bk := kk.nx, ct := forZ gw wb (ys.drop (i + 1)) kk } j θ.W.g ρ' W4.g) _ S4 rd (fun σ' ρ' S' _ _ q' => ⟨ρ', rfl, S', q'⟩) q4
        refine wpAny_mono (wpAny_woke (Aw _ _ v (inv_dull I4') rv)) (fun _ s5 ⟨x5, gx5, e5, h5⟩ => ?_) fun y s' ⟨x5, _, _, h5⟩ => sq_xe (gl _).over h5
        subst e5
        obtain ⟨σ5, H5, I5, ρ5, rfl, S5, q5⟩ := h5
        have R5 := R4.to gx5 I5 S5
        refine hb'.run θ (ip ++ fx4) _ σ5 ρ5 W4 _ m j { nx := forZ gw wb (ys.drop (i + 1)) kk, bk := kk.nx, ct := forZ gw wb (ys.drop (i + 1)) kk } _ _ _ _ id id (fun z => nomatch z) gk (gl _) hm R5 (fun θ' m' j' σ' ρ' W' s' f hm' R' g' hf => ?_) q5
        have again : forZ gw wb (ys.drop (i + 1)) kk j' θ'.W.g ρ' W'.g → SegQ (model G.P G.w) G.A (EndOk G xs m' θ'.W θ'.s j') (.forLoop tg (.ref go.1) body [] G.env) (.pure (.again (.forLoop tg (.ref go.1) body [] G.env)))
            (.ret (fun r => ((match r with | .ok f => (.pure f : Sem Flow) | .error e => .raise e).onRaise (cameBack G.env)).wrap Kc J gd lv) none (gd false) (lv []) c p [] :: fs) s' := fun q' => by
          have kin := (R'.kg (sc.gens.size, (End.susp v qq ll κ c4 p4 fs4).genState) List.mem_cons_self).2.1
          refine sq_again rfl (ih (i + 1) θ' m' j' σ' ρ' W' _ fx4 s' (by omega) hm' R'.kg0 ((g3.trans a.go.s).trans g') q' kin hgo4 ?_)
          refine wake4 _ W' ⟨allBare_setGen R'.inv.bare rfl, fun p hp => ?_, ?_, g', R'.sat.ok, R'.inv.hok, fun p hp => ?_, R'.inv.bs, R'.inv.stack, R'.inv.stkFree⟩
          · obtain ⟨k1, k2, k3⟩ := hkg4 p hp
            rw [setGen_ne (Nat.ne_of_gt k3)]
            exact (R'.kg p (List.mem_cons_of_mem _ hp)).2.1
          · rw [setGen_size]
            exact (Array.getElem?_eq_some_iff.mp kin).1
          · have z := R'.inv.pin p (List.mem_append_right _ (List.mem_append_right _ hp))
            exact ⟨z.1, z.2.1⟩
        cases f with
        | next => exact again hf
        | cont => exact again hf
        | brk => exact sq_leaf (.ok .next) (l θ' m' j' σ' ρ' W' s' .next hm' R'.kg0.unpin (((g1.s.trans g3).trans a.go.s).trans g') hf)
        | ret v => exact hf.elim
  exact loop ys.length 0 θ m j σ ρ W1 _ fx s1 rfl hm R1 (Gs.refl _) hq hg1 hgo go1⟩
end
end DL
set_option Elab.async false
set_option linter.all false
set_option maxRecDepth 100000
set_option maxHeartbeats 1000000
namespace DL
open PySem L2
section
variable {M : Ghost} {C : Ct M}
end
end DL
set_option Elab.async false
set_option linter.all false
set_option maxRecDepth 100000
set_option maxHeartbeats 1000000
namespace DL
open PySem L2
section
variable {X : Cx}
def rSrtLL : List V → Hp → VK → Prop := fun vs H Q => ∃ (a : Addr) (ts : List Str), vs = [.ref a] ∧ H a = some (.lst (ts.map V.str)) ∧
  ∀ (ys : List Str) (p : Addr), ys.Perm ts → ys.Pairwise (fun a b => ¬ b.cps.toList < a.cps.toList) → H p = none → Q (.ref p) (upd H p (.lst (ys.map V.str)))
theorem cr_srtLL : CallR X (.builtin "sorted") rSrtLL := by
  intro pins s σ H vs us Q I r h
  obtain ⟨a, ts, rfl, ha, hq⟩ := h
  rw [Vals.ref1 r]
  obtain ⟨its, rv, ⟨o, n, e, c, _, d⟩, hz⟩ := I.list (.of ha)
  have ol : its.length ≤ sizeLine := by
    rw [← rv.length]
    exact hz
  have hS : PyProof.Rows.StrsAre its ts := rv.strs
  refine Calls.call_function_entry PyProof.Rows.kind_sorted PyProof.Rows.plain_sorted PyProof.Rows.entry_sorted (PyProof.Rows.args_sorted1 _) ?_
  unfold Builtin.«sorted»
  refine wpAny_bind (m := checkCount "sorted" 1 1 _) (wpAny_pure ?_)
  apply wpAny_bind
  refine wpAny_collect_seq a (.inl rfl) e c d (fun h' kp => ?_) (by rw [List.size_toArray]; exact ol)
  have J : Inv X pins σ H { s with heap := h' } := I.kept (t' := s.toks) kp
  have eo : its.toArray.toList = its := List.toList_toArray
  rw [eo]
  apply wpAny_bind
  refine wpAny_newList ?_ ol
  have new : (h'.push (PyProof.Rows.seqObj "list" its.toArray 0)).get? h'.objs.size = some (PyProof.Rows.seqObj "list" its.toArray 0) := Heap.get?_push_size _ rfl
  apply wpAny_bind
  apply wpAny_holding
  refine wpAny_call_entry PyProof.Rows.slot_list_sort ⟨_, new, rfl⟩ PyProof.Rows.entry_list_sort ?_ (PyProof.Rows.args_list_sort _)
  refine PyProof.Rows.list_sort_treeKAny PyProof.Rows.strKind_oneLt new hS.keysOf (fun v1 v2 rest e => PyProof.Rows.keyKind_strs (by rw [← e]; exact hS)) ol fun st h1 h2 => ⟨_, rfl, ?_⟩
  obtain ⟨ys, h3, h4, h5⟩ := PyProof.Rows.sorted_out_str hS h1 h2
  generalize ha' : Array.map (fun x => x.snd) (PyProof.Rows.arrOf st) = arr at h3
  obtain ⟨k, at_⟩ := PyProof.Rows.sortedHeap_at (vs := its) (out := arr) new
  have kp2 : ∀ b x, h'.get? b = some x → (PyProof.Rows.sortedHeap (h'.push (PyProof.Rows.seqObj "list" its.toArray 0)) h'.objs.size its arr).get? b = some x := fun b x e => by
    have lt := Heap.lt_size e
    rw [PyProof.Rows.sortedHeap_old (Nat.ne_of_lt lt) (by rw [PyProof.Rows.size_push']; exact Nat.lt_succ_of_lt lt)]
    exact Heap.get?_push_of_some _ e
  have wl : (ys.map V.str).length ≤ sizeLine := by
    rw [List.length_map, h4.length_eq]
    rw [List.length_map] at hz
    exact hz
  refine wpAny_pure ⟨_, rfl, .ref h'.objs.size, upd H h'.objs.size (.lst (ys.map V.str)), ?_, rfl, hq ys _ h4 (le_of_sortedS h5) (J.hok.fresh (Nat.le_refl _))⟩
  exact J.laid (t' := s.toks) kp2 (Nat.le_refl _) ⟨wl, arr.toList, k, vals_of_strs h3, at_⟩
end
section
variable {M : Ghost} {C : Ct M}
/-- a list of texts, sorted -/
def cSortedLL (ds : List D) (q : List D → Prop) : Prop := ∃ xs : List (List Nat), ds = [.lst (xs.map D.str)] ∧ ∀ ys : List (List Nat), ys.Perm xs → ys.Pairwise (fun a b => ¬ b < a) → q (ys.map D.str)
theorem calln_sortedLL : CallN C (.builtin "sorted") cSortedLL := by
  refine ⟨_, cr_srtLL, fun W vs ds Q q k r hQ h => ?_⟩
  obtain ⟨xs, rfl, h⟩ := h
  obtain ⟨v, rfl, r0⟩ := pair1 r
  obtain ⟨p, vs, rfl, hp, _, ra⟩ := r0.lst_inv k
  obtain ⟨zs, rfl, rfl⟩ := ra.strs
  refine ⟨p, zs, rfl, hp, fun ys t hperm srt ht => ?_⟩
  refine hQ t _ _ (W.new t (.lst _)) (Go.new k ht) (k.new ht) rfl upd_same (k.noF ht) (k.noR ht) ht (strs_rpa ys) (h (ys.map fun y => y.cps.toList) (hperm.map _) ?_)
  rw [List.pairwise_map]
  exact srt
end
end DL
set_option Elab.async false
set_option linter.all false
set_option maxRecDepth 100000
set_option maxHeartbeats 1000000
namespace DL
open PySem L2
abbrev d_l_draw : DSp stg := dDraw
/-- the tail at i is less than the tail at j -/
def tlt (w : List Nat) (i j : Nat) : Bool := decide (w.drop i < w.drop j)
/-- the places in the order of their tails -/
def tOrd (w : List Nat) : List Nat := (List.range w.length).mergeSort fun i j => !tlt w j i
def nats (xs : List Nat) : List D := xs.map fun (i : Nat) => D.int (i : Int)
def d_tail_order : DSp stg := fun ds g q _ => ∃ w : List Nat, ds = [.str w] ∧ w.length ≤ 1000 ∧ q (.tup (nats (tOrd w))) g
def isPerm (o : List Nat) : Prop := o.Perm (List.range o.length)
/-- the place of each number in a row of different ones -/
def inv (o : List Nat) : List Nat := (List.range o.length).map fun p => o.idxOf p
def d_ranks_in : DSp stg := fun ds g q _ => ∃ o : List Nat, ds = [.tup (nats o)] ∧ isPerm o ∧ o.length ≤ 1000 ∧ q (.tup (nats (inv o))) g
def txts (xs : List (List Nat)) : List D := xs.map D.str
/-- all words of a size -/
def allW (L : List Nat) : Nat → List (List Nat)
  | 0 => [[]]
  | n + 1 => (allW L n).flatMap fun h => L.map fun c => h ++ [c]
/-- the rank of a place of an order, -1 for the place behind the last one -/
def rkE (o : List Nat) (p : Nat) : Int := (((inv o).map fun (i : Nat) => (i : Int)) ++ [-1]).getD p 0
/-- the indexes of the strict steps -/
def stpW (o : List Nat) : List Nat := ((List.range (o.length - 1)).filter fun i => decide (rkE o (o.getD (i + 1) 0 + 1) < rkE o (o.getD i 0 + 1))).map (· + 1)
def d_strict_steps : DSp stg := fun ds g q _ => ∃ o : List Nat, ds = [.tup (nats o)] ∧ isPerm o ∧ o.length ≤ 1000 ∧ q (.tup (nats (stpW o))) g
end DL
set_option Elab.async false
set_option linter.all false
set_option maxRecDepth 100000
set_option maxHeartbeats 1000000
namespace DL
open PySem L2
/-- a value whose type is known -/
def okD (d : D) : Prop := ∃ t, tyN d = some t
def natD : D → Nat
  | .int i => i.toNat
  | _ => 0
/-- an order, grown by a first place of a rank -/
def grnW (o : List Nat) (s : Nat) : List Nat := (o.take s).map (· + 1) ++ 0 :: (o.drop s).map (· + 1)
/-- all orders of so many places -/
def allO : Nat → List (List Nat)
  | 0 => [[]]
  | n + 1 => (allO n).flatMap fun o => (List.range (n + 1)).map fun s => grnW o s
def tups (xs : List (List Nat)) : List D := xs.map fun o => .tup (nats o)
def d_l_all_orders : DSp stg := fun ds g q _ => ∃ n : Nat, ds = [.int n] ∧ n ≤ 6 ∧ q (.lst (tups (allO n))) g
/-- an order without its place 0 -/
def shrW (o : List Nat) : List Nat := (o.filter fun p => decide (0 < p)).map (· - 1)
/-- the number of the letter at an index of an order -/
def numW (o : List Nat) (k : Nat) : Nat := (stpW o).countP fun s => decide (s ≤ k)
def lstW (o : List Nat) : List Nat := (List.range o.length).map fun p => 97 + numW o (o.idxOf p)
def d_word_along : DSp stg := fun ds g q _ => ∃ (c : D) (o xs : List Nat), ds = [.tup (nats o), c] ∧ itemsOf c = some (nats xs) ∧ isPerm o ∧ xs.length = o.length ∧ (∀ x ∈ xs, x < 26) ∧ o.length ≤ 1000 ∧ q (.str ((List.range o.length).map fun p => 97 + xs.getD (o.idxOf p) 0)) g
abbrev abcW : List Nat := [97, 98, 99, 100, 101, 102, 103, 104, 105, 106, 107, 108, 109, 110, 111, 112, 113, 114, 115, 116, 117, 118, 119, 120, 121, 122]
def cutV (v : D) : Prop := okD v ∧ ∀ xs, v = .tup xs → xs.length ≤ 100 ∧ ∀ d ∈ xs, okD d ∧ ∀ x, d = .str x → x.length ≤ 100
end DL
set_option Elab.async false
set_option linter.all false
set_option maxRecDepth 100000
set_option maxHeartbeats 1000000
namespace DL
open PySem L2
section
variable {M : Ghost} {gw : GW} {wt : TW M} {we : EW M} {ρ : DEnv} {g : M.G} {q : List D → M.G → Prop}
/-- a comprehension that draws nothing -/
theorem lcW_map {α : Type} (e f : α → D) (p : α → Bool) : ∀ (xs : List α) {q : List D → M.G → Prop}, (∀ x ∈ xs, ∀ (k1 : D → M.G → Prop) (k0 : M.G → Prop), (if p x = true then k1 (f x) g else k0 g) → gw (e x) ρ fun ρ' => wt ρ' g fun b g1 => if b = true then we ρ' g1 k1 else k0 g1) →
    q ((xs.filter p).map f) g → lcW gw wt we ρ (xs.map e) g q
  | [], _, _, h => h
  | x :: xs, q, hs, h => by
    have ih := fun {q} => lcW_map e f p xs (q := q) (fun y hy => hs y (List.mem_cons_of_mem _ hy))
    refine hs x List.mem_cons_self _ _ ?_
    by_cases hp : p x = true
    · rw [if_pos hp]
      rw [List.filter_cons_of_pos hp] at h
      exact ih h
    · rw [if_neg hp]
      rw [List.filter_cons_of_neg hp] at h
      exact ih h
theorem lcW_all {α : Type} (e f : α → D) (xs : List α) {q : List D → M.G → Prop} (hs : ∀ x ∈ xs, ∀ (k1 : D → M.G → Prop) (k0 : M.G → Prop), k1 (f x) g → gw (e x) ρ fun ρ' => wt ρ' g fun b g1 => if b = true then we ρ' g1 k1 else k0 g1)
    (h : q (xs.map f) g) : lcW gw wt we ρ (xs.map e) g q :=
  lcW_map e f (fun _ => true) xs (fun x hx k1 k0 z => hs x hx k1 k0 (by simpa using z)) (by rw [List.filter_eq_self.mpr (fun _ _ => rfl)]; exact h)
end
section
variable {M : Ghost} {gw : GW} {wb : SW M} {k : K3 M}
/-- a for by its word -/
theorem forW_inv (I : Nat → DEnv → M.G → Prop) : ∀ (ds : List D) (n : Nat) {ρ : DEnv} {g : M.G}, (∀ (i : Nat) d ρ g (K : DEnv → M.G → Prop), ds[i]? = some d → I (n + i) ρ g → (∀ ρ g, I (n + i + 1) ρ g → K ρ g) → gw d ρ fun ρ' => wb { nx := K, rt := k.rt, bk := k.nx, ct := K } ρ' g) →
    (∀ ρ g, I (n + ds.length) ρ g → k.nx ρ g) → I n ρ g → forW gw wb ds k ρ g
  | [], n, ρ, g, _, he, h => he ρ g h
  | d :: ds, n, ρ, g, hs, he, h => by
    refine hs 0 d ρ g _ rfl h fun ρ g h' => ?_
    refine forW_inv I ds (n + 1) (fun i d ρ g K e h K1 => hs (i + 1) d ρ g K (by simpa using e) (by rw [show n + (i + 1) = n + 1 + i by omega]; exact h) (by rw [show n + (i + 1) + 1 = n + 1 + i + 1 by omega]; exact K1)) (fun ρ g h => he ρ g (by rw [List.length_cons, show n + (ds.length + 1) = n + 1 + ds.length by omega]; exact h)) h'
theorem forW_word (I : Nat → DEnv → M.G → Prop) (ds : List D) {ρ : DEnv} {g : M.G} (h0 : I 0 ρ g) (hs : ∀ (i : Nat) d ρ g (K : DEnv → M.G → Prop), ds[i]? = some d → I i ρ g → (∀ ρ g, I (i + 1) ρ g → K ρ g) → gw d ρ fun ρ' => wb { nx := K, rt := k.rt, bk := k.nx, ct := K } ρ' g)
    (he : ∀ ρ g, I ds.length ρ g → k.nx ρ g) : forW gw wb ds k ρ g :=
  forW_inv I ds 0 (fun i d ρ g K e h K1 => hs i d ρ g K e (by rw [Nat.zero_add] at h; exact h) (by rw [Nat.zero_add] at K1; exact K1)) (fun ρ g h => he ρ g (by rw [Nat.zero_add] at h; exact h)) h0
end
theorem rngL_0 (n : Nat) : rngL 0 (n : Int) = (List.range n).map fun (i : Nat) => D.int (i : Int) := by
  unfold rngL
  simp
theorem rngL_get (lo hi : Int) (i : Nat) (d : D) (h : (rngL lo hi)[i]? = some d) : (i : Int) < hi - lo ∧ d = .int (lo + i) := by
  unfold rngL at h
  rw [List.getElem?_map] at h
  by_cases hi' : i < (hi - lo).toNat
  · rw [List.getElem?_range hi'] at h
    cases h
    exact ⟨by omega, rfl⟩
  · rw [List.getElem?_eq_none (by simpa using hi')] at h
    cases h
theorem rngL_len (lo hi : Int) : (rngL lo hi).length = (hi - lo).toNat := by unfold rngL; simp
theorem small_line {n : Nat} (h : n ≤ 16777216) : n ≤ sizeLine := by rw [sizeLine_eq]; exact h
theorem lt_line {n : Nat} (h : n < 16777216) : n < sizeLine := by rw [sizeLine_eq]; exact h
theorem atI_ofNat {α : Type} {xs : List α} {j : Nat} {v : α} (h : xs[j]? = some v) : atI xs (j : Int) = some v := atI_nat h
theorem ixN_ofNat {n j : Nat} (h : j < n) : ixN n (j : Int) = some j := by
  unfold ixN
  rw [if_pos (by omega), if_pos (by omega)]
  simp
theorem cut_from {α : Type} (xs : List α) (i : Nat) : cutL xs (some (i : Int)) none = xs.drop i := by
  unfold cutL
  rw [HT.sIx_nat, HT.sIx_none]
  by_cases h : i ≤ xs.length
  · rw [Nat.min_eq_left h, List.take_of_length_le (by rw [List.length_drop]; omega)]
  · rw [Nat.min_eq_right (by omega), List.drop_length, List.drop_eq_nil_of_le (by omega)]
    simp
theorem cut_to {α : Type} (xs : List α) (i : Nat) : cutL xs none (some (i : Int)) = xs.take i := by
  unfold cutL
  rw [HT.sIx_nat, HT.sIx_none, List.drop_zero, Nat.sub_zero]
  by_cases h : i ≤ xs.length
  · rw [Nat.min_eq_left h]
  · rw [Nat.min_eq_right (by omega), List.take_length, List.take_of_length_le (by omega)]
end DL
set_option Elab.async false
set_option linter.all false
set_option maxRecDepth 100000
set_option maxHeartbeats 1000000
namespace DL
open PySem L2
section
variable {q : D → Prop} {qn : List D → Prop} {i j : Int} {x y : List Nat} {ds es : List D} {b c : Bool} {d e : D}
@[simp] theorem sm_add1 : (oAdd (.int i) (.int j) q) = (q (.int (i + j))) := rfl
@[simp] theorem sm_add2 : (oAdd (.str x) (.str y) q) = (x.length + y.length ≤ sizeLine ∧ q (.str (x ++ y))) := rfl
@[simp] theorem sm_add3 : (oAdd (.tup ds) (.tup es) q) = (ds.length + es.length ≤ sizeLine ∧ q (.tup (ds ++ es))) := rfl
@[simp] theorem sm_cat : (oCat (.lst ds) (.lst es) qn) = (ds.length + es.length ≤ sizeLine ∧ qn (ds ++ es)) := rfl
@[simp] theorem sm_sub : (oSub (.int i) (.int j) q) = (q (.int (i - j))) := rfl
@[simp] theorem sm_mul1 : (oMul (.int i) (.int j) q) = (CMul i j ∧ q (.int (i * j))) := rfl
@[simp] theorem sm_mul2 : (oMul (.str x) (.int j) q) = (0 ≤ j ∧ x.length * j.toNat ≤ sizeLine ∧ j ≤ 2 ^ 32 ∧ q (.str (List.replicate j.toNat x).flatten)) := rfl
@[simp] theorem sm_rep : (oRep (.lst ds) (.int j) qn) = (-(2 ^ 63) ≤ j ∧ j < 2 ^ 63 ∧ ds.length * j.toNat ≤ sizeLine ∧ qn (List.replicate j.toNat ds).flatten) := rfl
@[simp] theorem sm_div : (oDiv (.int i) (.int j) q) = (CDiv i j ∧ q (.int (i / j))) := rfl
@[simp] theorem sm_mod : (oMod (.int i) (.int j) q) = (0 < j ∧ q (.int (i % j))) := rfl
@[simp] theorem sm_pow : (oPow (.int i) (.int j) q) = (CPow i j ∧ q (.int (i ^ j.toNat))) := rfl
@[simp] theorem sm_lt1 : (oLt (.int i) (.int j) q) = (q (.bl (decide (i < j)))) := rfl
@[simp] theorem sm_lt2 : (oLt (.str x) (.str y) q) = (q (.bl (decide (x < y)))) := rfl
@[simp] theorem sm_le1 : (oLe (.int i) (.int j) q) = (q (.bl (decide (i ≤ j)))) := rfl
@[simp] theorem sm_le2 : (oLe (.str x) (.str y) q) = (q (.bl (!decide (y < x)))) := rfl
@[simp] theorem sm_gt1 : (oGt (.int i) (.int j) q) = (q (.bl (decide (j < i)))) := rfl
@[simp] theorem sm_gt2 : (oGt (.str x) (.str y) q) = (q (.bl (decide (y < x)))) := rfl
@[simp] theorem sm_ge1 : (oGe (.int i) (.int j) q) = (q (.bl (decide (j ≤ i)))) := rfl
@[simp] theorem sm_ge2 : (oGe (.str x) (.str y) q) = (q (.bl (!decide (x < y)))) := rfl
@[simp] theorem sm_eq1 : (oEq (.int i) (.int j) q) = (q (.bl (decide (i = j)))) := rfl
@[simp] theorem sm_eq2 : (oEq (.str x) (.str y) q) = (q (.bl (decide (x = y)))) := rfl
@[simp] theorem sm_eq3 : (oEq (.bl b) (.bl c) q) = (q (.bl (decide (b = c)))) := rfl
@[simp] theorem sm_eql : (oEq (.lst ds) e q) = (shp (.lst ds) = true ∧ shp e = true ∧ q (.bl (deq (.lst ds) e))) := rfl
@[simp] theorem sm_eqt : (oEq (.tup ds) e q) = (shp (.tup ds) = true ∧ shp e = true ∧ q (.bl (deq (.tup ds) e))) := rfl
@[simp] theorem sm_eqn : (oEq (.non) e q) = (shp (.non) = true ∧ shp e = true ∧ q (.bl (deq (.non) e))) := rfl
@[simp] theorem sm_eqli : (oEq (.int i) (.lst es) q) = (shp (.int i) = true ∧ shp (.lst es) = true ∧ q (.bl (deq (.int i) (.lst es)))) := rfl
@[simp] theorem sm_eqls : (oEq (.str x) (.lst es) q) = (shp (.str x) = true ∧ shp (.lst es) = true ∧ q (.bl (deq (.str x) (.lst es)))) := rfl
@[simp] theorem sm_eqlb : (oEq (.bl b) (.lst es) q) = (shp (.bl b) = true ∧ shp (.lst es) = true ∧ q (.bl (deq (.bl b) (.lst es)))) := rfl
@[simp] theorem sm_eqti : (oEq (.int i) (.tup es) q) = (shp (.int i) = true ∧ shp (.tup es) = true ∧ q (.bl (deq (.int i) (.tup es)))) := rfl
@[simp] theorem sm_eqts : (oEq (.str x) (.tup es) q) = (shp (.str x) = true ∧ shp (.tup es) = true ∧ q (.bl (deq (.str x) (.tup es)))) := rfl
@[simp] theorem sm_eqtb : (oEq (.bl b) (.tup es) q) = (shp (.bl b) = true ∧ shp (.tup es) = true ∧ q (.bl (deq (.bl b) (.tup es)))) := rfl
@[simp] theorem sm_eqni : (oEq (.int i) (.non) q) = (shp (.int i) = true ∧ shp (.non) = true ∧ q (.bl (deq (.int i) (.non)))) := rfl
@[simp] theorem sm_eqns : (oEq (.str x) (.non) q) = (shp (.str x) = true ∧ shp (.non) = true ∧ q (.bl (deq (.str x) (.non)))) := rfl
@[simp] theorem sm_eqnb : (oEq (.bl b) (.non) q) = (shp (.bl b) = true ∧ shp (.non) = true ∧ q (.bl (deq (.bl b) (.non)))) := rfl
@[simp] theorem sm_eqis : (oEq (.int i) (.str x) q) = (shp (.int i) = true ∧ shp (.str x) = true ∧ q (.bl (deq (.int i) (.str x)))) := rfl
@[simp] theorem sm_eqsi : (oEq (.str x) (.int i) q) = (shp (.str x) = true ∧ shp (.int i) = true ∧ q (.bl (deq (.str x) (.int i)))) := rfl
@[simp] theorem sm_eqib : (oEq (.int i) (.bl b) q) = (shp (.int i) = true ∧ shp (.bl b) = true ∧ q (.bl (deq (.int i) (.bl b)))) := rfl
@[simp] theorem sm_eqbi : (oEq (.bl b) (.int i) q) = (shp (.bl b) = true ∧ shp (.int i) = true ∧ q (.bl (deq (.bl b) (.int i)))) := rfl
@[simp] theorem sm_eqsb : (oEq (.str x) (.bl b) q) = (shp (.str x) = true ∧ shp (.bl b) = true ∧ q (.bl (deq (.str x) (.bl b)))) := rfl
@[simp] theorem sm_eqbs : (oEq (.bl b) (.str x) q) = (shp (.bl b) = true ∧ shp (.str x) = true ∧ q (.bl (deq (.bl b) (.str x)))) := rfl
@[simp] theorem sm_ne1 : (oNe (.int i) (.int j) q) = (q (.bl (!decide (i = j)))) := rfl
@[simp] theorem sm_ne2 : (oNe (.str x) (.str y) q) = (q (.bl (!decide (x = y)))) := rfl
@[simp] theorem sm_ne3 : (oNe (.bl b) (.bl c) q) = (q (.bl (!decide (b = c)))) := rfl
@[simp] theorem sm_nel : (oNe (.lst ds) e q) = (shp (.lst ds) = true ∧ shp e = true ∧ q (.bl (!deq (.lst ds) e))) := rfl
@[simp] theorem sm_net : (oNe (.tup ds) e q) = (shp (.tup ds) = true ∧ shp e = true ∧ q (.bl (!deq (.tup ds) e))) := rfl
@[simp] theorem sm_nen : (oNe (.non) e q) = (shp (.non) = true ∧ shp e = true ∧ q (.bl (!deq (.non) e))) := rfl
@[simp] theorem sm_neli : (oNe (.int i) (.lst es) q) = (shp (.int i) = true ∧ shp (.lst es) = true ∧ q (.bl (!deq (.int i) (.lst es)))) := rfl
@[simp] theorem sm_nels : (oNe (.str x) (.lst es) q) = (shp (.str x) = true ∧ shp (.lst es) = true ∧ q (.bl (!deq (.str x) (.lst es)))) := rfl
@[simp] theorem sm_nelb : (oNe (.bl b) (.lst es) q) = (shp (.bl b) = true ∧ shp (.lst es) = true ∧ q (.bl (!deq (.bl b) (.lst es)))) := rfl
@[simp] theorem sm_neti : (oNe (.int i) (.tup es) q) = (shp (.int i) = true ∧ shp (.tup es) = true ∧ q (.bl (!deq (.int i) (.tup es)))) := rfl
@[simp] theorem sm_nets : (oNe (.str x) (.tup es) q) = (shp (.str x) = true ∧ shp (.tup es) = true ∧ q (.bl (!deq (.str x) (.tup es)))) := rfl
@[simp] theorem sm_netb : (oNe (.bl b) (.tup es) q) = (shp (.bl b) = true ∧ shp (.tup es) = true ∧ q (.bl (!deq (.bl b) (.tup es)))) := rfl
@[simp] theorem sm_neni : (oNe (.int i) (.non) q) = (shp (.int i) = true ∧ shp (.non) = true ∧ q (.bl (!deq (.int i) (.non)))) := rfl
@[simp] theorem sm_nens : (oNe (.str x) (.non) q) = (shp (.str x) = true ∧ shp (.non) = true ∧ q (.bl (!deq (.str x) (.non)))) := rfl
@[simp] theorem sm_nenb : (oNe (.bl b) (.non) q) = (shp (.bl b) = true ∧ shp (.non) = true ∧ q (.bl (!deq (.bl b) (.non)))) := rfl
@[simp] theorem sm_neis : (oNe (.int i) (.str x) q) = (shp (.int i) = true ∧ shp (.str x) = true ∧ q (.bl (!deq (.int i) (.str x)))) := rfl
@[simp] theorem sm_nesi : (oNe (.str x) (.int i) q) = (shp (.str x) = true ∧ shp (.int i) = true ∧ q (.bl (!deq (.str x) (.int i)))) := rfl
@[simp] theorem sm_neib : (oNe (.int i) (.bl b) q) = (shp (.int i) = true ∧ shp (.bl b) = true ∧ q (.bl (!deq (.int i) (.bl b)))) := rfl
@[simp] theorem sm_nebi : (oNe (.bl b) (.int i) q) = (shp (.bl b) = true ∧ shp (.int i) = true ∧ q (.bl (!deq (.bl b) (.int i)))) := rfl
@[simp] theorem sm_nesb : (oNe (.str x) (.bl b) q) = (shp (.str x) = true ∧ shp (.bl b) = true ∧ q (.bl (!deq (.str x) (.bl b)))) := rfl
@[simp] theorem sm_nebs : (oNe (.bl b) (.str x) q) = (shp (.bl b) = true ∧ shp (.str x) = true ∧ q (.bl (!deq (.bl b) (.str x)))) := rfl
@[simp] theorem sm_isn : (oIsN d .non q) = (q (.bl (isN d))) := rfl
@[simp] theorem sm_notn : (oNotN d .non q) = (q (.bl (!isN d))) := rfl
@[simp] theorem sm_isN_non : (isN (.non)) = (true) := rfl
@[simp] theorem sm_isN_int : (isN (.int i)) = (false) := rfl
@[simp] theorem sm_isN_str : (isN (.str x)) = (false) := rfl
@[simp] theorem sm_isN_bl : (isN (.bl b)) = (false) := rfl
@[simp] theorem sm_isN_lst : (isN (.lst ds)) = (false) := rfl
@[simp] theorem sm_isN_tup : (isN (.tup ds)) = (false) := rfl
@[simp] theorem sm_ix1 : (oIx (.lst ds) (.int i) q) = (∃ d, atI ds i = some d ∧ q d) := rfl
@[simp] theorem sm_ix2 : (oIx (.tup ds) (.int i) q) = (∃ d, atI ds i = some d ∧ q d) := rfl
@[simp] theorem sm_ix3 : (oIx (.str x) (.int i) q) = (x.length ≤ sizeLine ∧ ∃ c, atI x i = some c ∧ q (.str [c])) := rfl
variable {lo hi : Option Int}
@[simp] theorem sm_sl1 : (oSl (.str x) lo hi q) = (x.length ≤ sizeLine ∧ q (.str (cutL x lo hi))) := rfl
@[simp] theorem sm_sl2 : (oSl (.tup ds) lo hi q) = (q (.tup (cutL ds lo hi))) := rfl
@[simp] theorem sm_sl3 : (oSl (.lst ds) lo hi q) = (q (.lst (cutL ds lo hi))) := rfl
@[simp] theorem sm_sl4 : (oSlN (.lst ds) lo hi qn) = (qn (cutL ds lo hi)) := rfl
@[simp] theorem sm_len1 : (cLen [.str x] q) = (x.length ≤ sizeLine ∧ q (.int x.length)) := rfl
@[simp] theorem sm_len2 : (cLen [.lst ds] q) = (q (.int ds.length)) := rfl
@[simp] theorem sm_len3 : (cLen [.tup ds] q) = (q (.int ds.length)) := rfl
@[simp] theorem sm_tup1 : (cTuple [.lst ds] q) = (q (.tup ds)) := rfl
@[simp] theorem sm_tup2 : (cTuple [.tup ds] q) = (q (.tup ds)) := rfl
@[simp] theorem sm_list1 : (cList [.lst ds] qn) = (qn ds) := rfl
@[simp] theorem sm_list2 : (cList [.tup ds] qn) = (qn ds) := rfl
@[simp] theorem sm_min2 : (cMin2 [.int i, .int j] q) = (q (.int (if j < i then j else i))) := rfl
@[simp] theorem sm_max2 : (cMax2 [.int i, .int j] q) = (q (.int (if j > i then j else i))) := rfl
@[simp] theorem sm_int1 : (cInt [.int i] q) = (q (.int i)) := rfl
@[simp] theorem sm_int2 : (cInt [.bl b] q) = (q (.int (if b then 1 else 0))) := rfl
@[simp] theorem sm_str1 : (cStr [.int i] q) = (i.natAbs.log2 < 1920 ∧ q (.str (dec i))) := rfl
@[simp] theorem sm_rev1 : (oRev (.lst ds) q) = (q (.lst ds.reverse)) := rfl
@[simp] theorem sm_rev2 : (oRev (.tup ds) q) = (q (.tup ds.reverse)) := rfl
@[simp] theorem sm_rev3 : (oRevN (.lst ds) qn) = (qn ds.reverse) := rfl
theorem in_seqL {f : Bool → Bool} : (oInB f d (.lst ds) q) = (flatD d = true ∧ ds.all flatD = true ∧ q (.bl (f (ds.any fun y => eqF y d)))) := by
  cases d with
  | str x => cases x with
    | nil => rfl
    | cons a t => cases t <;> rfl
  | _ => rfl
theorem in_seqT {f : Bool → Bool} : (oInB f d (.tup ds) q) = (flatD d = true ∧ ds.all flatD = true ∧ q (.bl (f (ds.any fun y => eqF y d)))) := by
  cases d with
  | str x => cases x with
    | nil => rfl
    | cons a t => cases t <;> rfl
  | _ => rfl
@[simp] theorem sm_in1 : (oIn d (.lst ds) q) = (flatD d = true ∧ ds.all flatD = true ∧ q (.bl (ds.any fun y => eqF y d))) := in_seqL
@[simp] theorem sm_in2 : (oIn d (.tup ds) q) = (flatD d = true ∧ ds.all flatD = true ∧ q (.bl (ds.any fun y => eqF y d))) := in_seqT
@[simp] theorem sm_in3 {c : Nat} : (oIn (.str [c]) (.str x) q) = (q (.bl (decide (c ∈ x)))) := rfl
@[simp] theorem sm_nin1 : (oNotIn d (.lst ds) q) = (flatD d = true ∧ ds.all flatD = true ∧ q (.bl (!ds.any fun y => eqF y d))) := in_seqL
@[simp] theorem sm_nin2 : (oNotIn d (.tup ds) q) = (flatD d = true ∧ ds.all flatD = true ∧ q (.bl (!ds.any fun y => eqF y d))) := in_seqT
@[simp] theorem sm_nin3 {c : Nat} : (oNotIn (.str [c]) (.str x) q) = (q (.bl (!decide (c ∈ x)))) := rfl
@[simp] theorem sm_flat1 : flatD (.int i) = true := rfl
@[simp] theorem sm_flat2 : flatD (.str x) = true := rfl
@[simp] theorem sm_flat3 : flatD (.bl b) = true := rfl
@[simp] theorem sm_isi1 {T : String} : (isiD T (.int i) q) = (q (.bl (isTyp "int" T))) := by
  unfold isiD
  exact propext ⟨fun ⟨t, h1, h2⟩ => by cases h1; exact h2, fun h => ⟨_, rfl, h⟩⟩
@[simp] theorem sm_isi2 {T : String} : (isiD T (.str x) q) = (q (.bl (isTyp "str" T))) := by
  unfold isiD
  exact propext ⟨fun ⟨t, h1, h2⟩ => by cases h1; exact h2, fun h => ⟨_, rfl, h⟩⟩
@[simp] theorem sm_isi3 {T : String} : (isiD T (.bl b) q) = (q (.bl (isTyp "bool" T))) := by
  unfold isiD
  exact propext ⟨fun ⟨t, h1, h2⟩ => by cases h1; exact h2, fun h => ⟨_, rfl, h⟩⟩
@[simp] theorem sm_isi4 {T : String} : (isiD T .non q) = (q (.bl (isTyp "NoneType" T))) := by
  unfold isiD
  exact propext ⟨fun ⟨t, h1, h2⟩ => by cases h1; exact h2, fun h => ⟨_, rfl, h⟩⟩
@[simp] theorem sm_isi5 {T : String} : (isiD T (.lst ds) q) = (q (.bl (isTyp "list" T))) := by
  unfold isiD
  exact propext ⟨fun ⟨t, h1, h2⟩ => by cases h1; exact h2, fun h => ⟨_, rfl, h⟩⟩
@[simp] theorem sm_isi6 {T : String} : (isiD T (.tup ds) q) = (q (.bl (isTyp "tuple" T))) := by
  unfold isiD
  exact propext ⟨fun ⟨t, h1, h2⟩ => by cases h1; exact h2, fun h => ⟨_, rfl, h⟩⟩
variable {qb : Bool → Prop} {qi : Int → Prop} {qs : List Nat → Prop}
@[simp] theorem sm_isB : (isB (.bl b) qb) = (qb b) := rfl
@[simp] theorem sm_asI : (asI (.int i) qi) = (qi i) := rfl
@[simp] theorem sm_asS : (asS (.str x) qs) = (qs x) := rfl
@[simp] theorem sm_it1 : (itemsOf (.lst ds)) = (some ds) := rfl
@[simp] theorem sm_it2 : (itemsOf (.tup ds)) = (some ds) := rfl
@[simp] theorem sm_it3 : (itemsOf (.str x)) = (some (x.map fun c => D.str [c])) := rfl
end
theorem draw_n {n g : Nat} {Q : D → Nat → Prop} {ex : Exn → Nat → Prop} (h0 : 0 < n) (h1 : n < 1152921504606846976) (hg : g + 1 ≤ 2 ^ 60) (h : ∀ v : Nat, v < n → Q (.int v) (g + 1)) : dDraw [.ob 0, .int n] g Q ex :=
  ⟨n, rfl, by omega, by omega, hg, fun v hv hv2 => by
    obtain ⟨m, rfl⟩ := Int.eq_ofNat_of_zero_le hv
    exact h m (by omega)⟩
theorem draw_l {k g : Nat} {Q : D → Nat → Prop} {ex : Exn → Nat → Prop} (hg : g + 1 ≤ 2 ^ 60) (h : ∀ v : Nat, v < k → Q (.int v) (g + 1)) (h0 : 0 < k := by decide) (h1 : k < 1152921504606846976 := by decide) {j : Int} (e : j = k := by rfl) : dDraw [.ob 0, .int j] g Q ex := by
  subst e
  exact draw_n h0 h1 hg h
end DL
set_option Elab.async false
set_option linter.all false
set_option maxRecDepth 100000
set_option maxHeartbeats 1000000
namespace DL
open PySem L2
theorem perm_strict_eq {α : Type} {R : α → α → Prop} (as : ∀ a b, R a b → R b a → False) : ∀ {l1 l2 : List α}, l1.Perm l2 → l1.Pairwise R → l2.Pairwise R → l1 = l2
  | [], l2, p, _, _ => by rw [List.nil_perm.mp p]
  | a :: r, [], p, _, _ => by cases List.perm_nil.mp p
  | a :: r, b :: t, p, h1, h2 => by
    rw [List.pairwise_cons] at h1 h2
    have e : a = b := by
      rcases List.mem_cons.mp (p.mem_iff.mp List.mem_cons_self) with e | ha
      · exact e
      · rcases List.mem_cons.mp (p.symm.mem_iff.mp (List.mem_cons_self (a := b) (l := t))) with e | hb
        · exact e.symm
        · exact (as a b (h1.1 b hb) (h2.1 a ha)).elim
    subst e
    rw [perm_strict_eq as (List.Perm.cons_inv p) h1.2 h2.2]
/-- the tails stand in their order -/
def IsTO (w : List Nat) (o : List Nat) : Prop := o.Perm (List.range w.length) ∧ o.Pairwise fun i j => w.drop i < w.drop j
theorem lt_asymmL {a b : List Nat} (h : a < b) (h' : b < a) : False := List.lt_irrefl a (List.lt_trans h h')
theorem IsTO.uniq {w o o' : List Nat} (h : IsTO w o) (h' : IsTO w o') : o = o' := perm_strict_eq (fun _ _ a b => lt_asymmL a b) (h.1.trans h'.1.symm) h.2 h'.2
theorem drop_inj {w : List Nat} {i j : Nat} (hi : i < w.length) (hj : j < w.length) (e : w.drop i = w.drop j) : i = j := by
  have := congrArg List.length e
  rw [List.length_drop, List.length_drop] at this
  omega
theorem isTO_of_le {w o : List Nat} (p : o.Perm (List.range w.length)) (h : o.Pairwise fun i j => ¬ w.drop j < w.drop i) : IsTO w o := by
  refine ⟨p, ?_⟩
  have nd : o.Nodup := p.nodup_iff.mpr List.nodup_range
  have both := h.and nd
  refine both.imp_of_mem fun {i j} hi hj hij => ?_
  have hi' := List.mem_range.mp (p.mem_iff.mp hi)
  have hj' := List.mem_range.mp (p.mem_iff.mp hj)
  have le := List.not_lt.mp hij.1
  rcases Classical.em (w.drop i < w.drop j) with h | h
  · exact h
  · exact absurd (drop_inj hi' hj' (List.le_antisymm le (List.not_lt.mp h))) hij.2
theorem tOrd_is (w : List Nat) : IsTO w (tOrd w) := by
  refine isTO_of_le (List.mergeSort_perm _ _) ?_
  have tr : ∀ a b c : Nat, (!tlt w b a) = true → (!tlt w c b) = true → (!tlt w c a) = true := fun a b c h1 h2 => by
    simp only [tlt, Bool.not_eq_true', decide_eq_false_iff_not] at *
    exact List.not_lt.mpr (List.le_trans (List.not_lt.mp h1) (List.not_lt.mp h2))
  have to : ∀ a b : Nat, ((!tlt w b a) || (!tlt w a b)) = true := fun a b => by
    simp only [tlt, Bool.or_eq_true, Bool.not_eq_true', decide_eq_false_iff_not]
    rcases Classical.em (w.drop b < w.drop a) with h | h
    · exact .inr fun h' => lt_asymmL h h'
    · exact .inl h
  refine (List.pairwise_mergeSort (le := fun i j => !tlt w j i) tr to (List.range w.length)).imp fun {i j} h => ?_
  simp only [tlt, Bool.not_eq_true', decide_eq_false_iff_not] at h
  exact h
theorem IsTO.eq {w o : List Nat} (h : IsTO w o) : o = tOrd w := h.uniq (tOrd_is w)
theorem tOrd_len (w : List Nat) : (tOrd w).length = w.length := by rw [(tOrd_is w).1.length_eq, List.length_range]
theorem tOrd_lt {w : List Nat} {i : Nat} (h : i ∈ tOrd w) : i < w.length := List.mem_range.mp ((tOrd_is w).1.mem_iff.mp h)
/-- the sorted pairs give the tail order -/
theorem sorted_TO {w : List Nat} {ys : List (List Nat × Int)} (hp : ys.Perm ((List.range w.length).map fun i : Nat => (w.drop i, (i : Int)))) (hs : ys.Pairwise leTI) : ys.map (fun y => D.int y.2) = nats (tOrd w) := by
  obtain ⟨o, ho, rfl⟩ := perm_map_inv (f := fun i : Nat => (w.drop i, (i : Int))) hp _ rfl
  rw [List.pairwise_map] at hs
  have := isTO_of_le ho (hs.imp fun {i j} h => by
    rcases h with h | ⟨h, _⟩
    · exact fun h' => lt_asymmL h h'
    · intro h'
      have e : w.drop i = w.drop j := h
      rw [e] at h'
      exact List.lt_irrefl _ h')
  rw [← this.eq, List.map_map]
  rfl
theorem inv_len (o : List Nat) : (inv o).length = o.length := by unfold inv; rw [List.length_map, List.length_range]
theorem isPerm.nodup {o : List Nat} (h : isPerm o) : o.Nodup := List.Perm.nodup_iff h |>.mpr List.nodup_range
theorem isPerm.lt {o : List Nat} (h : isPerm o) {i : Nat} (hi : i ∈ o) : i < o.length := List.mem_range.mp (List.Perm.mem_iff h |>.mp hi)
theorem isPerm.mem {o : List Nat} (h : isPerm o) {i : Nat} (hi : i < o.length) : i ∈ o := List.Perm.mem_iff h |>.mpr (List.mem_range.mpr hi)
theorem inv_get {o : List Nat} {p : Nat} (hp : p < o.length) : (inv o)[p]? = some (o.idxOf p) := by
  unfold inv
  rw [List.getElem?_map, List.getElem?_range hp]
  rfl
theorem idx_of_get {o : List Nat} (h : o.Nodup) {j p : Nat} (e : o[j]? = some p) : o.idxOf p = j := by
  obtain ⟨hj, rfl⟩ := List.getElem?_eq_some_iff.mp e
  exact h.idxOf_getElem j hj
theorem get_idx {o : List Nat} {p : Nat} (h : p ∈ o) : o[o.idxOf p]? = some p := by
  have := List.idxOf_lt_length_of_mem h
  rw [List.getElem?_eq_getElem this, List.getElem_idxOf]
/-- ranks filled in by their places -/
theorem filled_inv {o : List Nat} {F : List D} (ho : isPerm o) (hl : F.length = o.length) (h : ∀ (j p : Nat), o[j]? = some p → F[p]? = some (.int j)) : F = nats (inv o) := by
  refine List.ext_getElem? fun p => ?_
  by_cases hp : p < o.length
  · unfold nats
    rw [List.getElem?_map, inv_get hp, h _ _ (get_idx (ho.mem hp))]
    rfl
  · rw [List.getElem?_eq_none (by omega), List.getElem?_eq_none (by unfold nats; rw [List.length_map, inv_len]; omega)]
theorem tOrd_perm (w : List Nat) : isPerm (tOrd w) := by
  unfold isPerm
  rw [tOrd_len]
  exact (tOrd_is w).1
theorem nats_get {o : List Nat} {i : Nat} {d : D} (h : (nats o)[i]? = some d) : ∃ p : Nat, o[i]? = some p ∧ d = .int p := by
  unfold nats at h
  rw [List.getElem?_map] at h
  cases hp : o[i]? with
  | none => rw [hp] at h; cases h
  | some p => rw [hp] at h; cases h; exact ⟨p, rfl, rfl⟩
theorem nats_len (o : List Nat) : (nats o).length = o.length := by unfold nats; rw [List.length_map]
theorem en_get {ds : List D} {i : Nat} {d : D} (h : (enL 0 ds)[i]? = some d) : ∃ e, ds[i]? = some e ∧ d = .tup [.int (i : Nat), e] := by
  rw [enL_get, Nat.zero_add] at h
  cases hp : ds[i]? with
  | none => rw [hp] at h; cases h
  | some p => rw [hp] at h; cases h; exact ⟨p, rfl, rfl⟩
theorem enL_len : ∀ (ds : List D) (n : Nat), (enL n ds).length = ds.length
  | [], _ => rfl
  | d :: ds, n => by show (enL (n + 1) ds).length + 1 = _; rw [enL_len ds (n + 1)]; rfl
theorem allW_len (L : List Nat) : ∀ (n : Nat), ∀ w ∈ allW L n, w.length = n
  | 0, w, h => by rw [List.mem_singleton.mp h]; rfl
  | n + 1, w, h => by
    obtain ⟨v, hv, hw⟩ := List.mem_flatMap.mp h
    obtain ⟨c, hc, rfl⟩ := List.mem_map.mp hw
    rw [List.length_append, allW_len L n v hv]
    rfl
end DL
set_option Elab.async false
set_option linter.all false
set_option maxRecDepth 100000
set_option maxHeartbeats 1000000
namespace DL
open PySem L2
/-- shown in at most n signs, nested at most k levels -/
structure RB (n k : Nat) (d : D) : Prop where
  show_ : (py d).showable = true
  pl : pln d = true
  dep : (py d).depth ≤ k
  len : (py d).shown.length ≤ n
theorem RB.mono {n m k l : Nat} {d : D} (h : RB n k d) (a : n ≤ m) (b : k ≤ l) : RB m l d := ⟨h.1, h.2, Nat.le_trans h.3 b, Nat.le_trans h.4 a⟩
theorem RB.ok {n k : Nat} {d : D} (h : RB n k d) (a : n ≤ 16777216) (b : k ≤ 60) : repOk d := ⟨h.1, h.2, Nat.le_trans h.3 b, by rw [sizeLine_eq]; exact Nat.le_trans h.4 a⟩
end DL
set_option Elab.async false
set_option linter.all false
set_option maxRecDepth 100000
set_option maxHeartbeats 1000000
namespace DL
open PySem L2
theorem jn_ones : ∀ xs : List Nat, jn [] (xs.map fun c => [c]) = xs
  | [] => rfl
  | [a] => rfl
  | a :: b :: r => by
    have := jn_ones (b :: r)
    show [a] ++ ([] ++ TL.joinL [] ((b :: r).map fun c => [c])) = _
    rw [show TL.joinL [] ((b :: r).map fun c => [c]) = b :: r from this]
    rfl
theorem ones_sum (xs : List Nat) : ((xs.map fun c => [c]).map (·.length)).sum = xs.length := by
  induction xs with
  | nil => rfl
  | cons a r ih => simp at ih ⊢; omega
end DL
set_option Elab.async false
set_option linter.all false
set_option maxRecDepth 100000
set_option maxHeartbeats 1000000
namespace DL
open PySem L2
/-- may be compared: nested at most k levels -/
structure Sh (k : Nat) (d : D) : Prop where
  lay : (py d).canLay0 = true
  dep : (py d).depth ≤ k
  pl : pln d = true
theorem Sh.mono {k l : Nat} {d : D} (h : Sh k d) (a : k ≤ l) : Sh l d := ⟨h.1, Nat.le_trans h.2 a, h.3⟩
theorem Sh.ok {k : Nat} {d : D} (h : Sh k d) (a : k ≤ 64) : shp d = true := by
  unfold shp SeqAt.shaped
  rw [h.1, h.3, decide_eq_true (Nat.le_trans h.2 a)]
  rfl
theorem sh_int (i : Int) : Sh 0 (.int i) := ⟨rfl, Nat.le_refl _, rfl⟩
theorem sh_str (x : List Nat) (h : ∀ c ∈ x, c < 1114112) : Sh 0 (.str x) := ⟨by
  show PyData.strOk (S x) = true
  unfold PyData.strOk
  rw [← Array.all_toList, S_list, List.all_eq_true]
  exact fun c hc => decide_eq_true (h c hc), Nat.le_refl _, rfl⟩
theorem shA {k : Nat} : ∀ {ds : List D}, (∀ d ∈ ds, Sh k d) → PyData.canLayAll0 (pyA ds) = true ∧ PyData.depthAll (pyA ds) ≤ k ∧ plnA ds = true
  | [], _ => ⟨rfl, Nat.zero_le _, rfl⟩
  | d :: ds, h => by
    obtain ⟨h1, h2, h3⟩ := shA fun x hx => h x (List.mem_cons_of_mem _ hx)
    have q := h d List.mem_cons_self
    refine ⟨?_, ?_, ?_⟩
    · simp [pyA, PyData.canLayAll0, q.1, h1]
    · simp only [pyA, PyData.depthAll]
      exact Nat.max_le.mpr ⟨q.2, h2⟩
    · simp [plnA, q.3, h3]
theorem sh_lst {k : Nat} {ds : List D} (h : ∀ d ∈ ds, Sh k d) : Sh (k + 1) (.lst ds) := by
  obtain ⟨h1, h2, h3⟩ := shA h
  refine ⟨by simpa [py, PyData.canLay0] using h1, ?_, by simpa [pln] using h3⟩
  simp only [py, PyData.depth]; omega
theorem sh_tup {k : Nat} {ds : List D} (h : ∀ d ∈ ds, Sh k d) : Sh (k + 1) (.tup ds) := by
  obtain ⟨h1, h2, h3⟩ := shA h
  refine ⟨by simpa [py, PyData.canLay0] using h1, ?_, by simpa [pln] using h3⟩
  simp only [py, PyData.depth]; omega
theorem sh_nats (xs : List Nat) : ∀ d ∈ nats xs, Sh 0 d := fun d hd => by
  obtain ⟨i, hi, rfl⟩ := List.mem_map.mp hd
  exact sh_int _
mutual
def nb : D → Bool
  | .non => true
  | .int _ => true
  | .str _ => true
  | .lst ds => nbA ds
  | .tup ds => nbA ds
  | _ => false
def nbA : List D → Bool
  | [] => true
  | d :: ds => nb d && nbA ds
end
mutual
theorem deq_iff : ∀ (d e : D), nb d = true → nb e = true → (deq d e = true ↔ d = e)
  | .non, e, _, he => by cases e <;> simp_all [deq, py, PyData.eqv, nb]
  | .int i, e, _, he => by cases e <;> simp_all [deq, py, PyData.eqv, nb]
  | .str x, e, _, he => by
    cases e with
    | str y =>
      simp only [deq, py, PyData.eqv]
      rw [str_beq, S_list, S_list]
      simp
    | _ => simp_all [deq, py, PyData.eqv, nb]
  | .lst xs, e, hd, he => by
    cases e with
    | lst ys =>
      have := deqA_iff xs ys (by simpa [nb] using hd) (by simpa [nb] using he)
      simp only [deq, py, PyData.eqv]
      rw [this]
      simp
    | _ => simp_all [deq, py, PyData.eqv, nb]
  | .tup xs, e, hd, he => by
    cases e with
    | tup ys =>
      have := deqA_iff xs ys (by simpa [nb] using hd) (by simpa [nb] using he)
      simp only [deq, py, PyData.eqv]
      rw [this]
      simp
    | _ => simp_all [deq, py, PyData.eqv, nb]
  | .bl b, _, hd, _ => by simp [nb] at hd
  | .dic b, _, hd, _ => by simp [nb] at hd
  | .ob b, _, hd, _ => by simp [nb] at hd
  | .exn _ _ _, _, hd, _ => by simp [nb] at hd
  | .tx _, _, hd, _ => by simp [nb] at hd
theorem deqA_iff : ∀ (ds es : List D), nbA ds = true → nbA es = true → (PyData.eqvAll (pyA ds) (pyA es) = true ↔ ds = es)
  | [], [], _, _ => by simp [pyA, PyData.eqvAll]
  | [], _ :: _, _, _ => by simp [pyA, PyData.eqvAll]
  | _ :: _, [], _, _ => by simp [pyA, PyData.eqvAll]
  | d :: ds, e :: es, hd, he => by
    have h1 : nb d = true ∧ nbA ds = true := by simpa [nbA] using hd
    have h2 : nb e = true ∧ nbA es = true := by simpa [nbA] using he
    have a := deq_iff d e h1.1 h2.1
    have b := deqA_iff ds es h1.2 h2.2
    simp only [pyA, PyData.eqvAll, Bool.and_eq_true, List.cons.injEq]
    exact and_congr a b
end
theorem nbA_all {ds : List D} : nbA ds = true ↔ ∀ d ∈ ds, nb d = true := by
  induction ds with
  | nil => simp [nbA]
  | cons d ds ih => simp [nbA, ih]
theorem nb_nats (xs : List Nat) : nbA (nats xs) = true := nbA_all.mpr fun d hd => by
  obtain ⟨i, hi, rfl⟩ := List.mem_map.mp hd
  rfl
theorem nb_txts (xs : List (List Nat)) : nbA (txts xs) = true := nbA_all.mpr fun d hd => by
  obtain ⟨i, hi, rfl⟩ := List.mem_map.mp hd
  rfl
theorem deq_refl {d : D} (h : nb d = true) : deq d d = true := (deq_iff d d h h).mpr rfl
end DL
set_option Elab.async false
set_option linter.all false
set_option maxRecDepth 100000
set_option maxHeartbeats 1000000
namespace DL
open PySem L2
@[simp] theorem natD_int {i : Nat} : natD (.int i) = i := rfl
theorem all_cons {α : Type} {P : α → Prop} {x : α} {xs : List α} (h : P x) (t : ∀ y ∈ xs, P y) : ∀ y ∈ x :: xs, P y := fun y hy => by
  rcases List.mem_cons.mp hy with rfl | hy
  · exact h
  · exact t y hy
theorem all_nil {α : Type} {P : α → Prop} : ∀ y ∈ ([] : List α), P y := fun y hy => nomatch hy
theorem flat_nats {xs : List Nat} : ∀ x ∈ nats xs, flatD x = true := fun x hx => by
  obtain ⟨i, _, rfl⟩ := List.mem_map.mp hx
  rfl
end DL
set_option Elab.async false
set_option linter.all false
set_option maxRecDepth 100000
set_option maxHeartbeats 1000000
namespace DL
open PySem L2
theorem stpW_len (o : List Nat) : (stpW o).length ≤ o.length - 1 := by
  unfold stpW
  rw [List.length_map]
  refine Nat.le_trans (List.length_filter_le _ _) ?_
  rw [List.length_range]
  exact Nat.le_refl _
theorem nats_at {o : List Nat} {i : Nat} (h : i < o.length) : (nats o)[i]? = some (.int (o.getD i 0)) := by
  unfold nats
  rw [List.getElem?_map, List.getElem?_eq_getElem h, List.getD_eq_getElem?_getD, List.getElem?_eq_getElem h]
  rfl
/-- neighbours with their indexes -/
theorem enz_next (o : List Nat) : enL 0 (zipL (nats o) (cutL (nats o) (some 1) none)) = (List.range (o.length - 1)).map fun i => D.tup [.int (i : Nat), .tup [.int (o.getD i 0), .int (o.getD (i + 1) 0)]] := by
  have e : cutL (nats o) (some 1) none = (nats o).drop 1 := cut_from (nats o) 1
  rw [e]
  refine List.ext_getElem? fun i => ?_
  rw [enL_get, Nat.zero_add]
  unfold zipL
  rw [List.getElem?_map, List.getElem?_map]
  by_cases h : i < o.length - 1
  · have h1 := nats_at (o := o) (i := i) (by omega)
    have h2 := nats_at (o := o) (i := i + 1) (by omega)
    have h3 : ((nats o).zip ((nats o).drop 1))[i]? = some (D.int (o.getD i 0), D.int (o.getD (i + 1) 0)) := List.getElem?_zip_eq_some.mpr ⟨h1, by rw [List.getElem?_drop, Nat.add_comm]; exact h2⟩
    rw [List.getElem?_range h, h3]
    rfl
  · have h3 : ((nats o).zip ((nats o).drop 1))[i]? = none := List.getElem?_eq_none (by rw [List.length_zip, List.length_drop, nats_len]; omega)
    have h4 : (List.range (o.length - 1))[i]? = none := List.getElem?_eq_none (by rw [List.length_range]; omega)
    rw [h3, h4]
    rfl
theorem rkE_at {o : List Nat} {p : Nat} (h : p ≤ o.length) : atI (nats (inv o) ++ [.int (-1)]) ((p : Nat) : Int) = some (.int (rkE o p)) := by
  refine atI_ofNat ?_
  unfold rkE
  rw [List.getD_eq_getElem?_getD]
  have e : nats (inv o) ++ [D.int (-1)] = (((inv o).map fun (i : Nat) => (i : Int)) ++ [-1]).map D.int := by
    unfold nats
    rw [List.map_append, List.map_map]
    rfl
  rw [e, List.getElem?_map, List.getElem?_eq_getElem (by rw [List.length_append, List.length_map, inv_len]; simp; omega)]
  rfl
/-- an order, grown by a first place of a rank -/
def grwW (o : List Nat) (s : Nat) : List Nat := (o.take s).map (· + 1) ++ 0 :: (o.drop s).map (· + 1)
theorem grw_len (o : List Nat) (s : Nat) : (grwW o s).length = o.length + 1 := by
  unfold grwW
  rw [List.length_append, List.length_cons, List.length_map, List.length_map, List.length_take, List.length_drop]
  omega
theorem grw_perm {o : List Nat} (h : isPerm o) (s : Nat) : isPerm (grwW o s) := by
  unfold isPerm
  rw [grw_len, List.range_succ_eq_map]
  unfold grwW
  refine List.perm_middle.trans (List.Perm.cons _ ?_)
  rw [← List.map_append, List.take_append_drop]
  exact List.Perm.map _ h
end DL
set_option Elab.async false
set_option linter.all false
set_option maxRecDepth 100000
set_option maxHeartbeats 1000000
namespace DL
open PySem L2
theorem adj_all {α : Type} {R : α → α → Prop} (tr : ∀ {a b c}, R a b → R b c → R a c) {n : Nat} {f : Nat → α} (h : ∀ k, 1 ≤ k → k < n → R (f (k - 1)) (f k)) : ∀ j i, i < j → j < n → R (f i) (f j) := by
  intro j
  induction j with
  | zero => intro i h; omega
  | succ j ih =>
    intro i hi hj
    have h1 : R (f j) (f (j + 1)) := h (j + 1) (by omega) hj
    by_cases c : i = j
    · rw [c]; exact h1
    · exact tr (ih i (by omega) (by omega)) h1
theorem pw_getD {α : Type} {R : α → α → Prop} {o : List α} {z : α} (h : ∀ j i, i < j → j < o.length → R (o.getD i z) (o.getD j z)) : o.Pairwise R := by
  rw [List.pairwise_iff_getElem]
  intro i j hi hj hij
  have := h j i hij hj
  rwa [List.getD_eq_getElem?_getD, List.getD_eq_getElem?_getD, List.getElem?_eq_getElem hi, List.getElem?_eq_getElem hj] at this
theorem getD_pw {α : Type} {R : α → α → Prop} {o : List α} {z : α} (h : o.Pairwise R) {i j : Nat} (hij : i < j) (hj : j < o.length) : R (o.getD i z) (o.getD j z) := by
  rw [List.pairwise_iff_getElem] at h
  rw [List.getD_eq_getElem?_getD, List.getD_eq_getElem?_getD, List.getElem?_eq_getElem (Nat.lt_trans hij hj), List.getElem?_eq_getElem hj]
  exact h i j _ hj hij
theorem isTO_of_adj {w o : List Nat} (ho : isPerm o) (hl : o.length = w.length) (h : ∀ k, 1 ≤ k → k < o.length → w.drop (o.getD (k - 1) 0) < w.drop (o.getD k 0)) : o = tOrd w :=
  IsTO.eq ⟨hl ▸ ho, pw_getD (z := 0) fun j i hij hj => adj_all (R := fun a b => w.drop a < w.drop b) (f := fun k => o.getD k 0) (fun h1 h2 => List.lt_trans h1 h2) h j i hij hj⟩
theorem adj_of_isTO {w o : List Nat} (e : o = tOrd w) {i j : Nat} (hij : i < j) (hj : j < o.length) : w.drop (o.getD i 0) < w.drop (o.getD j 0) := by
  subst e
  exact getD_pw (R := fun a b => w.drop a < w.drop b) (tOrd_is w).2 hij hj
theorem perm_lt {o : List Nat} (ho : isPerm o) {k : Nat} (hk : k < o.length) : o.getD k 0 < o.length := by
  rw [List.getD_eq_getElem?_getD, List.getElem?_eq_getElem hk]
  exact ho.lt (List.getElem_mem hk)
theorem perm_inj {o : List Nat} (ho : isPerm o) {i j : Nat} (hi : i < o.length) (hj : j < o.length) (e : o.getD i 0 = o.getD j 0) : i = j := by
  rw [List.getD_eq_getElem?_getD, List.getElem?_eq_getElem hi, List.getD_eq_getElem?_getD, List.getElem?_eq_getElem hj] at e
  have e' : o[i] = o[j] := e
  have h1 := idx_of_get ho.nodup (List.getElem?_eq_getElem hi)
  have h2 := idx_of_get ho.nodup (List.getElem?_eq_getElem hj)
  rw [e'] at h1
  exact h1.symm.trans h2
theorem rkE_in {o : List Nat} {p : Nat} (h : p < o.length) : rkE o p = o.idxOf p := by
  unfold rkE
  rw [List.getD_eq_getElem?_getD, List.getElem?_append_left (by rw [List.length_map, inv_len]; exact h), List.getElem?_map, inv_get h]
  rfl
theorem rkE_end {o : List Nat} : rkE o o.length = -1 := by
  unfold rkE
  rw [List.getD_eq_getElem?_getD, List.getElem?_append_right (by rw [List.length_map, inv_len]; exact Nat.le_refl _), List.length_map, inv_len, Nat.sub_self]
  rfl
theorem idx_lt {o : List Nat} (ho : isPerm o) {p : Nat} (h : p < o.length) : o.idxOf p < o.length := by
  have := get_idx (o := o) (ho.mem h)
  exact (List.getElem?_eq_some_iff.mp this).1
theorem idx_getD {o : List Nat} (ho : isPerm o) {p : Nat} (h : p < o.length) : o.getD (o.idxOf p) 0 = p := by
  rw [List.getD_eq_getElem?_getD, get_idx (ho.mem h)]
  rfl
theorem rkE_inj {o : List Nat} (ho : isPerm o) {p p' : Nat} (h : p ≤ o.length) (h' : p' ≤ o.length) (e : rkE o p = rkE o p') : p = p' := by
  by_cases c : p < o.length
  · by_cases c' : p' < o.length
    · rw [rkE_in c, rkE_in c'] at e
      have e2 : o.idxOf p = o.idxOf p' := by omega
      have := idx_getD ho c
      rw [e2, idx_getD ho c'] at this
      exact this.symm
    · have : p' = o.length := by omega
      subst this
      rw [rkE_in c, rkE_end] at e
      omega
  · have : p = o.length := by omega
    subst this
    by_cases c' : p' < o.length
    · rw [rkE_in c', rkE_end] at e
      omega
    · omega
/-- the letter at an index of an order -/
def ltrW (w o : List Nat) (k : Nat) : Nat := w.getD (o.getD k 0) 0
theorem mem_stp {o : List Nat} {k : Nat} (h1 : 1 ≤ k) (h2 : k < o.length) : k ∈ stpW o ↔ rkE o (o.getD k 0 + 1) < rkE o (o.getD (k - 1) 0 + 1) := by
  unfold stpW
  rw [List.mem_map]
  constructor
  · rintro ⟨i, hi, rfl⟩
    have := (List.mem_filter.mp hi).2
    simpa using this
  · intro h
    refine ⟨k - 1, List.mem_filter.mpr ⟨List.mem_range.mpr (by omega), ?_⟩, by omega⟩
    rw [show k - 1 + 1 = k by omega]
    simpa using h
/-- no letter falls, and each strict step rises -/
def fitB (w o : List Nat) (k : Nat) : Bool := decide (ltrW w o k < ltrW w o (k - 1)) || (decide (ltrW w o k = ltrW w o (k - 1)) && decide (k ∈ stpW o))
theorem drop_ltr {w o : List Nat} (ho : isPerm o) (hl : o.length = w.length) {k : Nat} (hk : k < o.length) : w.drop (o.getD k 0) = ltrW w o k :: w.drop (o.getD k 0 + 1) := by
  have h := perm_lt ho hk
  rw [hl] at h
  unfold ltrW
  rw [List.drop_eq_getElem_cons h, List.getD_eq_getElem?_getD (l := w), List.getElem?_eq_getElem h]
  rfl
theorem fits_lt {w o : List Nat} (ho : isPerm o) (hl : o.length = w.length) (h : ∀ k, 1 ≤ k → k < o.length → fitB w o k = false) : ∀ m i j, i < j → j < o.length → o.length - o.getD i 0 ≤ m → w.drop (o.getD i 0) < w.drop (o.getD j 0) := by
  have up : ∀ j i, i < j → j < o.length → ltrW w o i ≤ ltrW w o j := adj_all (R := fun a b : Nat => a ≤ b) (fun a b => Nat.le_trans a b) fun k h1 h2 => by
    have := h k h1 h2
    unfold fitB at this
    simp at this
    omega
  have up' : ∀ j i, i ≤ j → j < o.length → ltrW w o i ≤ ltrW w o j := fun j i hij hj => by
    by_cases c : i = j
    · rw [c]; exact Nat.le_refl _
    · exact up j i (by omega) hj
  intro m
  induction m with
  | zero =>
    intro i j hij hj hm
    have := perm_lt ho (Nat.lt_trans hij hj)
    omega
  | succ m ih =>
    intro i j hij hj hm
    have hi := Nat.lt_trans hij hj
    rw [drop_ltr ho hl hi, drop_ltr ho hl hj, List.cons_lt_cons_iff]
    have u := up j i hij hj
    by_cases c : ltrW w o i = ltrW w o j
    · refine .inr ⟨c, ?_⟩
      -- the ranks behind never fall in between
      have r : rkE o (o.getD i 0 + 1) ≤ rkE o (o.getD j 0 + 1) := by
        have key : ∀ d, i + d ≤ j → rkE o (o.getD i 0 + 1) ≤ rkE o (o.getD (i + d) 0 + 1) := by
          intro d
          induction d with
          | zero => intro _; exact Int.le_refl _
          | succ d ihd =>
            intro hd
            have h0 := ihd (by omega)
            have h1 := h (i + (d + 1)) (by omega) (by omega)
            have e : ltrW w o (i + (d + 1)) = ltrW w o (i + (d + 1) - 1) := by
              have a1 := up' (i + (d + 1)) (i + (d + 1) - 1) (by omega) (by omega)
              have a2 := up' (i + (d + 1) - 1) i (by omega) (by omega)
              have a3 := up' j (i + (d + 1)) hd hj
              omega
            unfold fitB at h1
            rw [e] at h1
            simp at h1
            have h2 : ¬ _ := fun z => h1 ((mem_stp (o := o) (k := i + (d + 1)) (by omega) (by omega)).mpr z)
            rw [show i + (d + 1) - 1 = i + d by omega] at h2
            omega
        have := key (j - i) (by omega)
        rwa [show i + (j - i) = j by omega] at this
      have li := perm_lt ho hi
      have lj := perm_lt ho hj
      have ne : rkE o (o.getD i 0 + 1) ≠ rkE o (o.getD j 0 + 1) := fun e => by
        have := rkE_inj ho (by omega) (by omega) e
        have := perm_inj ho hi hj (by omega)
        omega
      have lt : rkE o (o.getD i 0 + 1) < rkE o (o.getD j 0 + 1) := by omega
      by_cases ci : o.getD i 0 + 1 = o.length
      · rw [ci, hl, List.drop_length]
        have : o.getD j 0 + 1 < w.length := by
          have : o.getD i 0 ≠ o.getD j 0 := fun e => by have := perm_inj ho hi hj e; omega
          omega
        rw [List.drop_eq_getElem_cons this]
        exact List.nil_lt_cons _ _
      · have ci' : o.getD i 0 + 1 < o.length := by omega
        rw [rkE_in ci'] at lt
        have cj : o.getD j 0 + 1 ≠ o.length := fun e => by
          rw [e, rkE_end] at lt
          omega
        have cj' : o.getD j 0 + 1 < o.length := by omega
        rw [rkE_in cj'] at lt
        have := ih (o.idxOf (o.getD i 0 + 1)) (o.idxOf (o.getD j 0 + 1)) (by omega) (idx_lt ho cj') (by rw [idx_getD ho ci']; omega)
        rwa [idx_getD ho ci', idx_getD ho cj'] at this
    · exact .inl (by omega)
theorem fits_iff {w o : List Nat} (ho : isPerm o) (hl : o.length = w.length) : (∀ k, 1 ≤ k → k < o.length → fitB w o k = false) ↔ o = tOrd w := by
  constructor
  · exact fun h => isTO_of_adj ho hl fun k h1 h2 => fits_lt ho hl h _ (k - 1) k (by omega) h2 (Nat.le_refl _)
  · intro e k h1 h2
    have a := adj_of_isTO e (i := k - 1) (j := k) (by omega) h2
    rw [drop_ltr ho hl (show k - 1 < o.length by omega), drop_ltr ho hl h2, List.cons_lt_cons_iff] at a
    unfold fitB
    rcases a with a | ⟨a, b⟩
    · simp
      omega
    · rw [a]
      simp
      rw [mem_stp h1 h2]
      have li := perm_lt ho (show k - 1 < o.length by omega)
      have lj := perm_lt ho h2
      have cj : o.getD k 0 + 1 ≠ o.length := fun z => by
        rw [z, hl, List.drop_length] at b
        exact List.not_lt_nil _ b
      rw [rkE_in (p := o.getD k 0 + 1) (by omega)]
      by_cases ci : o.getD (k - 1) 0 + 1 = o.length
      · rw [ci, rkE_end]
        omega
      · rw [rkE_in (p := o.getD (k - 1) 0 + 1) (by omega)]
        intro lt
        have lt' : o.idxOf (o.getD k 0 + 1) < o.idxOf (o.getD (k - 1) 0 + 1) := by omega
        have := adj_of_isTO e lt' (idx_lt ho (by omega))
        rw [idx_getD ho (by omega), idx_getD ho (by omega)] at this
        exact lt_asymmL b this
theorem shp_tups {a : List Nat} : shp (.tup (nats a)) = true := (sh_tup (sh_nats a)).ok (by decide)
end DL
set_option Elab.async false
set_option linter.all false
set_option maxRecDepth 100000
set_option maxHeartbeats 1000000
namespace DL
open PySem L2
theorem zip_len : ∀ (as bs : List D), (zipL as bs).length = min as.length bs.length
  | [], _ => by simp [zipL]
  | _ :: _, [] => by simp [zipL]
  | x :: as, y :: bs => by simp [zipL]
end DL
set_option Elab.async false
set_option linter.all false
set_option maxRecDepth 100000
set_option maxHeartbeats 1000000
namespace DL
open PySem L2
theorem grn_eq (o : List Nat) (s : Nat) : grnW o s = grwW o s := rfl
theorem allO_ok : ∀ n, ∀ o ∈ allO n, isPerm o ∧ o.length = n
  | 0, o, h => by
    rw [List.mem_singleton.mp h]
    exact ⟨.refl _, rfl⟩
  | n + 1, o, h => by
    obtain ⟨p, hp, ho⟩ := List.mem_flatMap.mp h
    obtain ⟨s, _, rfl⟩ := List.mem_map.mp ho
    obtain ⟨h1, h2⟩ := allO_ok n p hp
    exact ⟨grw_perm h1 s, by rw [grn_eq, grw_len, h2]⟩
theorem allO_small : ∀ n : Nat, n < 7 → (allO n).length ≤ 1000 := by decide +kernel
def lens (o : List Nat) : List Nat := (List.range (o.length + 1)).map fun s => (stpW (grnW o s)).length
end DL
set_option Elab.async false
set_option linter.all false
set_option maxRecDepth 100000
set_option maxHeartbeats 1000000
namespace DL
open PySem L2
/-- the places whose tails are less stand in front -/
theorem front {α : Type} {R : α → α → Prop} {P : α → Bool} (dn : ∀ a b, R a b → P b = true → P a = true) : ∀ {l : List α}, l.Pairwise R → (∀ a ∈ l.take (l.countP P), P a = true) ∧ ∀ a ∈ l.drop (l.countP P), P a = false
  | [], _ => ⟨by simp, by simp⟩
  | x :: l, h => by
    obtain ⟨h1, h2⟩ := List.pairwise_cons.mp h
    obtain ⟨i1, i2⟩ := front dn h2
    by_cases c : P x = true
    · rw [List.countP_cons_of_pos c]
      refine ⟨fun a ha => ?_, i2⟩
      rw [List.take_succ_cons] at ha
      rcases List.mem_cons.mp ha with rfl | ha
      · exact c
      · exact i1 a ha
    · have all_ : ∀ a ∈ l, P a = false := fun a ha => by
        cases e : P a with
        | false => rfl
        | true => exact absurd (dn x a (h1 a ha) e) c
      have z : (x :: l).countP P = 0 := by
        rw [List.countP_eq_zero]
        intro a ha
        rcases List.mem_cons.mp ha with rfl | ha
        · exact c
        · rw [all_ a ha]; exact Bool.false_ne_true
      rw [z]
      refine ⟨by simp, fun a ha => ?_⟩
      rcases List.mem_cons.mp ha with rfl | ha
      · simpa using c
      · exact all_ a ha
/-- the number of later tails that are less -/
def lessW (w : List Nat) : Nat := (List.range' 1 (w.length - 1)).countP fun p => tlt w p 0
theorem grn_TO {w : List Nat} (hn : w ≠ []) : grnW (tOrd (w.drop 1)) (lessW w) = tOrd w := by
  have pos : 0 < w.length := List.length_pos_iff.mpr hn
  have hl : (tOrd (w.drop 1)).length = w.length - 1 := by rw [tOrd_len, List.length_drop]
  have cnt : lessW w = (tOrd (w.drop 1)).countP fun p => tlt w (p + 1) 0 := by
    have p := (tOrd_is (w.drop 1)).1
    rw [List.length_drop] at p
    rw [p.countP_eq]
    unfold lessW
    have e : List.range' 1 (w.length - 1) = (List.range (w.length - 1)).map (· + 1) := by
      apply List.ext_getElem?
      intro i
      rw [List.getElem?_map]
      by_cases c : i < w.length - 1
      · rw [List.getElem?_range' c, List.getElem?_range c]
        simp [Nat.add_comm]
      · rw [List.getElem?_eq_none (by rw [List.length_range']; omega), List.getElem?_eq_none (by rw [List.length_range]; omega)]
        rfl
    rw [e, List.countP_map]
    rfl
  have pw := (tOrd_is (w.drop 1)).2
  obtain ⟨f1, f2⟩ := front (P := fun p => tlt w (p + 1) 0) (fun a b hab hb => by
    have hb' : w.drop (b + 1) < w.drop 0 := of_decide_eq_true hb
    rw [List.drop_drop, List.drop_drop, Nat.add_comm 1 a, Nat.add_comm 1 b] at hab
    exact decide_eq_true (List.lt_trans hab hb')) pw
  rw [← cnt] at f1 f2
  have pg := grw_perm (tOrd_perm (w.drop 1)) (lessW w)
  have lg := grw_len (tOrd (w.drop 1)) (lessW w)
  rw [grn_eq]
  refine IsTO.eq ⟨?_, ?_⟩
  · unfold isPerm at pg
    rw [lg, hl, show w.length - 1 + 1 = w.length by omega] at pg
    exact pg
  · unfold grwW
    have up : ∀ {l : List Nat}, (∀ x, x ∈ l → True) → l.Pairwise (fun i j => (w.drop 1).drop i < (w.drop 1).drop j) → (l.map (· + 1)).Pairwise (fun i j => w.drop i < w.drop j) := fun _ h => by
      rw [List.pairwise_map]
      refine h.imp fun {a b} hab => ?_
      rw [List.drop_drop, List.drop_drop, Nat.add_comm 1 a, Nat.add_comm 1 b] at hab
      exact hab
    rw [List.pairwise_append]
    refine ⟨up (fun _ _ => trivial) (pw.sublist (List.take_sublist _ _)), ?_, ?_⟩
    · rw [List.pairwise_cons]
      refine ⟨fun b hb => ?_, up (fun _ _ => trivial) (pw.sublist (List.drop_sublist _ _))⟩
      obtain ⟨p, hp, rfl⟩ := List.mem_map.mp hb
      have h1 : ¬ w.drop (p + 1) < w.drop 0 := of_decide_eq_false (f2 p hp)
      have hp2 : p < w.length - 1 := by have := tOrd_lt (List.mem_of_mem_drop hp); rw [List.length_drop] at this; exact this
      by_cases c : w.drop 0 < w.drop (p + 1)
      · exact c
      · have e := List.le_antisymm (List.not_lt.mp h1) (List.not_lt.mp c)
        have := drop_inj (w := w) (i := 0) (j := p + 1) pos (by omega) e
        omega
    · intro a ha b hb
      obtain ⟨p, hp, rfl⟩ := List.mem_map.mp ha
      have h1 : w.drop (p + 1) < w.drop 0 := of_decide_eq_true (f1 p hp)
      rcases List.mem_cons.mp hb with rfl | hb
      · exact h1
      · obtain ⟨r, hr, rfl⟩ := List.mem_map.mp hb
        have h2 : ¬ w.drop (r + 1) < w.drop 0 := of_decide_eq_false (f2 r hr)
        by_cases c : w.drop (r + 1) < w.drop (p + 1)
        · exact absurd (List.lt_trans c h1) h2
        · by_cases e : w.drop (p + 1) < w.drop (r + 1)
          · exact e
          · have e' := List.le_antisymm (List.not_lt.mp c) (List.not_lt.mp e)
            rw [e'] at h1
            exact absurd h1 h2
theorem less_le (w : List Nat) : lessW w ≤ w.length - 1 := by
  unfold lessW
  have := List.countP_le_length (p := fun p => tlt w p 0) (l := List.range' 1 (w.length - 1))
  rw [List.length_range'] at this
  exact this
end DL
set_option Elab.async false
set_option linter.all false
set_option maxRecDepth 100000
set_option maxHeartbeats 1000000
namespace DL
open PySem L2
theorem mem_allW (L : List Nat) : ∀ (n : Nat) (w : List Nat), w ∈ allW L n ↔ w.length = n ∧ ∀ c ∈ w, c ∈ L
  | 0, w => by
    show w ∈ [[]] ↔ _
    rw [List.mem_singleton, List.length_eq_zero_iff]
    exact ⟨fun h => ⟨h, by rw [h]; simp⟩, fun h => h.1⟩
  | n + 1, w => by
    show w ∈ (allW L n).flatMap _ ↔ _
    rw [List.mem_flatMap]
    constructor
    · rintro ⟨h, hh, hw⟩
      obtain ⟨c, hc, rfl⟩ := List.mem_map.mp hw
      obtain ⟨h1, h2⟩ := (mem_allW L n h).mp hh
      refine ⟨by simp [h1], fun x hx => ?_⟩
      rcases List.mem_append.mp hx with hx | hx
      · exact h2 x hx
      · rw [List.mem_singleton.mp hx]; exact hc
    · rintro ⟨h1, h2⟩
      have ne : w ≠ [] := fun e => by rw [e] at h1; simp at h1
      refine ⟨w.dropLast, (mem_allW L n _).mpr ⟨by rw [List.length_dropLast]; omega, fun c hc => h2 c ((List.dropLast_sublist w).mem hc)⟩, List.mem_map.mpr ⟨w.getLast ne, h2 _ (List.getLast_mem ne), List.dropLast_concat_getLast ne⟩⟩
theorem abc_at {k : Nat} (h : k < 26) : abcW[k]? = some (97 + k) := by
  revert k
  decide
theorem jn_call {cs : List Nat} {q : D → Prop} (hl : cs.length ≤ 1000) (h : q (.str cs)) : oJoin [] (.lst (cs.map fun c => D.str [c])) q := by
  refine ⟨_, cs.map fun c => [c], .inl rfl, by rw [List.map_map]; rfl, by rw [ones_sum, List.length_nil, Nat.mul_zero]; omega, ?_⟩
  rw [jn_ones]
  exact h
end DL
set_option Elab.async false
set_option linter.all false
set_option maxRecDepth 100000
set_option maxHeartbeats 1000000
namespace DL
open PySem L2
end DL
set_option Elab.async false
set_option linter.all false
set_option maxRecDepth 100000
set_option maxHeartbeats 1000000
namespace DL
open PySem L2
theorem stp_pos {o : List Nat} {s : Nat} (h : s ∈ stpW o) : 1 ≤ s ∧ s < o.length := by
  unfold stpW at h
  obtain ⟨i, hi, rfl⟩ := List.mem_map.mp h
  have := List.mem_range.mp (List.mem_filter.mp hi).1
  omega
theorem stp_rise (o : List Nat) : (stpW o).Pairwise (· < ·) := by
  unfold stpW
  rw [List.pairwise_map]
  exact (List.pairwise_lt_range.sublist List.filter_sublist).imp fun h => by omega
theorem numW_zero (o : List Nat) : numW o 0 = 0 := by
  unfold numW
  rw [List.countP_eq_zero]
  intro s hs
  have := stp_pos hs
  simp
  omega
theorem cnt_rise : ∀ {l : List Nat}, l.Pairwise (· < ·) → ∀ k, l.countP (fun s => decide (s ≤ k + 1)) = l.countP (fun s => decide (s ≤ k)) + if k + 1 ∈ l then 1 else 0
  | [], _, k => rfl
  | x :: l, h, k => by
    obtain ⟨h1, h2⟩ := List.pairwise_cons.mp h
    have ih := cnt_rise h2 k
    rw [List.countP_cons, List.countP_cons, ih]
    by_cases e : x = k + 1
    · subst e
      have n1 : k + 1 ∉ l := fun z => Nat.lt_irrefl _ (h1 _ z)
      simp [n1]
    · have e' : (k + 1 ∈ x :: l) ↔ k + 1 ∈ l := by
        rw [List.mem_cons]
        exact ⟨fun z => z.elim (fun y => absurd y.symm e) id, .inr⟩
      by_cases c : x ≤ k
      · have c2 : x ≤ k + 1 := by omega
        simp only [e', c, c2, decide_true, if_true]
        omega
      · have c2 : ¬ x ≤ k + 1 := by omega
        simp only [e', c, c2, decide_false, Bool.false_eq_true, if_false]
        omega
theorem numW_step (o : List Nat) (k : Nat) : numW o (k + 1) = numW o k + if k + 1 ∈ stpW o then 1 else 0 := cnt_rise (stp_rise o) k
theorem numW_top (o : List Nat) (k : Nat) : numW o k ≤ (stpW o).length := List.countP_le_length
theorem lst_len (o : List Nat) : (lstW o).length = o.length := by unfold lstW; simp
theorem lst_at {o : List Nat} {p : Nat} (h : p < o.length) : (lstW o)[p]? = some (97 + numW o (o.idxOf p)) := by
  unfold lstW
  rw [List.getElem?_map, List.getElem?_range h]
  rfl
theorem idx_at {o : List Nat} (ho : isPerm o) {k : Nat} (hk : k < o.length) : o.idxOf (o.getD k 0) = k := by
  refine idx_of_get ho.nodup ?_
  rw [List.getD_eq_getElem?_getD, List.getElem?_eq_getElem hk]
  rfl
theorem lst_ltr {o : List Nat} (ho : isPerm o) {k : Nat} (hk : k < o.length) : ltrW (lstW o) o k = 97 + numW o k := by
  unfold ltrW
  rw [List.getD_eq_getElem?_getD, lst_at (perm_lt ho hk), idx_at ho hk]
  rfl
theorem lst_TO {o : List Nat} (ho : isPerm o) : tOrd (lstW o) = o := by
  refine ((fits_iff ho (lst_len o).symm).mp fun k h1 h2 => ?_).symm
  unfold fitB
  obtain ⟨j, rfl⟩ : ∃ j, k = j + 1 := ⟨k - 1, by omega⟩
  rw [lst_ltr ho h2, show j + 1 - 1 = j by omega, lst_ltr ho (by omega), numW_step]
  by_cases c : j + 1 ∈ stpW o
  · simp [c]
  · simp [c]
/-- the letters of a word along its order rise at the strict steps at least -/
theorem ltr_num {w : List Nat} (hw : ∀ c ∈ w, 97 ≤ c) : ∀ k, k < w.length → 97 + numW (tOrd w) k ≤ ltrW w (tOrd w) k := by
  have ho := tOrd_perm w
  have hl := tOrd_len w
  have fit := (fits_iff ho hl).mpr rfl
  intro k
  induction k with
  | zero =>
    intro h
    rw [numW_zero]
    unfold ltrW
    have hp := perm_lt ho (k := 0) (by omega)
    rw [List.getD_eq_getElem?_getD (l := w), List.getElem?_eq_getElem (by omega)]
    exact hw _ (List.getElem_mem _)
  | succ k ih =>
    intro h
    have h1 := ih (by omega)
    have h2 := fit (k + 1) (by omega) (by omega)
    rw [numW_step]
    unfold fitB at h2
    rw [show k + 1 - 1 = k by omega, Bool.or_eq_false_iff, decide_eq_false_iff_not, Bool.and_eq_false_iff, decide_eq_false_iff_not, decide_eq_false_iff_not] at h2
    split
    · rename_i c
      have := h2.2.resolve_right fun z => z c
      omega
    · omega
end DL
set_option Elab.async false
set_option linter.all false
set_option maxRecDepth 100000
set_option maxHeartbeats 1000000
namespace DL
open PySem L2
theorem shr_grn (o : List Nat) (s : Nat) : shrW (grnW o s) = o := by
  unfold shrW grnW
  rw [List.filter_append, List.filter_cons_of_neg (by decide), List.filter_eq_self.mpr (fun a ha => by
    obtain ⟨x, _, rfl⟩ := List.mem_map.mp ha
    simp), List.filter_eq_self.mpr (fun a ha => by
    obtain ⟨x, _, rfl⟩ := List.mem_map.mp ha
    simp), ← List.map_append, List.take_append_drop, List.map_map]
  exact (List.map_congr_left (g := id) fun a _ => by simp).trans (List.map_id _)
theorem grn_zero {o : List Nat} {s : Nat} (hs : s ≤ o.length) : (grnW o s).idxOf 0 = s := by
  unfold grnW
  rw [List.idxOf_append, if_neg (fun z => by
    obtain ⟨x, _, e⟩ := List.mem_map.mp z
    omega)]
  simp
  omega
theorem grn_inj {o p : List Nat} {s r : Nat} (hs : s ≤ o.length) (hr : r ≤ p.length) (e : grnW o s = grnW p r) : o = p ∧ s = r := by
  have h1 := congrArg shrW e
  rw [shr_grn, shr_grn] at h1
  have h2 := congrArg (List.idxOf 0) e
  rw [grn_zero hs, grn_zero hr] at h2
  exact ⟨h1, h2⟩
theorem allO_nodup : ∀ n, (allO n).Nodup
  | 0 => by simp [allO]
  | n + 1 => by
    show ((allO n).flatMap _).Nodup
    rw [List.Nodup, List.pairwise_flatMap]
    refine ⟨fun o ho => ?_, List.Pairwise.imp_of_mem (fun {o p} ho hp hne x hx y hy e => ?_) (allO_nodup n)⟩
    · rw [List.pairwise_map]
      have hl := (allO_ok n o ho).2
      refine List.Pairwise.imp_of_mem (fun {s r} hs hr hne e => ?_) List.nodup_range
      have := List.mem_range.mp hs
      have := List.mem_range.mp hr
      exact hne (grn_inj (by omega) (by omega) e).2
    · obtain ⟨s, hs, rfl⟩ := List.mem_map.mp hx
      obtain ⟨r, hr, rfl⟩ := List.mem_map.mp hy
      have := List.mem_range.mp hs
      have := List.mem_range.mp hr
      have := (allO_ok n o ho).2
      have := (allO_ok n p hp).2
      exact hne (grn_inj (by omega) (by omega) e).1
theorem fill_of {o : List Nat} {F : List D} {f : Nat → D} (ho : isPerm o) (hl : F.length = o.length) (h : ∀ j p : Nat, o[j]? = some p → F[p]? = some (f j)) : F = (List.range o.length).map fun p => f (o.idxOf p) := by
  apply List.ext_getElem?
  intro p
  rw [List.getElem?_map]
  by_cases c : p < o.length
  · rw [List.getElem?_range c, h _ p (get_idx (ho.mem c))]
    rfl
  · rw [List.getElem?_eq_none (by omega), List.getElem?_eq_none (by rw [List.length_range]; omega)]
    rfl
end DL
set_option Elab.async false
set_option linter.all false
set_option maxRecDepth 100000
set_option maxHeartbeats 1000000
namespace DL
open PySem L2
end DL
set_option Elab.async false
set_option linter.all false
set_option maxRecDepth 100000
set_option maxHeartbeats 1000000
namespace DL
open PySem L2
end DL
set_option Elab.async false
set_option linter.all false
set_option maxRecDepth 100000
set_option maxHeartbeats 1000000
namespace DL
open PySem L2
end DL
set_option Elab.async false
set_option linter.all false
set_option maxRecDepth 100000
set_option maxHeartbeats 1000000
namespace DL
open PySem L2
def Row (n : Nat) (m : Int) (xs : List Nat) : Prop := xs.length = n ∧ xs.Pairwise (· ≤ ·) ∧ ∀ x ∈ xs, (x : Int) < m
/-- numbers along an order, one more behind each strict step -/
def rsdW (o xs : List Nat) : List Nat := (List.range xs.length).map fun k => xs.getD k 0 + numW o k
/-- the filling of an order by a row -/
def filW (o xs : List Nat) : List Nat := (List.range o.length).map fun p => 97 + (rsdW o xs).getD (o.idxOf p) 0
/-- the row of a word along its order -/
def rowW (w : List Nat) : List Nat := (List.range w.length).map fun k => w.getD ((tOrd w).getD k 0) 0 - 97 - numW (tOrd w) k
end DL
set_option Elab.async false
set_option linter.all false
set_option maxRecDepth 100000
set_option maxHeartbeats 1000000
namespace DL
open PySem L2
end DL
set_option Elab.async false
set_option linter.all false
set_option maxRecDepth 100000
set_option maxHeartbeats 1000000
namespace DL
open PySem L2
end DL
set_option Elab.async false
set_option linter.all false
set_option maxRecDepth 100000
set_option maxHeartbeats 1000000
namespace DL
open PySem L2
theorem rsd_len (o xs : List Nat) : (rsdW o xs).length = xs.length := by unfold rsdW; simp
theorem rsd_getD {o xs : List Nat} {k : Nat} (h : k < xs.length) : (rsdW o xs).getD k 0 = xs.getD k 0 + numW o k := by
  unfold rsdW
  rw [List.getD_eq_getElem?_getD, List.getElem?_map, List.getElem?_range h]
  rfl
theorem fil_len (o xs : List Nat) : (filW o xs).length = o.length := by unfold filW; simp
theorem fil_ltr {o xs : List Nat} (ho : isPerm o) (hl : xs.length = o.length) {k : Nat} (hk : k < o.length) : ltrW (filW o xs) o k = 97 + (xs.getD k 0 + numW o k) := by
  unfold ltrW filW
  rw [List.getD_eq_getElem?_getD, List.getElem?_map, List.getElem?_range (perm_lt ho hk), Option.map_some, idx_at ho hk, rsd_getD (by omega)]
  rfl
theorem row_le {xs : List Nat} (hp : xs.Pairwise (· ≤ ·)) {k : Nat} (hk : k + 1 < xs.length) : xs.getD k 0 ≤ xs.getD (k + 1) 0 := by
  rw [List.getD_eq_getElem?_getD, List.getD_eq_getElem?_getD, List.getElem?_eq_getElem (by omega), List.getElem?_eq_getElem hk]
  exact List.pairwise_iff_getElem.mp hp _ _ _ _ (Nat.lt_succ_self _)
theorem fil_TO {o xs : List Nat} (ho : isPerm o) (hl : xs.length = o.length) (hp : xs.Pairwise (· ≤ ·)) : tOrd (filW o xs) = o := by
  refine ((fits_iff ho (fil_len o xs).symm).mp fun k h1 h2 => ?_).symm
  unfold fitB
  obtain ⟨j, rfl⟩ : ∃ j, k = j + 1 := ⟨k - 1, by omega⟩
  have r := row_le hp (k := j) (by omega)
  rw [fil_ltr ho hl h2, show j + 1 - 1 = j by omega, fil_ltr ho hl (by omega), numW_step]
  generalize xs.getD j 0 = a at *
  generalize xs.getD (j + 1) 0 = b at *
  by_cases c : j + 1 ∈ stpW o
  · simp [c]
    omega
  · simp [c]
    omega
theorem fil_lets {o xs : List Nat} (hl : xs.length = o.length) (ho : isPerm o) {m : Nat} (hm : m ≤ 26) (hx : ∀ x ∈ xs, (x : Int) < (m : Int) - (stpW o).length) : ∀ c ∈ filW o xs, 97 ≤ c ∧ c < 97 + m := fun c hc => by
  unfold filW at hc
  obtain ⟨p, hp, rfl⟩ := List.mem_map.mp hc
  have hi := idx_lt ho (List.mem_range.mp hp)
  rw [rsd_getD (by omega)]
  have h1 : xs.getD (o.idxOf p) 0 ∈ xs := by
    rw [List.getD_eq_getElem?_getD, List.getElem?_eq_getElem (by omega)]
    exact List.getElem_mem _
  have h2 := hx _ h1
  have h3 := numW_top o (o.idxOf p)
  omega
theorem row_fil {o xs : List Nat} (ho : isPerm o) (hl : xs.length = o.length) (hp : xs.Pairwise (· ≤ ·)) : rowW (filW o xs) = xs := by
  unfold rowW
  rw [fil_TO ho hl hp, fil_len]
  refine List.ext_getElem? fun k => ?_
  by_cases c : k < o.length
  · have e := fil_ltr ho hl c
    unfold ltrW at e
    rw [List.getElem?_map, List.getElem?_range c, Option.map_some, e, List.getElem?_eq_getElem (by omega), List.getD_eq_getElem?_getD, List.getElem?_eq_getElem (by omega)]
    congr 1
    simp
  · rw [List.getElem?_eq_none (by simp; omega), List.getElem?_eq_none (by omega)]
def rsdT (o xs : List Nat) (i : Nat) : List Nat := (List.range i).map fun k => xs.getD k 0 + numW o k
theorem rsdT_succ (o xs : List Nat) (i : Nat) : rsdT o xs (i + 1) = rsdT o xs i ++ [xs.getD i 0 + numW o i] := by
  unfold rsdT
  rw [List.range_succ, List.map_append]
  rfl
theorem rsdT_len (o xs : List Nat) (i : Nat) : (rsdT o xs i).length = i := by unfold rsdT; simp
theorem in_nats {L : List Nat} {i : Nat} : (∃ x, x ∈ nats L ∧ eqF x (.int (i : Int)) = true) ↔ i ∈ L := by
  constructor
  · rintro ⟨x, hx, he⟩
    obtain ⟨j, hj, rfl⟩ := List.mem_map.mp hx
    have : (j : Int) = (i : Int) := by simpa [eqF] using he
    have : j = i := by omega
    exact this ▸ hj
  · intro h
    exact ⟨.int (i : Int), List.mem_map.mpr ⟨i, h, rfl⟩, by simp [eqF]⟩
theorem numW_at (o : List Nat) (i : Nat) : numW o i = numW o (i - 1) + if i ∈ stpW o then 1 else 0 := by
  cases i with
  | zero =>
    have : ¬ 0 ∈ stpW o := fun z => by
      unfold stpW at z
      obtain ⟨_, _, z⟩ := List.mem_map.mp z
      omega
    rw [if_neg this]
    rfl
  | succ i => exact numW_step o i
theorem row_len (w : List Nat) : (rowW w).length = w.length := by unfold rowW; simp
theorem row_getD {w : List Nat} {k : Nat} (h : k < w.length) : (rowW w).getD k 0 = ltrW w (tOrd w) k - 97 - numW (tOrd w) k := by
  unfold rowW
  rw [List.getD_eq_getElem?_getD, List.getElem?_map, List.getElem?_range h]
  rfl
/-- a word's letters along its order, without one for each strict step: they never fall -/
theorem row_adj {w : List Nat} (hL : ∀ c ∈ w, 97 ≤ c) {k : Nat} (h : k + 1 < w.length) : (rowW w).getD k 0 ≤ (rowW w).getD (k + 1) 0 := by
  have ho := tOrd_perm w
  have hl := tOrd_len w
  have n1 := ltr_num hL k (by omega)
  have n2 := ltr_num hL (k + 1) h
  have h2 := (fits_iff ho hl).mpr rfl (k + 1) (by omega) (by omega)
  have st := numW_step (tOrd w) k
  unfold fitB at h2
  rw [show k + 1 - 1 = k by omega, Bool.or_eq_false_iff, decide_eq_false_iff_not, Bool.and_eq_false_iff, decide_eq_false_iff_not, decide_eq_false_iff_not] at h2
  rw [row_getD (by omega), row_getD h]
  split at st
  · rename_i c
    have := h2.2.resolve_right fun z => z c
    omega
  · omega
theorem adj_pair {xs : List Nat} (h : ∀ k, k + 1 < xs.length → xs.getD k 0 ≤ xs.getD (k + 1) 0) : xs.Pairwise (· ≤ ·) := by
  rw [List.pairwise_iff_getElem]
  have key : ∀ d i, i + d < xs.length → xs.getD i 0 ≤ xs.getD (i + d) 0 := by
    intro d
    induction d with
    | zero => intro i _; exact Nat.le_refl _
    | succ d ih =>
      intro i hi
      exact Nat.le_trans (ih i (by omega)) (h (i + d) (by omega))
  intro i j hi hj hij
  have := key (j - i) i (by omega)
  rw [show i + (j - i) = j by omega, List.getD_eq_getElem?_getD, List.getD_eq_getElem?_getD, List.getElem?_eq_getElem hi, List.getElem?_eq_getElem hj] at this
  exact this
theorem numW_last {o : List Nat} : ∀ {s : Nat}, s ∈ stpW o → s < o.length := fun {s} h => by
  unfold stpW at h
  obtain ⟨i, hi, rfl⟩ := List.mem_map.mp h
  have := List.mem_range.mp (List.mem_filter.mp hi).1
  omega
theorem row_Row {w : List Nat} {m : Nat} (hL : ∀ c ∈ w, 97 ≤ c ∧ c < 97 + m) : Row w.length ((m : Int) - (stpW (tOrd w)).length) (rowW w) := by
  have pw : (rowW w).Pairwise (· ≤ ·) := adj_pair fun k hk => by
    rw [row_len] at hk
    exact row_adj (fun c hc => (hL c hc).1) hk
  refine ⟨row_len w, pw, fun x hx => ?_⟩
  obtain ⟨k, hk⟩ := List.getElem?_of_mem hx
  have hk1 := (List.getElem?_eq_some_iff.mp hk).1
  rw [row_len] at hk1
  -- not above the last one
  have hlast : (rowW w).getD k 0 ≤ (rowW w).getD (w.length - 1) 0 := by
    by_cases e : k = w.length - 1
    · rw [e]
      exact Nat.le_refl _
    · have := List.pairwise_iff_getElem.mp pw k (w.length - 1) (by rw [row_len]; omega) (by rw [row_len]; omega) (by omega)
      rw [List.getD_eq_getElem?_getD, List.getD_eq_getElem?_getD, List.getElem?_eq_getElem (by rw [row_len]; omega), List.getElem?_eq_getElem (by rw [row_len]; omega)]
      exact this
  have ex : (rowW w).getD k 0 = x := by rw [List.getD_eq_getElem?_getD, hk]; rfl
  have top : numW (tOrd w) (w.length - 1) = (stpW (tOrd w)).length := by
    unfold numW
    rw [List.countP_eq_length]
    intro s hs
    have := numW_last hs
    rw [tOrd_len] at this
    exact decide_eq_true (by omega)
  have hm := hL (ltrW w (tOrd w) (w.length - 1)) (by
    unfold ltrW
    have p := perm_lt (tOrd_perm w) (k := w.length - 1) (by rw [tOrd_len]; omega)
    rw [tOrd_len] at p
    rw [List.getD_eq_getElem?_getD (l := w), List.getElem?_eq_getElem p]
    exact List.getElem_mem _)
  have n1 := ltr_num (fun c hc => (hL c hc).1) (w.length - 1) (by omega)
  rw [row_getD (k := w.length - 1) (by omega), top] at hlast
  rw [top] at n1
  omega
/-- the filling by a word's row is the word -/
theorem fil_row {w : List Nat} (hL : ∀ c ∈ w, 97 ≤ c) : filW (tOrd w) (rowW w) = w := by
  have ho := tOrd_perm w
  have hl := tOrd_len w
  refine List.ext_getElem? fun p => ?_
  by_cases c : p < w.length
  · have hi := idx_lt ho (p := p) (by omega)
    have n1 := ltr_num hL ((tOrd w).idxOf p) (by omega)
    unfold filW
    rw [List.getElem?_map, List.getElem?_range (by omega), Option.map_some, rsd_getD (by rw [row_len]; omega), row_getD (by omega)]
    unfold ltrW at n1 ⊢
    rw [idx_getD ho (by omega)] at n1 ⊢
    rw [List.getElem?_eq_getElem c]
    rw [List.getD_eq_getElem?_getD, List.getElem?_eq_getElem c] at n1 ⊢
    congr 1
    simp only [Option.getD_some] at n1 ⊢
    omega
  · rw [List.getElem?_eq_none (by rw [fil_len]; omega), List.getElem?_eq_none (by omega)]
end DL
set_option Elab.async false
set_option linter.all false
set_option maxRecDepth 100000
set_option maxHeartbeats 1000000
namespace DL
open PySem L2
end DL
set_option Elab.async false
set_option linter.all false
set_option maxRecDepth 100000
set_option maxHeartbeats 1000000
namespace DL
open PySem L2
end DL
set_option Elab.async false
set_option linter.all false
set_option maxRecDepth 100000
set_option maxHeartbeats 1000000
namespace DL
open PySem L2
theorem allO_all : ∀ (n : Nat) {o : List Nat}, isPerm o → o.length = n → o ∈ allO n
  | 0, o, _, h => by
    rw [List.eq_nil_of_length_eq_zero h]
    exact List.mem_singleton.mpr rfl
  | n + 1, o, ho, h => by
    have e := lst_TO ho
    have ne : lstW o ≠ [] := fun z => by
      have := lst_len o
      rw [z] at this
      simp at this
      omega
    have g := grn_TO ne
    rw [e] at g
    have ll := lst_len o
    have lt := tOrd_len ((lstW o).drop 1)
    rw [List.length_drop] at lt
    have := less_le (lstW o)
    show o ∈ (allO n).flatMap fun o => (List.range (n + 1)).map fun s => grnW o s
    rw [List.mem_flatMap]
    exact ⟨_, allO_all n (tOrd_perm _) (by omega), List.mem_map.mpr ⟨lessW (lstW o), List.mem_range.mpr (by omega), g⟩⟩
theorem allW_nodup {L : List Nat} (nd : L.Nodup) : ∀ n, (allW L n).Nodup
  | 0 => by simp [allW]
  | n + 1 => by
    show ((allW L n).flatMap fun w => L.map fun c => w ++ [c]).Nodup
    rw [List.Nodup, List.pairwise_flatMap]
    refine ⟨fun w _ => nodup_map (fun a b h => by simpa using h) nd, (allW_nodup nd n).imp fun {u v} hne x hx y hy e => hne ?_⟩
    obtain ⟨c, _, rfl⟩ := List.mem_map.mp hx
    obtain ⟨d, _, rfl⟩ := List.mem_map.mp hy
    exact List.append_inj_left' e rfl
end DL
set_option Elab.async false
set_option linter.all false
set_option maxRecDepth 100000
set_option maxHeartbeats 1000000
namespace DL
open PySem L2
end DL
set_option Elab.async false
set_option linter.all false
set_option maxRecDepth 100000
set_option maxHeartbeats 1000000
namespace DL
open PySem L2
end DL
set_option Elab.async false
set_option linter.all false
set_option maxRecDepth 100000
set_option maxHeartbeats 1000000
namespace DL
open PySem L2
section
variable {M : Ghost} {gw : GW} {wb : ZW M}
theorem forZ_inv (I : Nat → Nat → M.G → DEnv → M.G → Prop) (k : Y5 M) : ∀ (xs : List D) (n : Nat) {j : Nat} {g0 : M.G} {ρ : DEnv} {g : M.G}, I n j g0 ρ g →
    (∀ (i : Nat) d j g0 ρ g (K : Nat → M.G → DEnv → M.G → Prop), xs[i]? = some d → I (n + i) j g0 ρ g → (∀ j g0 ρ g, I (n + i + 1) j g0 ρ g → K j g0 ρ g) → gw d ρ fun ρ' => wb { nx := K, bk := k.nx, ct := K } j g0 ρ' g) →
    (∀ j g0 ρ g, I (n + xs.length) j g0 ρ g → k.nx j g0 ρ g) → forZ gw wb xs k j g0 ρ g
  | [], n, j, g0, ρ, g, h0, _, he => he j g0 ρ g h0
  | x :: xs, n, j, g0, ρ, g, h0, hs, he =>
    hs 0 x j g0 ρ g _ rfl h0 fun j' g0' ρ' g' h => forZ_inv I k xs (n + 1) h (fun i d j g0 ρ g K e hI hK => hs (i + 1) d j g0 ρ g K e (by rw [show n + (i + 1) = n + 1 + i by omega]; exact hI) (by rw [show n + (i + 1) + 1 = n + 1 + i + 1 by omega]; exact hK))
      (fun j g0 ρ g h => he j g0 ρ g (by rw [List.length_cons, show n + (xs.length + 1) = n + 1 + xs.length by omega]; exact h))
theorem forZ_word (I : Nat → Nat → M.G → DEnv → M.G → Prop) (xs : List D) {k : Y5 M} {j : Nat} {g0 : M.G} {ρ : DEnv} {g : M.G} (h0 : I 0 j g0 ρ g)
    (hs : ∀ (i : Nat) d j g0 ρ g (K : Nat → M.G → DEnv → M.G → Prop), xs[i]? = some d → I i j g0 ρ g → (∀ j g0 ρ g, I (i + 1) j g0 ρ g → K j g0 ρ g) → gw d ρ fun ρ' => wb { nx := K, bk := k.nx, ct := K } j g0 ρ' g)
    (he : ∀ j g0 ρ g, I xs.length j g0 ρ g → k.nx j g0 ρ g) : forZ gw wb xs k j g0 ρ g :=
  forZ_inv I k xs 0 h0 (fun i d j g0 ρ g K e h K1 => hs i d j g0 ρ g K e (by rw [Nat.zero_add] at h; exact h) (by rw [Nat.zero_add] at K1; exact K1)) (fun j g0 ρ g h => he j g0 ρ g (by rw [Nat.zero_add] at h; exact h))
end
theorem gzB_no {M : Ghost} {P : Program} {w : World} {K : PySem.W.Frag} {mg : Str → Option Value} {base : Heap} {x qual : Str} {st : Stmt} {f : Addr} {fd : FuncData} {k : Nat} {ps : List Str} {sp : GSpZ M} (F : Fun K x qual st f fd) (g : mg x = some (.ref f)) (b : Binds K fd ps [])
    (h : ∀ ds g q, ¬ sp ds g q) : GzB P w K mg base k x ps sp :=
  ⟨f, fd, ⟨fun A outer s W args us vs ds q _ _ _ _ _ _ _ z => (h _ _ _ z).elim⟩, g, F.kp, b⟩
end DL
set_option Elab.async false
set_option linter.all false
set_option maxRecDepth 100000
set_option maxHeartbeats 1000000
namespace DL
open PySem L2
/-- all rows of p numbers from l on below m that never fall, in order -/
def risR : Nat → Nat → Nat → List (List Nat)
  | 0, _, _ => [[]]
  | p + 1, l, m => (List.range' l (m - l)).flatMap fun x => (risR p x m).map (x :: ·)
theorem risR_mem : ∀ (p l m : Nat) {xs : List Nat}, xs ∈ risR p l m ↔ xs.length = p ∧ xs.Pairwise (· ≤ ·) ∧ ∀ x ∈ xs, l ≤ x ∧ x < m
  | 0, l, m, xs => by
    unfold risR
    rw [List.mem_singleton]
    constructor
    · rintro rfl
      exact ⟨rfl, .nil, fun x hx => nomatch hx⟩
    · rintro ⟨h, _⟩
      exact List.length_eq_zero_iff.mp h
  | p + 1, l, m, xs => by
    unfold risR
    rw [List.mem_flatMap]
    constructor
    · rintro ⟨x, hx, h⟩
      obtain ⟨ys, hy, rfl⟩ := List.mem_map.mp h
      obtain ⟨h1, h2, h3⟩ := (risR_mem p x m).mp hy
      obtain ⟨k1, k2⟩ := List.mem_range'_1.mp hx
      refine ⟨by rw [List.length_cons, h1], List.pairwise_cons.mpr ⟨fun y hy => (h3 y hy).1, h2⟩, fun y hy => ?_⟩
      rcases List.mem_cons.mp hy with rfl | hy
      · omega
      · have := h3 y hy
        omega
    · rintro ⟨h1, h2, h3⟩
      cases xs with
      | nil => cases h1
      | cons x ys =>
        obtain ⟨h4, h5⟩ := List.pairwise_cons.mp h2
        have hx := h3 x List.mem_cons_self
        refine ⟨x, List.mem_range'_1.mpr (by omega), List.mem_map.mpr ⟨ys, (risR_mem p x m).mpr ⟨by simpa using h1, h5, fun y hy => ⟨h4 y hy, (h3 y (List.mem_cons_of_mem _ hy)).2⟩⟩, rfl⟩⟩
theorem cons_ltL {x y : Nat} {a b : List Nat} : x :: a < y :: b ↔ x < y ∨ (x = y ∧ a < b) := by
  rw [List.cons_lt_cons_iff]
theorem risR_lt : ∀ (p l m : Nat), (risR p l m).Pairwise (· < ·)
  | 0, _, _ => by unfold risR; exact List.pairwise_singleton _ _
  | p + 1, l, m => by
    unfold risR
    rw [List.pairwise_flatMap]
    refine ⟨fun x _ => ?_, ?_⟩
    · rw [List.pairwise_map]
      exact (risR_lt p x m).imp fun h => cons_ltL.mpr (.inr ⟨rfl, h⟩)
    · refine (List.pairwise_lt_range' (s := l) (n := m - l) (step := 1) (by decide)).imp fun {a b} h x hx y hy => ?_
      obtain ⟨_, _, rfl⟩ := List.mem_map.mp hx
      obtain ⟨_, _, rfl⟩ := List.mem_map.mp hy
      exact cons_ltL.mpr (.inl h)
theorem flat_at {α β : Type} (f : α → List β) : ∀ (L : List α) {i k : Nat} {x : α}, L[i]? = some x → k < (f x).length → (L.flatMap f)[((L.take i).flatMap f).length + k]? = (f x)[k]?
  | [], _, _, _, h, _ => by simp at h
  | a :: L, 0, k, x, h, hk => by
    have e : a = x := by simpa using h
    subst e
    rw [List.take_zero, List.flatMap_nil, List.length_nil, Nat.zero_add, List.flatMap_cons, List.getElem?_append_left hk]
  | a :: L, i + 1, k, x, h, hk => by
    have h' : L[i]? = some x := by simpa using h
    rw [List.take_succ_cons, List.flatMap_cons, List.flatMap_cons, List.length_append, Nat.add_assoc, List.getElem?_append_right (Nat.le_add_right _ _), Nat.add_sub_cancel_left]
    exact flat_at f L h' hk
theorem flat_step {α β : Type} (f : α → List β) (L : List α) {i : Nat} {x : α} (h : L[i]? = some x) : ((L.take (i + 1)).flatMap f).length = ((L.take i).flatMap f).length + (f x).length := by
  rw [List.take_succ, h, List.flatMap_append, List.length_append]
  simp
theorem txts_lenZ (a : List (List Nat)) : (txts a).length = a.length := by unfold txts; rw [List.length_map]
/-- the promise of rising_rows, by depth -/
def d_rising : Nat → GSpZ stg
  | 0 => fun _ _ _ => False
  | n + 1 => fun ds g q => ∃ (p l : Nat) (m : Int), ds = [.int p, .int l, .int m] ∧ p ≤ n ∧ p ≤ 1000 ∧ l ≤ 1000 ∧ -1000 ≤ m ∧ m ≤ 1000 ∧ q ((risR p l m.toNat).map fun xs => .tup (nats xs))
def d_z_raised : DSp stg := fun ds g q _ => ∃ (o xs : List Nat) (c : D), ds = [.tup (nats o), c] ∧ itemsOf c = some (nats xs) ∧ isPerm o ∧ o.length ≤ 1000 ∧ xs.length = o.length ∧ (∀ x ∈ xs, x ≤ 1000) ∧ q (.lst (nats (rsdW o xs))) g
/-- the fillings, as they are yielded -/
def filL (o : List Nat) (m : Nat) : List (List Nat) := (risR o.length 0 ((m : Int) - (stpW o).length).toNat).map (filW o)
def d_z_each_filling : GSpZ stg := fun ds g q => ∃ (o : List Nat) (m : Nat), ds = [.tup (nats o), .int m] ∧ isPerm o ∧ o.length ≤ 24 ∧ m ≤ 26 ∧ q (txts (filL o m))
end DL
set_option Elab.async false
set_option linter.all false
set_option maxRecDepth 100000
set_option maxHeartbeats 1000000
namespace DL
open PySem L2
theorem flat_le {α β : Type} {f : α → List β} {b : Nat} : ∀ {L : List α}, (∀ x ∈ L, (f x).length ≤ b) → (L.flatMap f).length ≤ L.length * b
  | [], _ => by simp
  | a :: L, h => by
    have h1 := h a List.mem_cons_self
    have h2 := flat_le (L := L) fun x hx => h x (List.mem_cons_of_mem _ hx)
    rw [List.flatMap_cons, List.length_append, List.length_cons, Nat.succ_mul]
    omega
theorem risR_Row {n : Nat} {M : Int} {r : List Nat} : r ∈ risR n 0 M.toNat ↔ Row n M r := by
  rw [risR_mem]
  unfold Row
  constructor
  · rintro ⟨h1, h2, h3⟩
    exact ⟨h1, h2, fun x hx => by have := h3 x hx; omega⟩
  · rintro ⟨h1, h2, h3⟩
    exact ⟨h1, h2, fun x hx => by have := h3 x hx; omega⟩
theorem row_inj {o r s : List Nat} {M N : Int} (ho : isPerm o) (hr : Row o.length M r) (hs : Row o.length N s) (e : filW o r = filW o s) : r = s := by
  rw [← row_fil ho hr.1 hr.2.1, ← row_fil ho hs.1 hs.2.1, e]
theorem fil_mem {o w : List Nat} {m : Nat} (ho : isPerm o) (hm : m ≤ 26) : w ∈ filL o m ↔ tOrd w = o ∧ ∀ c ∈ w, 97 ≤ c ∧ c < 97 + m := by
  unfold filL
  rw [List.mem_map]
  constructor
  · rintro ⟨r, hr, rfl⟩
    obtain ⟨r1, r2, r3⟩ := risR_Row.mp hr
    exact ⟨fil_TO ho r1 r2, fil_lets r1 ho hm r3⟩
  · rintro ⟨rfl, h⟩
    have R := row_Row h
    exact ⟨rowW w, risR_Row.mpr (by rw [tOrd_len]; exact R), fil_row fun c hc => (h c hc).1⟩
theorem risR_nodup (p l m : Nat) : (risR p l m).Nodup := (risR_lt p l m).imp fun {x y} (h : x < y) (z : x = y) => List.lt_irrefl x (by rw [← z] at h; exact h)
theorem fil_nodup {o : List Nat} {m : Nat} (ho : isPerm o) : (filL o m).Nodup := by
  unfold filL
  refine (List.pairwise_map (R := (· ≠ ·))).mpr ((risR_nodup _ _ _).imp_of_mem fun {r s} hr hs ne e => ne (row_inj ho (risR_Row.mp hr) (risR_Row.mp hs) e))
theorem txt_eqF {x : List (List Nat)} (h : ∀ w ∈ x, ∀ c ∈ w, c < 1114112) : shp (.lst (txts x)) = true ∧ deq (.lst (txts x)) (.lst (txts x)) = true :=
  ⟨(sh_lst (k := 0) fun d hd => by
    obtain ⟨w, hw, rfl⟩ := List.mem_map.mp hd
    exact sh_str w (h w hw)).ok (by decide), deq_refl (d := .lst (txts x)) (nb_txts x)⟩
theorem app_ltF : ∀ {a b x y : List Nat}, a.length = b.length → a < b → a ++ x < b ++ y
  | [], [], _, _, _, h => (List.lt_irrefl _ h).elim
  | [], _ :: _, _, _, l, _ => by cases l
  | _ :: _, [], _, _, l, _ => by cases l
  | a :: as, b :: bs, x, y, l, h => by
    rw [List.cons_append, List.cons_append]
    rcases cons_ltL.mp h with h | ⟨e, h⟩
    · exact cons_ltL.mpr (.inl h)
    · exact cons_ltL.mpr (.inr ⟨e, app_ltF (by simpa using l) h⟩)
theorem allW_lt {L : List Nat} (hL : L.Pairwise (· < ·)) : ∀ n, (allW L n).Pairwise (· < ·)
  | 0 => List.pairwise_singleton _ _
  | n + 1 => by
    show ((allW L n).flatMap fun h => L.map fun c => h ++ [c]).Pairwise _
    rw [List.pairwise_flatMap]
    refine ⟨fun h _ => List.pairwise_map.mpr (hL.imp fun {a b} lt => ?_), (allW_lt hL n).imp_of_mem fun {g h} hg hh lt x hx y hy => ?_⟩
    · exact List.append_left_lt (List.cons_lt_cons_iff.mpr (.inl lt))
    · obtain ⟨a, _, rfl⟩ := List.mem_map.mp hx
      obtain ⟨b, _, rfl⟩ := List.mem_map.mp hy
      have l1 := ((mem_allW _ _ _).mp hg).1
      have l2 := ((mem_allW _ _ _).mp hh).1
      exact app_ltF (by omega) lt
theorem few5 : ∀ m : Nat, m ≤ 5 → ([97, 98, 99, 100, 101].take m).Pairwise (· < ·) ∧ ∀ c, c ∈ [97, 98, 99, 100, 101].take m ↔ 97 ≤ c ∧ c < 97 + m := fun m h => by
  have : m = 0 ∨ m = 1 ∨ m = 2 ∨ m = 3 ∨ m = 4 ∨ m = 5 := by omega
  rcases this with rfl | rfl | rfl | rfl | rfl | rfl <;> refine ⟨by simp, fun c => ?_⟩ <;> simp <;> omega
/-- the fillings of all orders are all words, each once -/
theorem all_perm {n m : Nat} (hm : m ≤ 5) : ((allO n).flatMap fun o => filL o m).Perm (allW ([97, 98, 99, 100, 101].take m) n) := by
  obtain ⟨l5, m5⟩ := few5 m hm
  have nd : ([97, 98, 99, 100, 101].take m).Nodup := l5.imp fun {x y} h => Nat.ne_of_lt h
  refine (List.perm_ext_iff_of_nodup ?_ (allW_nodup nd n)).mpr fun w => ?_
  · show List.Pairwise (· ≠ ·) _
    rw [List.pairwise_flatMap]
    refine ⟨fun o ho => fil_nodup (allO_ok n o ho).1, (allO_nodup n).imp_of_mem fun {o p} ho hp ne x hx y hy e => ne ?_⟩
    have h1 := ((fil_mem (allO_ok n o ho).1 (by omega)).mp hx).1
    have h2 := ((fil_mem (allO_ok n p hp).1 (by omega)).mp hy).1
    rw [← h1, ← h2, e]
  · rw [List.mem_flatMap, mem_allW]
    constructor
    · rintro ⟨o, ho, hw⟩
      obtain ⟨h1, h2⟩ := (fil_mem (allO_ok n o ho).1 (by omega)).mp hw
      have := tOrd_len w
      rw [h1, (allO_ok n o ho).2] at this
      exact ⟨this.symm, fun c hc => (m5 c).mpr (h2 c hc)⟩
    · rintro ⟨h1, h2⟩
      refine ⟨tOrd w, allO_all n (tOrd_perm w) (by rw [tOrd_len, h1]), (fil_mem (tOrd_perm w) (by omega)).mpr ⟨rfl, fun c hc => (m5 c).mp (h2 c hc)⟩⟩
theorem all_sorted {n m : Nat} (hm : m ≤ 5) {ys : List (List Nat)} (p : ys.Perm ((allO n).flatMap fun o => filL o m)) (h : ys.Pairwise fun a b => ¬ b < a) : ys = allW ([97, 98, 99, 100, 101].take m) n :=
  List.Perm.eq_of_pairwise (le := fun a b => ¬ b < a) (fun a b _ _ h1 h2 => List.le_antisymm (List.not_lt.mp h1) (List.not_lt.mp h2)) h ((allW_lt (few5 m hm).1 n).imp fun {a b} lt gt => List.lt_irrefl _ (List.lt_trans lt gt)) (p.trans (all_perm hm))
def d_l_all_words5 : DSp stg := fun ds g q _ => ∃ (L : List Nat) (n : Nat), ds = [.str L, .int n] ∧ L.length ≤ 5 ∧ n ≤ 5 ∧ q (.lst (txts (allW L n))) g
theorem allW_count5 {L : List Nat} (hL : L.length ≤ 5) : ∀ n, (allW L n).length ≤ 5 ^ n
  | 0 => Nat.le_refl _
  | n + 1 => by
    have := flat_le (f := fun h : List Nat => L.map fun c => h ++ [c]) (b := 5) (L := allW L n) fun x _ => by rw [List.length_map]; exact hL
    refine Nat.le_trans this ?_
    rw [Nat.pow_succ]
    exact Nat.mul_le_mul_right _ (allW_count5 hL n)
theorem allW_cnt (L : List Nat) : ∀ n, (allW L n).length ≤ L.length ^ n
  | 0 => Nat.le_refl _
  | n + 1 => by
    have := flat_le (f := fun h : List Nat => L.map fun c => h ++ [c]) (b := L.length) (L := allW L n) fun x _ => by rw [List.length_map]; exact Nat.le_refl _
    refine Nat.le_trans this ?_
    rw [Nat.pow_succ]
    exact Nat.mul_le_mul_right _ (allW_cnt L n)
end DL
set_option Elab.async false
set_option linter.all false
set_option maxRecDepth 100000
set_option maxHeartbeats 4000000
namespace LW
open PySem L2 DL
def topS (i : Nat) : Stmt := PySem.Challenge.pw_tailranks_k22_whole_fillings_are_all_wor.main.body.getD i (.Pass ⟨0, 0, 0, 0⟩)
abbrev sStream : Stmt := topS 12
abbrev sDraw : Stmt := topS 13
theorem scStream : FnScope ["_law_script", "_law_cells", "_law_cell"] ["_law_script"] (defScope sStream) := ⟨rfl, rfl, rfl, by decide +kernel, rfl, by decide +kernel, by decide +kernel⟩
section
variable {P : Program} {w : World} {K : PySem.W.Frag} {mg : Str → Option Value} {base : Heap}
theorem ok_stream {f : Addr} {fd : FuncData} (F : Fun K "_law_stream" "_law_stream" sStream f fd) (ml : mg "len" = none) (ma : mg "abs" = none) : FnG P w K mg base 1 f fd ["_law_script"] (spStream K) := by
  refine fng_of F scStream (fun vs H Q E h => ?_) (fun cdv A outer s H vs Q E hr hgd h => ?_)
  · obtain ⟨a, ns, rfl, _⟩ := h
    rfl
  · obtain ⟨a, ns, rfl, hS, hlen, hQ⟩ := h
    refine ⟨_, PSs.nox (pss_cons (ps_setLc (i := 1) (own := [("_law_cell", 2)]) (g := gName 2) (tt := tYes) rfl scStream.nd rfl rfl (sw_true rfl rfl rfl (by decide +kernel)) (pi_list (pv 0))
        (blkOk_by (own := [("_law_cell", 2)]) (N := ["_law_script", "_law_cells", "_law_cell"]) (sc := defScope sStream) (by decide +kernel)) (fun _ _ _ _ _ => pg_name (i := 2) scStream.nd rfl (Or.inl rfl)) (fun _ _ _ _ _ => pts_nil)
        (fun _ _ _ _ _ => pe_callB call_abs (by rfl) ma (by decide +kernel) (pa_cons (pv 2) pa_nil)))
      (pss_one (ps_ret (pe_lst (pa_cons (pe_lc (own := [("_law_cell", 2)]) (g := gName 2) (tt := _) rfl scStream.nd (pi_list (pv 1))
          (blkOk_by (own := [("_law_cell", 2)]) (N := ["_law_script", "_law_cells", "_law_cell"]) (sc := defScope sStream) (by decide +kernel)) (fun _ _ _ _ _ => pg_name (i := 2) scStream.nd rfl (Or.inl rfl))
          (fun _ _ _ _ _ => pts_one (pt_cmpR op_ge (pv 2) (pe_op op_pow pe_int pe_int) (nomark _))) (fun _ _ _ _ _ => pv 2))
        (pa_cons (pe_op op_cat (pv 1) (pe_lst (pa_cons (pe_op op_add (pe_callB call_len_seq (by rfl) ml PySem.boot_len (pa_cons (pv 1) pa_nil)) pe_int) pa_nil))) (pa_cons pe_int pa_nil))))))), ?_⟩
    -- _law_cells
    refine ⟨.ref a, rfl, a, rfl, ⟨_, hS⟩, fun D hD => ?_⟩
    have hAD : ∀ o, H a = some o → a ≠ D := fun o e => ne_of_none e hD
    refine lc_list (K := K) (a := a) (xs := ns.map V.int) (fun i H1 => Same H H1 ∧ H1 D = some (.lst ((ns.take i).map fun n => V.int (if n < 0 then -n else n)))) ⟨same_new hD, upd_same⟩ (fun i H1 _ h => h.1.seq hS) (fun i x H1 hx h => ?_) (fun H1 h => ?_)
    · obtain ⟨j, rfl, hj⟩ := map_int_get hx
      refine ⟨rfl, iteT (B := Same H H1 ∧ H1 D = some (.lst ((ns.take (i + 1)).map fun n => V.int (if n < 0 then -n else n)))) ?_⟩
      refine ⟨.int j, rfl, j, rfl, _, h.2, ?_, ?_, ?_⟩
      · rw [List.length_map, List.length_take]
        exact Nat.lt_of_le_of_lt (Nat.min_le_right _ _) (small1000 (by omega))
      · intro b o e
        rw [upd_ne (show b ≠ D from ne_of_none e hD)]
        exact h.1 _ _ e
      · rw [upd_same, List.take_add_one, hj, List.map_append]
        rfl
    · obtain ⟨sm, hD1⟩ := h
      rw [List.length_map, List.take_length] at hD1
      generalize hcl : ns.map (fun n => if n < 0 then -n else n) = cells at hD1
      have hD2 : H1 D = some (.lst (cells.map V.int)) := by rw [hD1, ← hcl, List.map_map]; rfl
      have clen : cells.length = ns.length := by rw [← hcl, List.length_map]
      -- the large cells
      refine ⟨.ref D, rfl, D, rfl, ⟨_, .of hD2⟩, fun D2 hD3 => ?_⟩
      have dne : D ≠ D2 := ne_of_none hD2 hD3
      refine lc_list (K := K) (a := D) (xs := cells.map V.int) (fun i H2 => Same H1 H2 ∧ ∃ L : List Int, L.length ≤ i ∧ H2 D2 = some (.lst (L.map V.int))) ⟨same_new hD3, [], Nat.le_refl _, upd_same⟩ (fun i H2 _ h => .of (h.1 _ _ hD2)) (fun i x H2 hx h => ?_) (fun H2 h => ?_)
      · obtain ⟨sm2, L, hl, hL⟩ := h
        obtain ⟨j, rfl, hj⟩ := map_int_get hx
        have hi : i < cells.length := (List.getElem?_eq_some_iff.mp hj).1
        refine ⟨rfl, .int j, rfl, 10, 18, rfl, rfl, ⟨by decide, by decide, by decide⟩, j, _, rfl, rfl, _, rfl, ite2 (fun _ => ?_) (fun _ => ?_)⟩
        · refine ⟨.int j, rfl, _, hL, ?_, ?_, L ++ [j], ?_, ?_⟩
          · rw [List.length_map]
            exact small1000 (by omega)
          · intro b o e
            rw [upd_ne (show b ≠ D2 from ne_of_none e hD3)]
            exact sm2 _ _ e
          · rw [List.length_append, List.length_singleton]
            omega
          · rw [upd_same, List.map_append]
            rfl
        · exact ⟨sm2, L, by omega, hL⟩
      · obtain ⟨sm2, L, hl, hL⟩ := h
        have hD4 := sm2 _ _ hD2
        -- all cells
        refine ⟨.ref D, rfl, .ref D, rfl, D, _, rfl, .inl (.of hD4), _, 29, rfl, rfl, by show 1 ≤ sizeLine; decide, fun p np => ?_⟩
        have pD : D ≠ p := ne_of_none hD4 np
        have pD2 : D2 ≠ p := ne_of_none hL np
        refine ⟨D, p, _, _, rfl, rfl, (upd_ne pD).trans hD4, upd_same, ?_, fun c nc => ?_⟩
        · rw [List.length_map, clen]
          exact Nat.le_of_lt (small1000 (by show ns.length + 1 ≤ 1000; omega))
        have cD : D ≠ c := ne_of_none ((upd_ne pD).trans hD4) nc
        have cD2 : D2 ≠ c := ne_of_none ((upd_ne pD2).trans hL) nc
        have cp : p ≠ c := ne_of_none (o := .lst [V.int (((cells.map V.int).length : Nat) + 29)]) upd_same nc
        refine ⟨by show 3 ≤ sizeLine; decide, fun q nq => ?_⟩
        have sm3 := ((sm.trans sm2).trans (same_new (o := .lst [V.int (((cells.map V.int).length : Nat) + 29)]) np)).trans (same_new (o := .lst (cells.map V.int ++ [V.int (((cells.map V.int).length : Nat) + 29)])) nc)
        have hLc := (upd_ne (o := .lst (cells.map V.int ++ [V.int (((cells.map V.int).length : Nat) + 29)])) cD2).trans ((upd_ne (o := .lst [V.int (((cells.map V.int).length : Nat) + 29)]) pD2).trans hL)
        have q2 : D2 ≠ q := ne_of_none hLc nq
        have qc : c ≠ q := ne_of_none (o := .lst (cells.map V.int ++ [V.int (((cells.map V.int).length : Nat) + 29)])) upd_same nq
        refine hQ _ q D2 c L (cells ++ [(((cells.map V.int).length : Nat) : Int) + 29]) (sm3.trans (same_new nq)) (sm3.free nq) (sm.free hD3) ((sm.trans sm2).free ((same_new np).free nc)) (Ne.symm q2) (Ne.symm qc) cD2 upd_same ((upd_ne q2).trans hLc) ((upd_ne qc).trans ?_) (by simp)
        rw [upd_same, List.map_append]
        rfl
end
theorem scDraw : FnScope ["_law_stream_here", "_law_many", "_law_rest", "_law_turn", "_law_cell", "_law_mixed"] ["_law_stream_here", "_law_many"] (defScope sDraw) := ⟨rfl, rfl, rfl, by decide +kernel, rfl, by decide +kernel, by decide +kernel⟩
section
variable {P : Program} {w : World} {K : PySem.W.Frag} {mg : Str → Option Value} {base : Heap}
theorem ok_draw {f : Addr} {fd : FuncData} (F : Fun K "_law_draw" "_law_draw" sDraw f fd) (ml : mg "len" = none) : FnG P w K mg base 1 f fd ["_law_stream_here", "_law_many"] (liftSp K mg 2 dDraw) := by
  refine fng_of F scDraw (fun vs H Q E h => ?_) (fun cdv A outer s H vs Q E hr hgd h => ?_)
  · obtain ⟨W, ds, q, ex, _, _, r, hl, _⟩ := h
    rw [r.length, hl]
    rfl
  · obtain ⟨W, ds, q, ex, rfl, ok, r, hl, ⟨many, rfl, hm0, hm1, hg, hq⟩, hQ, hE⟩ := h
    have hml : many.natAbs.log2 < 9000 := Nat.lt_of_lt_of_le ((Nat.log2_lt (k := 60) (by omega)).mpr (by omega)) (by decide)
    have hu : (A.deeper (PyProof.Rows.envOfC "_law_draw" (defScope sDraw) s.heap.objs.size f cdv)).units + 64 < cLine := hr.units
    refine ⟨_, PSs.nox (pss_cons (ps_while PassesOwn.never (pt_cmpR (op_neD hu) (pe_ix ix_list (pv 0) pe_int (fun _ _ => rfl)) (pe_lst pa_nil) (nomark _))
        (pss_cons (ps_set (i := 2) scDraw.nd rfl (.inl rfl) (pe_ix ix_list (pe_ix ix_list (pv 0) pe_int (fun _ _ => rfl)) pe_int (fun _ _ => rfl)))
        (pss_cons (ps_if (pt_cmpR op_gt (pv 2) pe_int (nomark _))
          (pss_cons (ps_asg (pe_op op_fdivW (pv 2) (pv 1)) (pg_sub (pe_ix ix_list (pv 0) pe_int (fun _ _ => rfl)) pe_int set_list)) (pss_one (ps_ret (pe_op op_mod (pv 2) (pv 1))))) pss_nil)
        (pss_one (ps_expr (pe_bm PySem.F.plainAttrs_list PySem.F.slot_list_pop PySem.F.type_list_pop mt_popAt (pe_ix ix_list (pv 0) pe_int (fun _ _ => rfl)) (pa_cons pe_int pa_nil)))))))
      (pss_cons (ps_set (i := 3) scDraw.nd rfl (.inl rfl) (pe_op op_add (pe_ix ix_list (pv 0) pe_int (fun _ _ => rfl)) pe_int))
      (pss_cons (ps_asg (pv 3) (pg_sub (pv 0) pe_int set_list))
      (pss_cons (ps_set (i := 4) scDraw.nd rfl (.inl rfl) (pe_op op_mod (pe_ix ix_list (pe_ix ix_list (pv 0) pe_int (fun _ _ => rfl)) (pe_op op_mod (pv 3) (pe_callB call_len_seq (by rfl) ml PySem.boot_len (pa_cons (pe_ix ix_list (pv 0) pe_int (fun _ _ => rfl)) pa_nil))) (fun _ _ => rfl)) pe_int))
      (pss_cons (ps_set (i := 5) scDraw.nd rfl (.inl rfl) (pe_op op_mod (pe_op op_add (pe_op op_add (pe_op op_mul (pv 4) (pe_op op_add pe_int (pe_op op_mul pe_int (pv 3)))) (pe_op op_mul (pe_op op_mul pe_int (pv 3)) (pv 3))) pe_int) pe_int))
      (pss_one (ps_ret (pe_op op_mod (pe_op op_fdiv (pe_op op_mod (pe_op op_mul (pv 5) (pv 5)) pe_int) pe_int) (pv 1))))))))), ?_⟩
    obtain ⟨a, b, c, L, cs, m, h1, h2, h3, h4, h5, h6, h7, h8, h9⟩ := ok.gh.2 (Nat.le_trans (Nat.le_succ _) hg)
    obtain ⟨va, vm, rfl, ra, rm⟩ : ∃ va vm, vs = [va, vm] ∧ Rp K W.F W.R va (.ob 0) ∧ Rp K W.F W.R vm (.int many) := by
      cases r with
      | cons x t =>
        cases t with
        | cons y t =>
          cases t
          exact ⟨_, _, rfl, x, y⟩
    cases rm
    obtain rfl : va = .ref a := by
      cases ra with
      | ob e => rw [h1] at e; cases e; rfl
    have d0 : DrawAt K W W a b c L cs m := ⟨Go.refl W, ok, rfl, h1, h2, h3, h4, h5, h6, h7, h8, h9⟩
    refine ⟨fun n σ H => ∃ (W1 : Wd stg) (L : List Int) (y : Option V), W1.H = H ∧ n = L.length ∧ σ = [some (.ref a), some (.int many), y, none, none, none] ∧ DrawAt K W W1 a b c L cs m, ⟨_, W, L, none, rfl, rfl, rfl, d0⟩, ?_⟩
    rintro n σ H ⟨W1, L1, y, rfl, rfl, rfl, d⟩
    -- _law_stream_here[0] != []
    refine ⟨.ref a, rfl, a, _, 0, .ref b, rfl, rfl, .of d.ha, atI_nat (j := 0) rfl, Nat.zero_le _, fun p np => ?_⟩
    have d1 := d.new (o := .lst []) np
    have e1 : Dp K (upd W1.H p (.lst [])) (.ref b) (.list (L1.map PyData.int)) := .lst (.of d1.hb) (by
      clear d1 d
      induction L1 with
      | nil => exact .nil
      | cons x r ih => exact .cons (.int x) ih)
    have sh : SeqAt.shaped (.list (L1.map PyData.int)) = true := by
      have c1 : ∀ L : List Int, PyData.canLayAll0 (L.map PyData.int) = true := fun L => by
        induction L with
        | nil => rfl
        | cons x r ih => simp [PyData.canLayAll0, PyData.canLay0, ih]
      have c2 : ∀ L : List Int, PyData.depthAll (L.map PyData.int) = 0 := fun L => by
        induction L with
        | nil => rfl
        | cons x r ih => simp [PyData.depthAll, PyData.depth, ih]
      simp [SeqAt.shaped, PyData.canLay0, PyData.depth, c1, c2]
    refine ⟨.list (L1.map PyData.int), .list [], e1, .lst (.of upd_same) .nil, sh, by decide, _, rfl, ?_⟩
    cases L1 with
    | nil =>
      refine iteF ?_
      -- _law_turn = _law_stream_here[2] + 1
      refine ⟨.ref a, rfl, a, _, 2, .int m, rfl, rfl, .of d1.ha, atI_nat (j := 2) rfl, m, 1, rfl, rfl, ?_⟩
      -- _law_stream_here[2] = _law_turn
      refine ⟨.int (m + 1), rfl, .ref a, rfl, a, _, 2, 2, rfl, rfl, d1.ha, rfl, ?_⟩
      have hra : a ∈ (W1.new p (.lst [])).R := List.mem_of_getElem? d1.r0
      have hcn : c ≠ a := fun z => by
        have := d1.ok.rf a hra
        rw [← z, d1.hc] at this
        cases this
      have hc1 := d1.ok.sub _ _ d1.hc
      have go2 : Go W ((W1.new p (.lst [])).reg a (.lst [.ref b, .ref c, .int (m + 1)]) (W.g + 1)) := d1.go.trans (Go.reg' hra)
      have ok2 : Wok K ((W1.new p (.lst [])).reg a (.lst [.ref b, .ref c, .int (m + 1)]) (W.g + 1)) := by
        refine d1.ok.reg hra ⟨d1.ok.gh.1, fun hn => ⟨a, b, c, [], cs, m + 1, d1.r0, d1.r1, d1.ne, upd_same, (upd_ne d1.ne.symm).trans d1.hb, d1.hc, by have := d1.m0; omega, ?_, d1.cs0⟩⟩
        show m + 1 ≤ ((W.g : Nat) : Int) + 1
        have := d1.mn
        exact Int.add_le_add_right this 1
      have hA : (upd (upd W1.H p (.lst [])) a (.lst [.ref b, .ref c, .int (m + 1)])) a = some (.lst [.ref b, .ref c, .int (m + 1)]) := upd_same
      have hC : (upd (upd W1.H p (.lst [])) a (.lst [.ref b, .ref c, .int (m + 1)])) c = some (.lst (cs.map V.int)) := (upd_ne hcn).trans hc1
      have hm : m + 1 ≤ 2 ^ 60 := by
        have h1 := d1.mn
        have h2 : ((W.g : Nat) : Int) + 1 ≤ 2 ^ 60 := by
          have : ((W.g + 1 : Nat) : Int) ≤ ((2 ^ 60 : Nat) : Int) := Int.ofNat_le.mpr hg
          exact this
        omega
      have hm0' := d1.m0
      have clen : 0 < ((cs.map V.int).length : Int) := by
        rw [List.length_map]
        cases cs with
        | nil => exact absurd rfl d1.cs0
        | cons x r => rw [List.length_cons]; omega
      have ilt := Int.emod_lt_of_pos (m + 1) clen
      have ige := Int.emod_nonneg (m + 1) (show ((cs.map V.int).length : Int) ≠ 0 by omega)
      obtain ⟨j, hj⟩ := Int.eq_ofNat_of_zero_le ige
      have jlt : j < cs.length := by
        rw [List.length_map] at ilt
        rw [List.length_map] at hj
        omega
      have c0 := Int.emod_nonneg cs[j] (show (2147483587 : Int) ≠ 0 by decide)
      have c1 := Int.emod_lt_of_pos cs[j] (show (0 : Int) < 2147483587 by decide)
      have e64 : (2 : Int) ^ 64 = 18446744073709551616 := by decide
      have e60 : (2 : Int) ^ 60 = 1152921504606846976 := by decide
      have hix : atI (cs.map V.int) ((m + 1) % ((cs.map V.int).length : Int)) = some (.int cs[j]) := by
        rw [hj]
        exact atI_nat (by rw [List.getElem?_map, List.getElem?_eq_getElem jlt]; rfl)
      have c2 : -(2 ^ 64) < cs[j] % 2147483587 ∧ cs[j] % 2147483587 < 2 ^ 64 := ⟨by omega, by omega⟩
      have c3 : -(2 ^ 64) < m + 1 ∧ m + 1 < 2 ^ 64 := ⟨by omega, by omega⟩
      have d64 : ∀ y : Int, -(2 ^ 64) < y % 2147483647 ∧ y % 2147483647 < 2 ^ 64 := fun y => by
        have a1 := Int.emod_nonneg y (show (2147483647 : Int) ≠ 0 by decide)
        have a2 := Int.emod_lt_of_pos y (show (0 : Int) < 2147483647 by decide)
        exact ⟨by omega, by omega⟩
      -- _law_cell
      refine ⟨.ref a, rfl, a, _, 1, .ref c, rfl, rfl, .of hA, atI_nat (j := 1) rfl, .int (m + 1), rfl, .ref a, rfl, a, _, 1, .ref c, rfl, rfl, .of hA, atI_nat (j := 1) rfl, c, cs.map V.int, rfl, .inl (.of hC), ?_⟩
      refine ⟨m + 1, _, rfl, rfl, clen, c, cs.map V.int, _, .int cs[j], rfl, rfl, .of hC, hix, ?_⟩
      refine ⟨cs[j], 2147483587, rfl, rfl, (by decide : (0 : Int) < 2147483587), ?_⟩
      -- _law_mixed
      refine ⟨.int (cs[j] % 2147483587), rfl, .int (m + 1), rfl, _, m + 1, rfl, rfl, .inl ⟨by decide, by decide⟩, _, _, rfl, rfl, cs[j] % 2147483587, _, rfl, rfl, .inl c2, ?_⟩
      refine ⟨.int (m + 1), rfl, _, m + 1, rfl, rfl, .inl ⟨by decide, by decide⟩, .int (m + 1), rfl, _, m + 1, rfl, rfl, .inr c3, _, _, rfl, rfl, _, _, rfl, rfl, _, 2147483647, rfl, rfl, (by decide : (0 : Int) < 2147483647), ?_⟩
      refine ⟨_, rfl, _, rfl, _, _, rfl, rfl, .inl (d64 _), _, 2147483629, rfl, rfl, (by decide : (0 : Int) < 2147483629), _, 16, rfl, rfl, ⟨by decide, by decide⟩, .int many, rfl, _, many, rfl, rfl, hm0, ?_⟩
      exact hQ (.int _) (.int _) _ go2 ok2 (.int _) (hq _ (Int.emod_nonneg _ (by omega)) (Int.emod_lt_of_pos _ hm0))
    | cons x L1 =>
      refine iteT ⟨fun σ H => ∃ (W1 : Wd stg) (y : Option V), W1.H = H ∧ σ = [some (.ref a), some (.int many), y, none, none, none] ∧ DrawAt K W W1 a b c L1 cs m, ?_, ?_⟩
      · rintro σ' H' ⟨W3, y3, e1, e2, e3⟩
        exact ⟨L1.length, by rw [List.length_cons]; omega, W3, L1, y3, e1, rfl, e2, e3⟩
      have ix0 : ixN ((x :: L1).map V.int).length 0 = some 0 := by
        unfold ixN
        rw [if_pos (by decide), if_pos (by rw [List.length_map, List.length_cons]; omega)]
        rfl
      have sx0 := (ixN_seq ix0).1
      -- _law_rest = _law_stream_here[0][0]
      refine ⟨.ref a, rfl, a, _, 0, .ref b, rfl, rfl, .of d1.ha, atI_nat (j := 0) rfl, b, _, 0, .int x, rfl, rfl, .of d1.hb, atI_nat (j := 0) rfl, ?_⟩
      refine ⟨.int x, rfl, x, 0, rfl, rfl, _, rfl, ite2 (fun hx => ?_) (fun hx => ?_)⟩
      · -- _law_stream_here[0][0] = _law_rest // _law_many
        refine ⟨.int x, rfl, .int many, rfl, x, many, rfl, rfl, ⟨hm0, hml⟩, .ref a, rfl, a, _, 0, .ref b, rfl, rfl, .of d1.ha, atI_nat (j := 0) rfl, b, _, 0, 0, rfl, rfl, d1.hb, ix0, ?_⟩
        refine ⟨.int x, rfl, .int many, rfl, x, many, rfl, rfl, hm0, ?_⟩
        have d2 := d1.setB (x / many :: L1)
        have le1 : ((W1.new p (.lst [])).reg b (.lst ((x / many :: L1).map V.int)) (W1.new p (.lst [])).g).g ≤ W.g + 1 := by
          show W1.g ≤ W.g + 1
          rw [show W1.g = W.g from d.g]
          exact Nat.le_succ _
        exact hQ (.int (x % many)) (.int (x % many)) _ (d2.go.trans (go_more (n := W.g + 1))) (wok_more d2.ok le1) (.int _) (hq _ (Int.emod_nonneg _ (by omega)) (Int.emod_lt_of_pos _ hm0))
      · -- _law_stream_here[0].pop(0)
        refine ⟨.ref a, rfl, a, _, 0, .ref b, rfl, rfl, .of d1.ha, atI_nat (j := 0) rfl, .inl ⟨rfl, _, .of d1.hb⟩, b, _, 0, 0, .int x, rfl, rfl, d1.hb, by decide, by decide, sx0, rfl, ?_⟩
        exact ⟨_, some (.int x), rfl, rfl, d1.setB L1⟩
end
abbrev s_tail_order : Stmt := topS 2
abbrev s_ranks_in : Stmt := topS 3
abbrev s_strict_steps : Stmt := topS 5
abbrev s_word_along : Stmt := topS 6
abbrev s_raised : Stmt := topS 8
abbrev s_rising_rows : Stmt := topS 9
abbrev s_each_filling : Stmt := topS 10
abbrev s_l_all_words : Stmt := topS 14
abbrev s_l_all_orders : Stmt := topS 15
abbrev s_law : Stmt := topS 16
theorem sc_tail_order : FnScope ["word", "tail", "place"] ["word"] (defScope s_tail_order) := ⟨rfl, rfl, rfl, by decide +kernel, rfl, by decide +kernel, by decide +kernel⟩
def w_tail_order (ex : Exn → stg.G → Prop) : SW stg :=
  (wRet (wCB cTuple (wACons (wL (wLc (wItems (wL (wCN cSortedTI (wACons (wL (wLc (wRng1 (wCB cLen (wACons (wVar 0) wANil))) (gwN 2) wYes (wTup (wACons (wSl (wVar 0) (wOSome (wVar 2)) wONone) (wACons (wVar 2) wANil))) [2])) wANil)))) (gwT 2 (gwCons (gwN 1) (gwCons (gwN 2) gwNil))) wYes (wVar 2) [1, 2])) wANil)))
theorem ok_tail_order {P : Program} {w : World} {K : PySem.W.Frag} {mg : Str → Option Value} {base : Heap} {f : Addr} {fd : FuncData} (F : Fun K "tail_order" "tail_order" s_tail_order f fd) (g : mg "tail_order" = some (.ref f)) (m_len : mg "len" = none) (m_range : mg "range" = none) (m_sorted : mg "sorted" = none) (m_tuple : mg "tuple" = none)
    (hp : ∀ (ds : List D) (g : Nat) (q : D → Nat → Prop) (ex : Exn → Nat → Prop), ds.length = 1 → d_tail_order ds g q ex → w_tail_order ex (kEndS q) (startD ["word", "tail", "place"] ds) g) : FnB P w K mg base 1 "tail_order" ["word"] (liftSp K mg 1 d_tail_order) :=
  fnB_of F g (fnS_of (wb := w_tail_order) F sc_tail_order (fun cdv A outer s H E W0 ex hr hgd tk => (dss_one (ds_ret (de_callTy calld_tuple (by rfl) m_tuple (by decide +kernel) (dap_cons (DN.p (dn_lc (own := [("tail", 1), ("place", 2)]) rfl sc_tail_order.nd (di_seq (DN.fr (dn_callB calln_sortedTI (by rfl) m_sorted (by decide +kernel) (dap_cons (DN.p (dn_lc (own := [("place", 2)]) rfl sc_tail_order.nd (di_range1 m_range (de_callB calld_len (by rfl) m_len (by decide +kernel) (dap_cons (DE.p (de_var (pv 0))) dap_nil))) (blkOk_by (own := [("place", 2)]) (N := ["word", "tail", "place"]) (sc := defScope s_tail_order) (by decide +kernel)) (by decide) (fun _ _ _ _ _ => (dg_name (pg_name (i := 2) sc_tail_order.nd rfl (Or.inl rfl)))) (fun _ _ _ _ _ => dts_nil) (fun _ _ _ _ _ => (de_tup (da_cons (de_slice (DE.p (de_var (pv 0))) (do_some (de_var (pv 2))) do_none) (da_cons (de_var (pv 2)) da_nil)))))) dap_nil)))) (blkOk_by (own := [("tail", 1), ("place", 2)]) (N := ["word", "tail", "place"]) (sc := defScope s_tail_order) (by decide +kernel)) (by decide) (fun _ _ _ _ _ => (dg_tup rfl (dgs_cons (dg_name (pg_name (i := 1) sc_tail_order.nd rfl (Or.inl rfl))) (dgs_cons (dg_name (pg_name (i := 2) sc_tail_order.nd rfl (Or.inl rfl))) dgs_nil)))) (fun _ _ _ _ _ => dts_nil) (fun _ _ _ _ _ => (de_var (pv 2))))) dap_nil))))) hp) (F.binds (ps := ["word"]) fun _ _ _ _ _ _ us hl => match us, hl with | [_], _ => rfl)
theorem sc_ranks_in : FnScope ["order", "ranks", "rank", "place"] ["order"] (defScope s_ranks_in) := ⟨rfl, rfl, rfl, by decide +kernel, rfl, by decide +kernel, by decide +kernel⟩
def w_ranks_in (ex : Exn → stg.G → Prop) : SW stg :=
  (wSeq (wSet 1 (wO (wBinN oRep (wL (wLst (wACons (wC (.int 0)) wANil))) (wCB cLen (wACons (wVar 0) wANil)))))
    (wSeq (wFor (wEnum (wVar 0)) (gwT 2 (gwCons (gwN 2) (gwCons (gwN 3) gwNil))) (wStore 1 (wVar 2) (wVar 3)))
    (wRet (wCB cTuple (wACons (wPk 1) wANil)))))
theorem ok_ranks_in {P : Program} {w : World} {K : PySem.W.Frag} {mg : Str → Option Value} {base : Heap} {f : Addr} {fd : FuncData} (F : Fun K "ranks_in" "ranks_in" s_ranks_in f fd) (g : mg "ranks_in" = some (.ref f)) (m_enumerate : mg "enumerate" = none) (m_len : mg "len" = none) (m_tuple : mg "tuple" = none)
    (hp : ∀ (ds : List D) (g : Nat) (q : D → Nat → Prop) (ex : Exn → Nat → Prop), ds.length = 1 → d_ranks_in ds g q ex → w_ranks_in ex (kEndS q) (startD ["order", "ranks", "rank", "place"] ds) g) : FnKB P w K mg base 1 "ranks_in" ["order"] (liftSp K mg 1 d_ranks_in) :=
  fnKB_of F g (fnKS_of (wb := w_ranks_in) F sc_ranks_in (fun cdv A outer s H E W0 ex hr tk => (dss_cons (ds_set (i := 1) sc_ranks_in.nd rfl (.inl rfl) (DN.v (dn_op opn_rep (DN.p (dn_lst (da_cons de_int da_nil))) (DE.p (de_callB calld_len (by rfl) m_len (by decide +kernel) (dap_cons (DE.p (de_var (pv 0))) dap_nil))))))
      (dss_cons (ds_for (passes_of rfl) rfl (di_enum m_enumerate (de_var (pv 0))) (dg_tup rfl (dgs_cons (dg_name (pg_name (i := 2) sc_ranks_in.nd rfl (Or.inl rfl))) (dgs_cons (dg_name (pg_name (i := 3) sc_ranks_in.nd rfl (Or.inl rfl))) dgs_nil))) (dss_one (ds_store (i := 1) (pv 1) (de_var (pv 2)) (de_var (pv 3)))))
      (dss_one (ds_ret (de_callTy calld_tuple (by rfl) m_tuple (by decide +kernel) (dap_cons (dp_own (pv 1)) dap_nil))))))) hp) (F.binds (ps := ["order"]) fun _ _ _ _ _ _ us hl => match us, hl with | [_], _ => rfl)
theorem sc_strict_steps : FnScope ["order", "ranks", "steps", "index", "one", "other"] ["order"] (defScope s_strict_steps) := ⟨rfl, rfl, rfl, by decide +kernel, rfl, by decide +kernel, by decide +kernel⟩
def w_strict_steps (ex : Exn → stg.G → Prop) : SW stg :=
  (wSeq (wSet 1 (wI (wTup (wAStar (wCallB 1 d_ranks_in (wACons (wVar 0) wANil) xno) (wACons (wNeg (wC (.int 1))) wANil)))))
    (wSeq (wSet 2 (wI (wL (wListI (wEnZip (wVar 0) (wSl (wVar 0) (wOSome (wC (.int 1))) wONone))))))
    (wRet (wCB cTuple (wACons (wL (wLc (wItems (wVar 2)) (gwT 2 (gwCons (gwN 3) (gwCons (gwT 2 (gwCons (gwN 4) (gwCons (gwN 5) gwNil))) gwNil))) (wB (wBin oGt (wBin oIx (wVar 1) (wBin oAdd (wVar 4) (wC (.int 1)))) (wBin oIx (wVar 1) (wBin oAdd (wVar 5) (wC (.int 1)))))) (wBin oAdd (wVar 3) (wC (.int 1))) [3, 4, 5])) wANil)))))
theorem ok_strict_steps {P : Program} {w : World} {K : PySem.W.Frag} {mg : Str → Option Value} {base : Heap} {f : Addr} {fd : FuncData} (F : Fun K "strict_steps" "strict_steps" s_strict_steps f fd) (g : mg "strict_steps" = some (.ref f)) (F_ranks_in : FnKB P w K mg base 1 "ranks_in" ["order"] (liftSp K mg 1 d_ranks_in)) (m_enumerate : mg "enumerate" = none) (m_list : mg "list" = none) (m_tuple : mg "tuple" = none) (m_zip : mg "zip" = none)
    (hp : ∀ (ds : List D) (g : Nat) (q : D → Nat → Prop) (ex : Exn → Nat → Prop), ds.length = 1 → d_strict_steps ds g q ex → w_strict_steps ex (kEndS q) (startD ["order", "ranks", "steps", "index", "one", "other"] ds) g) : FnKB P w K mg base 2 "strict_steps" ["order"] (liftSp K mg 1 d_strict_steps) :=
  fnKB_of F g (fnKS_of (wb := w_strict_steps) F sc_strict_steps (fun cdv A outer s H E W0 ex hr tk => (dss_cons (ds_set (i := 1) sc_strict_steps.nd rfl (.inr rfl) (DE.v (de_tup (da_star (DE.p (de_callK F_ranks_in hr (da_cons (de_var (pv 0)) da_nil))) (da_cons (de_neg de_int) da_nil)))))
      (dss_cons (ds_set (i := 2) sc_strict_steps.nd rfl (.inl rfl) (DE.v (DN.fr (dn_listI rfl m_list (dj_enzip m_enumerate m_zip (de_var (pv 0)) (de_slice (DE.p (de_var (pv 0))) (do_some de_int) do_none))))))
      (dss_one (ds_ret (de_callTy calld_tuple (by rfl) m_tuple (by decide +kernel) (dap_cons (DN.p (dn_lc (own := [("index", 3), ("one", 4), ("other", 5)]) rfl sc_strict_steps.nd (di_seq (de_var (pv 2))) (blkOk_by (own := [("index", 3), ("one", 4), ("other", 5)]) (N := ["order", "ranks", "steps", "index", "one", "other"]) (sc := defScope s_strict_steps) (by decide +kernel)) (by decide) (fun _ _ _ _ _ => (dg_tup rfl (dgs_cons (dg_name (pg_name (i := 3) sc_strict_steps.nd rfl (Or.inl rfl))) (dgs_cons (dg_tup rfl (dgs_cons (dg_name (pg_name (i := 4) sc_strict_steps.nd rfl (Or.inl rfl))) (dgs_cons (dg_name (pg_name (i := 5) sc_strict_steps.nd rfl (Or.inl rfl))) dgs_nil))) dgs_nil)))) (fun _ _ _ _ _ => (dts_one (dt_cmp opd_gt (DE.p (de_ix (DE.p (de_var (pv 1))) (DE.p (de_op opd_add (DE.p (de_var (pv 4))) (DE.p de_int))) (fun _ _ => rfl))) (DE.p (de_ix (DE.p (de_var (pv 1))) (DE.p (de_op opd_add (DE.p (de_var (pv 5))) (DE.p de_int))) (fun _ _ => rfl))) (nomark _)))) (fun _ _ _ _ _ => (de_op opd_add (DE.p (de_var (pv 3))) (DE.p de_int))))) dap_nil))))))) hp) (F.binds (ps := ["order"]) fun _ _ _ _ _ _ us hl => match us, hl with | [_], _ => rfl)
theorem sc_word_along : FnScope ["order", "numbers", "signs", "place", "number"] ["order", "numbers"] (defScope s_word_along) := ⟨rfl, rfl, rfl, by decide +kernel, rfl, by decide +kernel, by decide +kernel⟩
def w_word_along (ex : Exn → stg.G → Prop) : SW stg :=
  (wSeq (wSet 2 (wO (wBinN oRep (wL (wLst (wACons (wC (.str [])) wANil))) (wCB cLen (wACons (wVar 0) wANil)))))
    (wSeq (wFor (wZip (wVar 0) (wVar 1)) (gwT 2 (gwCons (gwN 3) (gwCons (gwN 4) gwNil))) (wStore 2 (wBin oIx (wC (.str [97, 98, 99, 100, 101, 102, 103, 104, 105, 106, 107, 108, 109, 110, 111, 112, 113, 114, 115, 116, 117, 118, 119, 120, 121, 122])) (wVar 4)) (wVar 3)))
    (wRet (wJoin (wC (.str [])) (wPk 2)))))
theorem ok_word_along {P : Program} {w : World} {K : PySem.W.Frag} {mg : Str → Option Value} {base : Heap} {f : Addr} {fd : FuncData} (F : Fun K "word_along" "word_along" s_word_along f fd) (g : mg "word_along" = some (.ref f)) (m_len : mg "len" = none) (m_zip : mg "zip" = none) (c_LETTERS : GlS (mg "LETTERS") [97, 98, 99, 100, 101, 102, 103, 104, 105, 106, 107, 108, 109, 110, 111, 112, 113, 114, 115, 116, 117, 118, 119, 120, 121, 122])
    (hp : ∀ (ds : List D) (g : Nat) (q : D → Nat → Prop) (ex : Exn → Nat → Prop), ds.length = 2 → d_word_along ds g q ex → w_word_along ex (kEndS q) (startD ["order", "numbers", "signs", "place", "number"] ds) g) : FnKB P w K mg base 1 "word_along" ["order", "numbers"] (liftSp K mg 2 d_word_along) :=
  fnKB_of F g (fnKS_of (wb := w_word_along) F sc_word_along (fun cdv A outer s H E W0 ex hr tk => (dss_cons (ds_set (i := 2) sc_word_along.nd rfl (.inl rfl) (DN.v (dn_op opn_rep (DN.p (dn_lst (da_cons (de_str []) da_nil))) (DE.p (de_callB calld_len (by rfl) m_len (by decide +kernel) (dap_cons (DE.p (de_var (pv 0))) dap_nil))))))
      (dss_cons (ds_for (passes_of rfl) rfl (di_zip m_zip (de_var (pv 0)) (de_var (pv 1))) (dg_tup rfl (dgs_cons (dg_name (pg_name (i := 3) sc_word_along.nd rfl (Or.inl rfl))) (dgs_cons (dg_name (pg_name (i := 4) sc_word_along.nd rfl (Or.inl rfl))) dgs_nil))) (dss_one (ds_store (i := 2) (pv 2) (de_ix (DE.p (de_glS c_LETTERS)) (DE.p (de_var (pv 4))) (fun _ _ => rfl)) (de_var (pv 3)))))
      (dss_one (ds_ret (de_join (de_str []) (dp_own (pv 2)))))))) hp) (F.binds (ps := ["order", "numbers"]) fun _ _ _ _ _ _ us hl => match us, hl with | [_, _], _ => rfl)
theorem sc_raised : FnScope ["order", "numbers", "steps", "found", "more", "index", "number"] ["order", "numbers"] (defScope s_raised) := ⟨rfl, rfl, rfl, by decide +kernel, rfl, by decide +kernel, by decide +kernel⟩
def w_raised (ex : Exn → stg.G → Prop) : SW stg :=
  (wSeq (wPar3 2 3 4 (wI (wCallB 1 d_strict_steps (wACons (wVar 0) wANil) xno)) (wO (wLst wANil)) (wI (wC (.int 0))))
    (wSeq (wFor (wEnum (wVar 1)) (gwT 2 (gwCons (gwN 5) (gwCons (gwN 6) gwNil))) (wSeq (wAug 4 (fun i j => i + j) (wCB cInt (wACons (wBin oIn (wVar 5) (wVar 2)) wANil)))
    (wApp 3 (wBin oAdd (wVar 6) (wVar 4)))))
    (wRetO 3)))
theorem ok_raised {P : Program} {w : World} {K : PySem.W.Frag} {mg : Str → Option Value} {base : Heap} {f : Addr} {fd : FuncData} (F : Fun K "raised" "raised" s_raised f fd) (g : mg "raised" = some (.ref f)) (F_strict_steps : FnKB P w K mg base 2 "strict_steps" ["order"] (liftSp K mg 1 d_strict_steps)) (m_enumerate : mg "enumerate" = none) (m_int : mg "int" = none)
    (hp : ∀ (ds : List D) (g : Nat) (q : D → Nat → Prop) (ex : Exn → Nat → Prop), ds.length = 2 → d_z_raised ds g q ex → w_raised ex (kEndS q) (startD ["order", "numbers", "steps", "found", "more", "index", "number"] ds) g) : FnKB P w K mg base 3 "raised" ["order", "numbers"] (liftSp K mg 2 d_z_raised) :=
  fnKB_of F g (fnKS_of (wb := w_raised) F sc_raised (fun cdv A outer s H E W0 ex hr tk => (dss_cons (ds_par3 (i := 2) (j := 3) (l := 4) rfl sc_raised.nd rfl rfl rfl (by decide) (by decide) (by decide) rfl rfl rfl (DE.v (de_callK F_strict_steps hr (da_cons (de_var (pv 0)) da_nil))) (DN.v (dn_lst da_nil)) (DE.v de_int))
      (dss_cons (ds_for (passes_of rfl) rfl (di_enum m_enumerate (de_var (pv 1))) (dg_tup rfl (dgs_cons (dg_name (pg_name (i := 5) sc_raised.nd rfl (Or.inl rfl))) (dgs_cons (dg_name (pg_name (i := 6) sc_raised.nd rfl (Or.inl rfl))) dgs_nil))) (dss_cons (ds_aug (i := 4) sc_raised.nd rfl (.inl rfl) ip_add (de_callTy calld_int (by rfl) m_int (by decide +kernel) (dap_cons (DE.p (de_cmp opd_in (DE.p (de_var (pv 5))) (DE.p (de_var (pv 2))) rfl)) dap_nil)))
      (dss_one (ds_append (i := 3) (pv 3) (de_op opd_add (DE.p (de_var (pv 6))) (DE.p (de_var (pv 4))))))))
      (dss_one (ds_retO (pv 3)))))) hp) (F.binds (ps := ["order", "numbers"]) fun _ _ _ _ _ _ us hl => match us, hl with | [_, _], _ => rfl)
theorem sc_rising_rows : GScope ["places", "least", "many", "number", "rest"] ["places", "least", "many"] (defScope s_rising_rows) := ⟨rfl, rfl, rfl, by decide +kernel, rfl, by decide +kernel, by decide +kernel⟩
def w_rising_rows (n : Nat) (xs : List D) : ZW stg :=
  (zIf (wB (wBin oEq (wVar 0) (wC (.int 0)))) (zYield xs (wTup wANil)) (zFor (wRng2 (wVar 1) (wVar 2)) (gwN 3) (zFor (wGz 3 (d_rising n) (wACons (wBin oSub (wVar 0) (wC (.int 1))) (wACons (wVar 3) (wACons (wVar 2) wANil)))) (gwN 4) (zYield xs (wTup (wACons (wVar 3) (wAStar (wVar 4) wANil)))))))
theorem ok_rising_rows {P : Program} {w : World} {K : PySem.W.Frag} {mg : Str → Option Value} {base : Heap} {f : Addr} {fd : FuncData} (F : Fun K "rising_rows" "rising_rows" s_rising_rows f fd) (g : mg "rising_rows" = some (.ref f)) (n : Nat) (F_self : GzB P w K mg base (0 + 2 * n) "rising_rows" ["places", "least", "many"] (d_rising n)) (m_range : mg "range" = none)
    (hp : ∀ (ds : List D) (g : stg.G) (q : List D → Prop), ds.length = 3 → (d_rising (n + 1)) ds g q → ∃ xs, q xs ∧ (w_rising_rows n) xs (kEndZ xs) 0 g (startD ["places", "least", "many", "number", "rest"] ds) g) : GzB P w K mg base (0 + 2 * n + 2) "rising_rows" ["places", "least", "many"] (d_rising (n + 1)) :=
  gzB_of F g (gzFn_of (b := false) (wb := (w_rising_rows n)) F sc_rising_rows (fun _ => rfl) (fun cdv A outer n0 g go xs hr => (dzs_one (dz_if (fun θ => (dt_cmp (opd_eq hr.units) (DE.p (de_var (pv 0))) (DE.p de_int) (nomark _))) (dzs_one (dz_yield (fun θ => (de_tup da_nil)))) (dzs_one (dz_for (fun θ => (di_range2 m_range (de_var (pv 1)) (de_var (pv 2)))) (fun θ => (dg_name (pg_name (i := 3) sc_rising_rows.nd rfl (Or.inl rfl)))) (dzs_one (dz_forZ (hr.mono (by omega)) (fun θ => (dgn_call F_self rfl (hr.mono (by omega)) (da_cons (de_op opd_sub (DE.p (de_var (pv 0))) (DE.p de_int)) (da_cons (de_var (pv 3)) (da_cons (de_var (pv 2)) da_nil))))) (fun θ => (dg_name (pg_name (i := 4) sc_rising_rows.nd rfl (Or.inl rfl)))) (dzs_one (dz_yield (fun θ => (de_tup (da_cons (de_var (pv 3)) (da_star (DE.p (de_var (pv 4))) da_nil))))))))))))) hp) (F.binds (ps := ["places", "least", "many"]) fun _ _ _ _ _ _ us hl => match us, hl with | [_, _, _], _ => rfl)
theorem sc_each_filling : GScope ["order", "many", "numbers"] ["order", "many"] (defScope s_each_filling) := ⟨rfl, rfl, rfl, by decide +kernel, rfl, by decide +kernel, by decide +kernel⟩
def w_each_filling (xs : List D) : ZW stg :=
  (zFor (wGz 3 (d_rising 25) (wACons (wCB cLen (wACons (wVar 0) wANil)) (wACons (wC (.int 0)) (wACons (wBin oSub (wVar 1) (wCB cLen (wACons (wCallB 1 d_strict_steps (wACons (wVar 0) wANil) xno) wANil))) wANil)))) (gwN 2) (zYield xs (wCallB 2 d_word_along (wACons (wVar 0) (wACons (wCallB 2 d_z_raised (wACons (wVar 0) (wACons (wVar 2) wANil)) xno) wANil)) xno)))
theorem ok_each_filling {P : Program} {w : World} {K : PySem.W.Frag} {mg : Str → Option Value} {base : Heap} {f : Addr} {fd : FuncData} (F : Fun K "each_filling" "each_filling" s_each_filling f fd) (g : mg "each_filling" = some (.ref f)) (F_strict_steps : FnKB P w K mg base 2 "strict_steps" ["order"] (liftSp K mg 1 d_strict_steps)) (F_rising_rows : GzB P w K mg base 50 "rising_rows" ["places", "least", "many"] (d_rising 25)) (F_raised : FnKB P w K mg base 3 "raised" ["order", "numbers"] (liftSp K mg 2 d_z_raised)) (F_word_along : FnKB P w K mg base 1 "word_along" ["order", "numbers"] (liftSp K mg 2 d_word_along)) (m_len : mg "len" = none)
    (hp : ∀ (ds : List D) (g : stg.G) (q : List D → Prop), ds.length = 2 → d_z_each_filling ds g q → ∃ xs, q xs ∧ w_each_filling xs (kEndZ xs) 0 g (startD ["order", "many", "numbers"] ds) g) : GzB P w K mg base 54 "each_filling" ["order", "many"] d_z_each_filling :=
  gzB_of F g (gzFn_of (b := false) (wb := w_each_filling) F sc_each_filling (fun _ => rfl) (fun cdv A outer n0 g go xs hr => (dzs_one (dz_forZ (hr.mono (by decide)) (fun θ => (dgn_call F_rising_rows rfl (hr.mono (by decide)) (da_cons (de_callB calld_len (by rfl) m_len (by decide +kernel) (dap_cons (DE.p (de_var (pv 0))) dap_nil)) (da_cons de_int (da_cons (de_op opd_sub (DE.p (de_var (pv 1))) (DE.p (de_callB calld_len (by rfl) m_len (by decide +kernel) (dap_cons (DE.p (de_callK F_strict_steps (hr.mono (by decide)) (da_cons (de_var (pv 0)) da_nil))) dap_nil)))) da_nil))))) (fun θ => (dg_name (pg_name (i := 2) sc_each_filling.nd rfl (Or.inl rfl)))) (dzs_one (dz_yield (fun θ => (de_callK F_word_along (hr.mono (by decide)) (da_cons (de_var (pv 0)) (da_cons (de_callK F_raised (hr.mono (by decide)) (da_cons (de_var (pv 0)) (da_cons (de_var (pv 2)) da_nil))) da_nil))))))))) hp) (F.binds (ps := ["order", "many"]) fun _ _ _ _ _ _ us hl => match us, hl with | [_, _], _ => rfl)
theorem sc_l_all_words : FnScope ["_law_letters", "_law_size", "_law_found", "_law_k", "_law_longer", "_law_head", "_law_letter"] ["_law_letters", "_law_size"] (defScope s_l_all_words) := ⟨rfl, rfl, rfl, by decide +kernel, rfl, by decide +kernel, by decide +kernel⟩
def w_l_all_words (ex : Exn → stg.G → Prop) : SW stg :=
  (wSeq (wSet 2 (wI (wL (wLst (wACons (wC (.str [])) wANil)))))
    (wSeq (wFor (wRng1 (wVar 1)) (gwN 3) (wSeq (wSet 4 (wO (wLst wANil)))
    (wSeq (wFor (wItems (wVar 2)) (gwN 5) (wExt 4 (wL (wLc (wItems (wVar 0)) (gwN 6) wYes (wBin oAdd (wVar 5) (wVar 6)) [6]))))
    (wFrz 4 (wSet 2 (wI (wVar 4)))))))
    (wRet (wVar 2))))
theorem ok_l_all_words {P : Program} {w : World} {K : PySem.W.Frag} {mg : Str → Option Value} {base : Heap} {f : Addr} {fd : FuncData} (F : Fun K "_law_all_words" "_law_all_words" s_l_all_words f fd) (g : mg "_law_all_words" = some (.ref f)) (m_range : mg "range" = none)
    (hp : ∀ (ds : List D) (g : Nat) (q : D → Nat → Prop) (ex : Exn → Nat → Prop), ds.length = 2 → d_l_all_words5 ds g q ex → w_l_all_words ex (kEndS q) (startD ["_law_letters", "_law_size", "_law_found", "_law_k", "_law_longer", "_law_head", "_law_letter"] ds) g) : FnB P w K mg base 1 "_law_all_words" ["_law_letters", "_law_size"] (liftSp K mg 2 d_l_all_words5) :=
  fnB_of F g (fnS_of (wb := w_l_all_words) F sc_l_all_words (fun cdv A outer s H E W0 ex hr hgd tk => (dss_cons (ds_set (i := 2) sc_l_all_words.nd rfl (.inl rfl) (DE.v (DN.fr (dn_lst (da_cons (de_str []) da_nil)))))
      (dss_cons (ds_for (passes_of rfl) rfl (di_range1 m_range (de_var (pv 1))) (dg_name (pg_name (i := 3) sc_l_all_words.nd rfl (Or.inl rfl))) (dss_cons (ds_set (i := 4) sc_l_all_words.nd rfl (.inl rfl) (DN.v (dn_lst da_nil)))
      (dss_cons (ds_for (passes_of rfl) rfl (di_seq (de_var (pv 2))) (dg_name (pg_name (i := 5) sc_l_all_words.nd rfl (Or.inr rfl))) (dss_one (ds_extend (i := 4) (pv 4) (DN.fr (dn_lc (own := [("_law_letter", 6)]) rfl sc_l_all_words.nd (di_seq (de_var (pv 0))) (blkOk_by (own := [("_law_letter", 6)]) (N := ["_law_letters", "_law_size", "_law_found", "_law_k", "_law_longer", "_law_head", "_law_letter"]) (sc := defScope s_l_all_words) (by decide +kernel)) (by decide) (fun _ _ _ _ _ => (dg_name (pg_name (i := 6) sc_l_all_words.nd rfl (Or.inl rfl)))) (fun _ _ _ _ _ => dts_nil) (fun _ _ _ _ _ => (de_op opd_add (DE.p (de_var (pv 5))) (DE.p (de_var (pv 6))))))))))
      (dss_frz 4 (dss_one (ds_set (i := 2) sc_l_all_words.nd rfl (.inl rfl) (DE.v (de_var (pv 4)))))))))
      (dss_one (ds_ret (de_var (pv 2))))))) hp) (F.binds (ps := ["_law_letters", "_law_size"]) fun _ _ _ _ _ _ us hl => match us, hl with | [_, _], _ => rfl)
theorem sc_l_all_orders : FnScope ["_law_size", "_law_found", "_law_many", "_law_longer", "_law_order", "_law_moved", "_law_place", "_law_spot"] ["_law_size"] (defScope s_l_all_orders) := ⟨rfl, rfl, rfl, by decide +kernel, rfl, by decide +kernel, by decide +kernel⟩
def w_l_all_orders (ex : Exn → stg.G → Prop) : SW stg :=
  (wSeq (wSet 1 (wI (wL (wLst (wACons (wTup wANil) wANil)))))
    (wSeq (wFor (wRng1 (wVar 0)) (gwN 2) (wSeq (wSet 3 (wO (wLst wANil)))
    (wSeq (wFor (wItems (wVar 1)) (gwN 4) (wSeq (wSet 5 (wI (wCB cTuple (wACons (wL (wLc (wItems (wVar 4)) (gwN 6) wYes (wBin oAdd (wVar 6) (wC (.int 1))) [6])) wANil))))
    (wExt 3 (wL (wLc (wRng1 (wBin oAdd (wVar 2) (wC (.int 1)))) (gwN 7) wYes (wBin oAdd (wBin oAdd (wSl (wVar 5) wONone (wOSome (wVar 7))) (wTup (wACons (wC (.int 0)) wANil))) (wSl (wVar 5) (wOSome (wVar 7)) wONone)) [7])))))
    (wFrz 3 (wSet 1 (wI (wVar 3)))))))
    (wRet (wVar 1))))
theorem ok_l_all_orders {P : Program} {w : World} {K : PySem.W.Frag} {mg : Str → Option Value} {base : Heap} {f : Addr} {fd : FuncData} (F : Fun K "_law_all_orders" "_law_all_orders" s_l_all_orders f fd) (g : mg "_law_all_orders" = some (.ref f)) (m_range : mg "range" = none) (m_tuple : mg "tuple" = none)
    (hp : ∀ (ds : List D) (g : Nat) (q : D → Nat → Prop) (ex : Exn → Nat → Prop), ds.length = 1 → d_l_all_orders ds g q ex → w_l_all_orders ex (kEndS q) (startD ["_law_size", "_law_found", "_law_many", "_law_longer", "_law_order", "_law_moved", "_law_place", "_law_spot"] ds) g) : FnB P w K mg base 1 "_law_all_orders" ["_law_size"] (liftSp K mg 1 d_l_all_orders) :=
  fnB_of F g (fnS_of (wb := w_l_all_orders) F sc_l_all_orders (fun cdv A outer s H E W0 ex hr hgd tk => (dss_cons (ds_set (i := 1) sc_l_all_orders.nd rfl (.inl rfl) (DE.v (DN.fr (dn_lst (da_cons (de_tup da_nil) da_nil)))))
      (dss_cons (ds_for (passes_of rfl) rfl (di_range1 m_range (de_var (pv 0))) (dg_name (pg_name (i := 2) sc_l_all_orders.nd rfl (Or.inl rfl))) (dss_cons (ds_set (i := 3) sc_l_all_orders.nd rfl (.inl rfl) (DN.v (dn_lst da_nil)))
      (dss_cons (ds_for (passes_of rfl) rfl (di_seq (de_var (pv 1))) (dg_name (pg_name (i := 4) sc_l_all_orders.nd rfl (Or.inl rfl))) (dss_cons (ds_set (i := 5) sc_l_all_orders.nd rfl (.inr rfl) (DE.v (de_callTy calld_tuple (by rfl) m_tuple (by decide +kernel) (dap_cons (DN.p (dn_lc (own := [("_law_place", 6)]) rfl sc_l_all_orders.nd (di_seq (de_var (pv 4))) (blkOk_by (own := [("_law_place", 6)]) (N := ["_law_size", "_law_found", "_law_many", "_law_longer", "_law_order", "_law_moved", "_law_place", "_law_spot"]) (sc := defScope s_l_all_orders) (by decide +kernel)) (by decide) (fun _ _ _ _ _ => (dg_name (pg_name (i := 6) sc_l_all_orders.nd rfl (Or.inl rfl)))) (fun _ _ _ _ _ => dts_nil) (fun _ _ _ _ _ => (de_op opd_add (DE.p (de_var (pv 6))) (DE.p de_int))))) dap_nil))))
      (dss_one (ds_extend (i := 3) (pv 3) (DN.fr (dn_lc (own := [("_law_spot", 7)]) rfl sc_l_all_orders.nd (di_range1 m_range (de_op opd_add (DE.p (de_var (pv 2))) (DE.p de_int))) (blkOk_by (own := [("_law_spot", 7)]) (N := ["_law_size", "_law_found", "_law_many", "_law_longer", "_law_order", "_law_moved", "_law_place", "_law_spot"]) (sc := defScope s_l_all_orders) (by decide +kernel)) (by decide) (fun _ _ _ _ _ => (dg_name (pg_name (i := 7) sc_l_all_orders.nd rfl (Or.inl rfl)))) (fun _ _ _ _ _ => dts_nil) (fun _ _ _ _ _ => (de_op opd_add (DE.p (de_op opd_add (DE.p (de_slice (DE.p (de_var (pv 5))) do_none (do_some (de_var (pv 7))))) (DE.p (de_tup (da_cons de_int da_nil))))) (DE.p (de_slice (DE.p (de_var (pv 5))) (do_some (de_var (pv 7))) do_none))))))))))
      (dss_frz 3 (dss_one (ds_set (i := 1) sc_l_all_orders.nd rfl (.inl rfl) (DE.v (de_var (pv 3)))))))))
      (dss_one (ds_ret (de_var (pv 1))))))) hp) (F.binds (ps := ["_law_size"]) fun _ _ _ _ _ _ us hl => match us, hl with | [_], _ => rfl)
theorem sc_law : FnScope ["_law_script", "_law_stream_here", "_law_size", "_law_many", "_law_found", "_law_order", "_law_words", "_law_word"] ["_law_script"] (defScope s_law) := ⟨rfl, rfl, rfl, by decide +kernel, rfl, by decide +kernel, by decide +kernel⟩
def w_law : SW stg :=
  (wSeq (wFor (wItems (wL (wLst (wACons (wL (wLst (wACons (wBin oAdd (wC (.int 1)) (wCallB 2 d_l_draw (wACons (wVar 1) (wACons (wC (.int 5)) wANil)) xno)) (wACons (wC (.int 2)) wANil)))) (wACons (wL (wLst (wACons (wBin oAdd (wC (.int 1)) (wCallB 2 d_l_draw (wACons (wVar 1) (wACons (wC (.int 4)) wANil)) xno)) (wACons (wC (.int 3)) wANil)))) (wACons (wL (wLst (wACons (wBin oAdd (wC (.int 1)) (wCallB 2 d_l_draw (wACons (wVar 1) (wACons (wC (.int 3)) wANil)) xno)) (wACons (wC (.int 5)) wANil)))) wANil)))))) (gwTL 2 (gwCons (gwN 2) (gwCons (gwN 3) gwNil))) (wSeq (wSet 4 (wI (wL (wLst wANil))))
    (wSeq (wFor (wItems (wCallB 1 d_l_all_orders (wACons (wVar 2) wANil) xno)) (gwN 5) (wSeq (wSet 6 (wI (wL (wListZ (wGz 2 d_z_each_filling (wACons (wVar 5) (wACons (wVar 3) wANil)))))))
    (wSeq (wIfS (wB (wBin (oNil not) (wL (wLc (wItems (wVar 6)) (gwN 7) (wB (wBin oNe (wCallB 1 d_tail_order (wACons (wVar 7) wANil) xno) (wVar 5))) (wVar 7) [7])) (wL (wLst wANil)))) (wRet (wC (.bl false))) wNext)
    (wSet 4 (wI (wL (wBinN oCat (wVar 4) (wVar 6))))))))
    (wIfS (wB (wBin oNe (wL (wCN cSortedLL (wACons (wVar 4) wANil))) (wCallB 2 d_l_all_words5 (wACons (wSl (wC (.str [97, 98, 99, 100, 101])) wONone (wOSome (wVar 3))) (wACons (wVar 2) wANil)) xno))) (wRet (wC (.bl false))) wNext))))
    (wRet (wC (.bl true))))
theorem ok_law {P : Program} {w : World} {K : PySem.W.Frag} {mg : Str → Option Value} {base : Heap} {f fs : Addr} {fd fds : FuncData} (F : Fun K "law" "law" s_law f fd) (FS : FnG P w K mg base 1 fs fds ["_law_script"] (spStream K)) (gs : mg "_law_stream" = some (.ref fs)) (ks : PySem.W.keepIn K (.ref fs) = true) (bs : Binds K fds ["_law_script"] []) (F_l_draw : FnB P w K mg base 1 "_law_draw" ["_law_stream_here", "_law_many"] (liftSp K mg 2 d_l_draw)) (F_l_all_orders : FnB P w K mg base 1 "_law_all_orders" ["_law_size"] (liftSp K mg 1 d_l_all_orders)) (F_each_filling : GzB P w K mg base 54 "each_filling" ["order", "many"] d_z_each_filling) (F_tail_order : FnB P w K mg base 1 "tail_order" ["word"] (liftSp K mg 1 d_tail_order)) (F_l_all_words : FnB P w K mg base 1 "_law_all_words" ["_law_letters", "_law_size"] (liftSp K mg 2 d_l_all_words5)) (m_list : mg "list" = none) (m_sorted : mg "sorted" = none)
    (hp : w_law kLaw (rhoLaw 8 1) (0 : Nat)) : FnG P w K mg base 58 f fd ["_law_script"] (spLaw K) :=
  law_of F sc_law (by decide) rfl (fun cdv A outer s H E hr hgd => ps_set (i := 1) sc_law.nd rfl (.inl rfl) (pe_callG FS hgd (hr.mono (by decide)) rfl gs ks bs (fun σ pins H s e s2 => passLN pins σ H s e s2) (pa_cons (pv 0) pa_nil)))
    (fun cdv A outer s H E W0 hr hgd tk => (dss_cons (ds_for (passes_of rfl) rfl (di_seq (DN.fr (dn_lst (da_cons (DN.fr (dn_lst (da_cons (de_op opd_add (DE.p de_int) (DE.p (de_callF F_l_draw hgd (hr.mono (by decide)) tk (da_cons (de_var (pv 1)) (da_cons de_int da_nil))))) (da_cons de_int da_nil)))) (da_cons (DN.fr (dn_lst (da_cons (de_op opd_add (DE.p de_int) (DE.p (de_callF F_l_draw hgd (hr.mono (by decide)) tk (da_cons (de_var (pv 1)) (da_cons de_int da_nil))))) (da_cons de_int da_nil)))) (da_cons (DN.fr (dn_lst (da_cons (de_op opd_add (DE.p de_int) (DE.p (de_callF F_l_draw hgd (hr.mono (by decide)) tk (da_cons (de_var (pv 1)) (da_cons de_int da_nil))))) (da_cons de_int da_nil)))) da_nil)))))) (dg_lst rfl (dgs_cons (dg_name (pg_name (i := 2) sc_law.nd rfl (Or.inl rfl))) (dgs_cons (dg_name (pg_name (i := 3) sc_law.nd rfl (Or.inl rfl))) dgs_nil))) (dss_cons (ds_set (i := 4) sc_law.nd rfl (.inl rfl) (DE.v (DN.fr (dn_lst da_nil))))
      (dss_cons (ds_for (passes_of rfl) rfl (di_seq (de_callF F_l_all_orders hgd (hr.mono (by decide)) tk (da_cons (de_var (pv 2)) da_nil))) (dg_name (pg_name (i := 5) sc_law.nd rfl (Or.inr rfl))) (dss_cons (ds_set (i := 6) sc_law.nd rfl (.inl rfl) (DE.v (DN.fr (dn_listZ (dgn_call F_each_filling rfl (hr.mono (by decide)) (da_cons (de_var (pv 5)) (da_cons (de_var (pv 3)) da_nil))) hr rfl m_list))))
      (dss_cons (ds_if (dt_cmp (opd_neNil hr.units) (DN.p (dn_lc (own := [("_law_word", 7)]) rfl sc_law.nd (di_seq (de_var (pv 6))) (blkOk_by (own := [("_law_word", 7)]) (N := ["_law_script", "_law_stream_here", "_law_size", "_law_many", "_law_found", "_law_order", "_law_words", "_law_word"]) (sc := defScope s_law) (by decide +kernel)) (by decide) (fun _ _ _ _ _ => (dg_name (pg_name (i := 7) sc_law.nd rfl (Or.inl rfl)))) (fun _ _ _ _ _ => (dts_one (dt_cmp (opd_ne hr.units) (DE.p (de_callF F_tail_order hgd (hr.mono (by decide)) takesD_blk (da_cons (de_var (pv 7)) da_nil))) (DE.p (de_var (pv 5))) (nomark _)))) (fun _ _ _ _ _ => (de_var (pv 7))))) (DN.p (dn_lst da_nil)) (nomark _)) (dss_one (ds_ret de_bl)) dss_nil)
      (dss_one (ds_set (i := 4) sc_law.nd rfl (.inl rfl) (DE.v (DN.fr (dn_op opn_cat (DE.p (de_var (pv 4))) (DE.p (de_var (pv 6)))))))))))
      (dss_one (ds_if (dt_cmp (opd_ne hr.units) (DN.p (dn_callB calln_sortedLL (by rfl) m_sorted (by decide +kernel) (dap_cons (DE.p (de_var (pv 4))) dap_nil))) (DE.p (de_callF F_l_all_words hgd (hr.mono (by decide)) tk (da_cons (de_slice (DE.p (de_str [97, 98, 99, 100, 101])) do_none (do_some (de_var (pv 3)))) (da_cons (de_var (pv 2)) da_nil)))) (nomark _)) (dss_one (ds_ret de_bl)) dss_nil)))))
      (dss_one (ds_ret de_bl)))) hp

end LW
set_option Elab.async false
set_option linter.all false
set_option maxRecDepth 100000
set_option maxHeartbeats 4000000
namespace LW
open PySem L2 DL
theorem p_tail_order (ds : List D) (g : Nat) (q : D → Nat → Prop) (ex : Exn → Nat → Prop) (hl : ds.length = 1) (h : d_tail_order ds g q ex) : w_tail_order ex (kEndS q) (startD ["word", "tail", "place"] ds) g := by
  obtain ⟨w, rfl, hw, hq⟩ := h
  simp [w_tail_order]
  refine ⟨small_line (by omega), by omega, by rw [rngL_len]; exact small_line (by omega), ?_⟩
  rw [rngL_0]
  refine lcW_all (M := stg) _ (fun i : Nat => pairTI (w.drop i, (i : Int))) (List.range w.length) (fun i hi k1 k0 hk => ?_) ?_
  · simp
    refine ⟨small_line (by omega), small_line (by decide), ?_⟩
    rw [cut_from]
    exact hk
  · refine ⟨(List.range w.length).map fun i : Nat => (w.drop i, (i : Int)), by rw [List.map_map]; rfl, fun ys hp hs => ⟨by rw [List.length_map, hp.length_eq]; simp; exact small_line (by omega), ?_⟩⟩
    refine lcW_all (M := stg) pairTI (fun y => D.int y.2) ys (fun y hy k1 k0 hk => ?_) ⟨g, Nat.le_refl _, ?_⟩
    · simp [pairTI, gwT]
      exact hk
    · rw [sorted_TO hp hs]
      exact hq
theorem p_ranks_in (ds : List D) (g : Nat) (q : D → Nat → Prop) (ex : Exn → Nat → Prop) (hl : ds.length = 1) (h : d_ranks_in ds g q ex) : w_ranks_in ex (kEndS q) (startD ["order", "ranks", "rank", "place"] ds) g := by
  obtain ⟨o, rfl, ho, hlen, hq⟩ := h
  simp [w_ranks_in, nats_len]
  refine ⟨small_line (by decide), by omega, small_line (by omega), ?_⟩
  refine forW_word (M := stg) (fun i ρ g' => g' = g ∧ ∃ F y2 y3, ρ = [.im (.tup (nats o)), .own F, y2, y3] ∧ F.length = o.length ∧ ∀ (j p : Nat), j < i → o[j]? = some p → F[p]? = some (.int j)) _ ⟨rfl, _, _, _, rfl, by simp, fun _ _ h => by omega⟩ (fun i d ρ g' K hd hI hK => ?_) (fun ρ g' hI => ?_)
  · obtain ⟨rfl, F, y2, y3, rfl, hF, hp⟩ := hI
    obtain ⟨e, he, rfl⟩ := en_get hd
    obtain ⟨p, hop, rfl⟩ := nats_get he
    have hp1 : p < F.length := by rw [hF]; exact ho.lt (List.mem_of_getElem? hop)
    simp [gwT]
    refine ⟨p, ixN_ofNat hp1, hK _ _ ⟨rfl, _, _, _, rfl, by rw [List.length_set]; exact hF, fun j p' hj hjp => ?_⟩⟩
    by_cases e : j = i
    · subst e
      rw [hop] at hjp
      cases hjp
      rw [List.getElem?_set_self hp1]
    · rw [List.getElem?_set_ne (fun z => e (by
        have h1 := idx_of_get ho.nodup hop
        have h2 := idx_of_get ho.nodup hjp
        rw [z] at h1
        omega))]
      exact hp j p' (by omega) hjp
  · obtain ⟨rfl, F, y2, y3, rfl, hF, hp⟩ := hI
    rw [enL_len, nats_len] at hp
    simp
    refine ⟨_, Nat.le_refl _, ?_⟩
    rw [filled_inv ho hF fun j p h => hp j p (List.getElem?_eq_some_iff.mp h).1 h]
    exact hq
theorem p_word_along (ds : List D) (g : Nat) (q : D → Nat → Prop) (ex : Exn → Nat → Prop) (hl : ds.length = 2) (h : d_word_along ds g q ex) : w_word_along ex (kEndS q) (startD ["order", "numbers", "signs", "place", "number"] ds) g := by
  obtain ⟨c, o, xs, rfl, hc, ho, hx, hx2, hl2, hq⟩ := h
  simp [w_word_along]
  rw [nats_len]
  refine ⟨small_line (by decide), by omega, small_line (by omega), _, hc, ?_⟩
  refine forW_word (M := stg) (fun i ρ g' => g' = g ∧ ∃ F y3 y4, F.length = o.length ∧ (∀ j p : Nat, j < i → o[j]? = some p → F[p]? = some (D.str [97 + xs.getD j 0])) ∧ ρ = [.im (.tup (nats o)), .im c, .own F, y3, y4]) _ ⟨rfl, _, _, _, by simp, fun _ _ h => by omega, rfl⟩ (fun i d ρ g' K hd hI hK => ?_) (fun ρ g' hI => ?_)
  · obtain ⟨rfl, F, y3, y4, hF, hFj, rfl⟩ := hI
    have hi : i < o.length := by
      have := (List.getElem?_eq_some_iff.mp hd).1
      rw [zip_len, nats_len, nats_len] at this
      omega
    have hop : o[i]? = some (o.getD i 0) := by rw [List.getD_eq_getElem?_getD, List.getElem?_eq_getElem hi]; rfl
    have e : d = .tup [.int (o.getD i 0 : Nat), .int (xs.getD i 0 : Nat)] := by
      have z : ((nats o).zip (nats xs))[i]? = some (.int (o.getD i 0 : Nat), .int (xs.getD i 0 : Nat)) := List.getElem?_zip_eq_some.mpr ⟨nats_at hi, nats_at (by omega)⟩
      unfold zipL at hd
      rw [List.getElem?_map, z] at hd
      exact (Option.some.inj hd).symm
    subst e
    have hx26 : xs.getD i 0 < 26 := by
      rw [List.getD_eq_getElem?_getD, List.getElem?_eq_getElem (by omega)]
      exact hx2 _ (List.getElem_mem _)
    have hp1 : o.getD i 0 < F.length := by rw [hF]; exact perm_lt ho hi
    generalize o.getD i 0 = p at *
    generalize hv : xs.getD i 0 = v at *
    simp [gwT]
    refine ⟨small_line (by decide), _, atI_ofNat (abc_at hx26), p, ixN_ofNat hp1, hK _ _ ⟨rfl, _, _, _, by rw [List.length_set]; exact hF, fun j p' hj hjp => ?_, rfl⟩⟩
    by_cases e : j = i
    · subst e
      rw [hop] at hjp
      cases hjp
      rw [List.getElem?_set_self hp1, hv]
    · rw [List.getElem?_set_ne (fun z => e (by
        have h1 := idx_of_get ho.nodup hop
        have h2 := idx_of_get ho.nodup hjp
        rw [z] at h1
        omega))]
      exact hFj j p' (by omega) hjp
  · obtain ⟨rfl, F, y3, y4, hF, hFj, rfl⟩ := hI
    rw [zip_len, nats_len, nats_len, hx, Nat.min_self] at hFj
    have eF := fill_of (f := fun j => D.str [97 + xs.getD j 0]) ho hF fun j p h => hFj j p (List.getElem?_eq_some_iff.mp h).1 h
    have eF2 : F = ((List.range o.length).map fun p => 97 + xs.getD (o.idxOf p) 0).map fun c => D.str [c] := by rw [eF, List.map_map]; rfl
    simp
    rw [eF2]
    refine jn_call (by simp; omega) ?_
    exact ⟨_, Nat.le_refl _, hq⟩
theorem p_l_all_words (ds : List D) (g : Nat) (q : D → Nat → Prop) (ex : Exn → Nat → Prop) (hl : ds.length = 2) (h : d_l_all_words5 ds g q ex) : w_l_all_words ex (kEndS q) (startD ["_law_letters", "_law_size", "_law_found", "_law_k", "_law_longer", "_law_head", "_law_letter"] ds) g := by
  obtain ⟨L, n, rfl, hL, hn, hq⟩ := h
  simp [w_l_all_words]
  refine ⟨small_line (by decide), by omega, ?_⟩
  rw [rngL_0]
  refine forW_word (M := stg) (fun i ρ g' => g' = g ∧ ∃ y1 y3 y4 y5, ρ = [.im (.str L), y1, .im (.lst (txts (allW L i))), y3, y4, y5, .no]) _ ⟨rfl, _, _, _, _, rfl⟩ (fun i d ρ g' K hd hI hK => ?_) (fun ρ g' hI => ?_)
  · obtain ⟨rfl, y1, y3, y4, y5, rfl⟩ := hI
    have hi : i < n := by
      have := (List.getElem?_eq_some_iff.mp hd).1
      simpa using this
    simp
    have grow : ∀ j, j ≤ (allW L i).length → (((allW L i).take j).flatMap fun h => L.map fun c => h ++ [c]).length ≤ 5 * j := fun j => by
      induction j with
      | zero => intro _; simp
      | succ j ih =>
        intro hj
        rw [List.take_succ_eq_append_getElem (by omega), List.flatMap_append, List.length_append]
        have := ih (by omega)
        rw [List.flatMap_cons, List.flatMap_nil, List.append_nil, List.length_map]
        omega
    refine forW_word (M := stg) (fun j ρ g2 => g2 = g' ∧ ∃ y5, ρ = [.im (.str L), y1, .im (.lst (txts (allW L i))), .im d, .own (txts (((allW L i).take j).flatMap fun h => L.map fun c => h ++ [c])), y5, .no]) _ ⟨rfl, y5, by simp [txts]⟩ (fun j e ρ g2 K2 he hI hK2 => ?_) (fun ρ g2 hI => ?_)
    · obtain ⟨rfl, y5, rfl⟩ := hI
      have hj : j < (allW L i).length := by
        have := (List.getElem?_eq_some_iff.mp he).1
        simpa [txts] using this
      have he' : e = .str (allW L i)[j] := by
        unfold txts at he
        rw [List.getElem?_map, List.getElem?_eq_getElem hj] at he
        exact (Option.some.inj he).symm
      subst he'
      simp
      have lens := allW_len L i _ (List.getElem_mem hj)
      refine ⟨small_line (by omega), ?_⟩
      refine lcW_all (M := stg) _ (fun c : Nat => D.str ((allW L i)[j] ++ [c])) L (fun c hc k1 k0 hk => ?_) ?_
      · simp
        exact ⟨small_line (by omega), hk⟩
      · have bd := grow j (by omega)
        have bd2 := allW_count5 hL i
        have : 5 ^ i ≤ 5 ^ 5 := Nat.pow_le_pow_right (by decide) (by omega)
        refine ⟨small_line (by simp [txts] at bd ⊢; omega), hK2 _ _ ⟨rfl, .im (.str (allW L i)[j]), ?_⟩⟩
        rw [List.take_succ_eq_append_getElem hj, List.flatMap_append]
        simp [txts]
    · obtain ⟨rfl, y5, rfl⟩ := hI
      simp
      rw [show (txts (allW L i)).length = (allW L i).length by simp [txts], List.take_length]
      exact hK _ _ ⟨rfl, _, _, _, _, rfl⟩
  · obtain ⟨rfl, y1, y3, y4, y5, rfl⟩ := hI
    simp
    exact ⟨_, Nat.le_refl _, hq⟩
theorem grn_nats2 (o : List Nat) (s : Nat) : (((o.map fun i : Nat => D.int ((i : Int) + 1)).take s) ++ D.int 0 :: ((o.map fun i : Nat => D.int ((i : Int) + 1)).drop s)) = nats (grnW o s) := by
  unfold grnW nats
  rw [List.map_append, List.map_cons, List.map_map, List.map_map, ← List.map_take, ← List.map_drop]
  rfl
theorem p_l_all_orders (ds : List D) (g : Nat) (q : D → Nat → Prop) (ex : Exn → Nat → Prop) (hl : ds.length = 1) (h : d_l_all_orders ds g q ex) : w_l_all_orders ex (kEndS q) (startD ["_law_size", "_law_found", "_law_many", "_law_longer", "_law_order", "_law_moved", "_law_place", "_law_spot"] ds) g := by
  obtain ⟨n, rfl, hn, hq⟩ := h
  simp [w_l_all_orders]
  rw [rngL_0]
  refine ⟨small_line (by decide), by omega, ?_⟩
  refine forW_word (M := stg) (fun i ρ (g' : Nat) => g' = g ∧ ∃ y2 y3 y4 y5, ρ = [.im (.int n), .im (.lst (tups (allO i))), y2, y3, y4, y5, .no, .no]) _ ⟨rfl, _, _, _, _, rfl⟩ (fun i d ρ g' K hd hI hK => ?_) (fun ρ g' hI => ?_)
  · obtain ⟨rfl, y2, y3, y4, y5, rfl⟩ := hI
    have hi : i < n := by
      have := (List.getElem?_eq_some_iff.mp hd).1
      simpa using this
    have e : d = .int (i : Nat) := by
      rw [List.getElem?_map, List.getElem?_range hi] at hd
      cases hd
      rfl
    subst e
    have sm := allO_small (i + 1) (by omega)
    have part : ∀ j, (((allO i).take j).flatMap fun o => (List.range (i + 1)).map fun s => grnW o s).length ≤ 1000 := fun j => by
      refine Nat.le_trans ?_ sm
      show _ ≤ ((allO i).flatMap fun o => (List.range (i + 1)).map fun s => grnW o s).length
      have e : ((allO i).flatMap fun o => (List.range (i + 1)).map fun s => grnW o s) = (((allO i).take j).flatMap fun o => (List.range (i + 1)).map fun s => grnW o s) ++ (((allO i).drop j).flatMap fun o => (List.range (i + 1)).map fun s => grnW o s) := by
        rw [← List.flatMap_append, List.take_append_drop]
      rw [e, List.length_append]
      omega
    simp
    refine forW_word (M := stg) (fun j ρ (g2 : Nat) => g2 = g' ∧ ∃ y4 y5, ρ = [.im (.int n), .im (.lst (tups (allO i))), .im (.int (i : Int)), .own (tups (((allO i).take j).flatMap fun o => (List.range (i + 1)).map fun s => grnW o s)), y4, y5, .no, .no]) _ ⟨rfl, _, _, rfl⟩ (fun j d ρ g2 K1 hd1 hI1 hK1 => ?_) (fun ρ g2 hI1 => ?_)
    · obtain ⟨rfl, y4, y5, rfl⟩ := hI1
      unfold tups at hd1
      rw [List.getElem?_map] at hd1
      obtain ⟨o, ho, rfl⟩ := Option.map_eq_some_iff.mp hd1
      obtain ⟨po, lo⟩ := allO_ok i o (List.mem_of_getElem? ho)
      simp
      rw [nats_len]
      refine ⟨small_line (by omega), ?_⟩
      refine lcW_all (M := stg) (fun i : Nat => D.int i) (fun i : Nat => D.int ((i : Int) + 1)) o (fun p hp k1 k0 hk => ?_) ?_
      · simp
        exact hk
      · rw [show (i : Int) + 1 = ((i + 1 : Nat) : Int) by omega]
        rw [rngL_0]
        refine ⟨by omega, by omega, by rw [List.length_map, List.length_range]; exact small_line (by omega), ?_⟩
        refine lcW_all (M := stg) (fun i : Nat => D.int i) (fun s => D.tup (nats (grnW o s))) (List.range (i + 1)) (fun s hs k1 k0 hk => ?_) ?_
        · simp
          rw [cut_to, cut_from]
          have e : List.take s (List.map (fun i : Nat => D.int ((i : Int) + 1)) o) ++ D.int 0 :: List.drop s (List.map (fun i : Nat => D.int ((i : Int) + 1)) o) = nats (grnW o s) := grn_nats2 o s
          rw [e]
          refine ⟨small_line (by decide), by rw [List.length_take, List.length_map]; exact small_line (by omega), by rw [List.length_take, List.length_drop, List.length_map]; exact small_line (by omega), hk⟩
        · have e : tups (((allO i).take j).flatMap fun o => (List.range (i + 1)).map fun s => grnW o s) ++ (List.range (i + 1)).map (fun s => D.tup (nats (grnW o s))) = tups (((allO i).take (j + 1)).flatMap fun o => (List.range (i + 1)).map fun s => grnW o s) := by
            rw [List.take_succ, ho, List.flatMap_append]
            unfold tups
            rw [List.map_append]
            congr 1
            simp
          have l1 := part (j + 1)
          have l2 : (tups (((allO i).take j).flatMap fun o => (List.range (i + 1)).map fun s => grnW o s)).length + ((List.range (i + 1)).map (fun s => D.tup (nats (grnW o s)))).length ≤ sizeLine := by
            rw [← List.length_append, e]
            unfold tups
            rw [List.length_map]
            exact small_line (by omega)
          refine ⟨l2, ?_⟩
          rw [e]
          exact hK1 _ _ ⟨rfl, _, _, rfl⟩
    · obtain ⟨rfl, y4, y5, rfl⟩ := hI1
      rw [show (tups (allO i)).length = (allO i).length by unfold tups; rw [List.length_map], List.take_length]
      simp
      exact hK _ _ ⟨rfl, _, _, _, _, rfl⟩
  · obtain ⟨rfl, y2, y3, y4, y5, rfl⟩ := hI
    simp
    exact ⟨_, Nat.le_refl _, hq⟩
theorem p_strict_steps (ds : List D) (g : Nat) (q : D → Nat → Prop) (ex : Exn → Nat → Prop) (hl : ds.length = 1) (h : d_strict_steps ds g q ex) : w_strict_steps ex (kEndS q) (startD ["order", "ranks", "steps", "index", "one", "other"] ds) g := by
  obtain ⟨o, rfl, ho, hl, hq⟩ := h
  simp [w_strict_steps]
  refine ⟨o, rfl, ho, hl, ?_⟩
  simp
  rw [enz_next]
  refine ⟨by rw [nats_len, inv_len]; exact small_line (by omega), by rw [List.length_map, List.length_range]; exact small_line (by omega), ?_⟩
  refine lcW_map (M := stg) _ (fun i : Nat => D.int ((i + 1 : Nat) : Int)) (fun i => decide (rkE o (o.getD (i + 1) 0 + 1) < rkE o (o.getD i 0 + 1))) _ (fun i hi k1 k0 hk => ?_) ?_
  · have hi' := List.mem_range.mp hi
    have b : ∀ j, j < o.length → o.getD j 0 + 1 ≤ o.length := fun j hj => by
      rw [List.getD_eq_getElem?_getD, List.getElem?_eq_getElem hj]
      exact ho.lt (List.getElem_mem hj)
    have e1 := rkE_at (b i (by omega))
    have e2 := rkE_at (b (i + 1) (by omega))
    simp [gwT]
    refine ⟨_, e1, _, e2, ?_⟩
    simpa using hk
  · refine ⟨g, Nat.le_refl _, ?_⟩
    have e : ((List.range (o.length - 1)).filter fun i => decide (rkE o (o.getD (i + 1) 0 + 1) < rkE o (o.getD i 0 + 1))).map (fun i : Nat => D.int ((i + 1 : Nat) : Int)) = nats (stpW o) := by
      unfold stpW nats
      rw [List.map_map]
      rfl
    rw [e]
    exact hq
theorem p_raised (ds : List D) (g : Nat) (q : D → Nat → Prop) (ex : Exn → Nat → Prop) (hl : ds.length = 2) (h : d_z_raised ds g q ex) : w_raised ex (kEndS q) (startD ["order", "numbers", "steps", "found", "more", "index", "number"] ds) g := by
  obtain ⟨o, xs, c, rfl, hc, ho, hl1, hxl, hx, hq⟩ := h
  simp [w_raised]
  refine ⟨o, rfl, ho, hl1, _, hc, ?_⟩
  refine forW_word (M := stg) (fun i ρ (g' : Nat) => g' = g ∧ ∃ y5 y6, ρ = [.im (.tup (nats o)), .im c, .im (.tup (nats (stpW o))), .own (nats (rsdT o xs i)), .im (.int (numW o (i - 1) : Nat)), y5, y6]) _ ⟨rfl, .no, .no, by rw [show (0 : Nat) - 1 = 0 from rfl, numW_zero]; rfl⟩ (fun i d ρ g' K hd hI hK => ?_) (fun ρ g' hI => ?_)
  · obtain ⟨rfl, y5, y6, rfl⟩ := hI
    obtain ⟨e, he, rfl⟩ := en_get hd
    have hi : i < xs.length := by
      have := (List.getElem?_eq_some_iff.mp he).1
      rwa [nats_len] at this
    rw [nats_at hi] at he
    cases he
    have hst := numW_at o i
    have hsu := rsdT_succ o xs i
    have hle := rsdT_len o xs i
    generalize xs.getD i 0 = x at *
    simp [gwT]
    simp only [in_nats]
    refine ⟨flat_nats, lt_line (by rw [nats_len]; omega), ?_⟩
    have e1 : ((numW o (i - 1) : Nat) : Int) + (if i ∈ stpW o then 1 else 0) = ((numW o i : Nat) : Int) := by
      rw [hst]
      split <;> simp
    rw [e1]
    refine hK _ _ ⟨rfl, .im (.int (i : Int)), .im (.int (x : Int)), ?_⟩
    rw [hsu]
    unfold nats
    rw [List.map_append]
    rfl
  · obtain ⟨rfl, y5, y6, rfl⟩ := hI
    rw [enL_len, nats_len]
    exact ⟨_, rfl, _, Nat.le_refl _, hq⟩
theorem p_rising_rows (n : Nat) (ds : List D) (g : stg.G) (q : List D → Prop) (hl : ds.length = 3) (h : (d_rising (n + 1)) ds g q) : ∃ xs, q xs ∧ w_rising_rows n xs (kEndZ xs) 0 g (startD ["places", "least", "many", "number", "rest"] ds) g := by
  obtain ⟨p, l, m, rfl, hp, p1, l1, m0, m1, hq⟩ := h
  refine ⟨_, hq, ?_⟩
  simp [w_rising_rows]
  cases p with
  | zero =>
    simp [risR, nats]
  | succ p =>
    rw [if_neg (by omega)]
    cases n with
    | zero => omega
    | succ n =>
    have e1 : (((p + 1 : Nat) : Int)) - 1 = ((p : Nat) : Int) := by omega
    refine ⟨by omega, ?_⟩
    refine forZ_word (M := stg) (j := 0) (fun i j g0 ρ g' => g' = g0 ∧ j = (((List.range' l (m.toNat - l)).take i).flatMap fun x => (risR p x m.toNat).map (x :: ·)).length ∧ ∃ y3 y4, ρ = [.im (.int (p + 1 : Nat)), .im (.int (l : Nat)), .im (.int m), y3, y4]) _ ⟨rfl, rfl, _, _, rfl⟩ (fun i d j g0 ρ g' K hd hI hK => ?_) (fun j g0 ρ g' hI => ?_)
    · obtain ⟨rfl, rfl, y3, y4, rfl⟩ := hI
      obtain ⟨hi, rfl⟩ := rngL_get _ _ _ _ hd
      have hL : (List.range' l (m.toNat - l))[i]? = some (l + i) := by
        rw [List.getElem?_range' (by omega), Nat.one_mul]
      have st := flat_step (fun x => (risR p x m.toNat).map (x :: ·)) (List.range' l (m.toNat - l)) hL
      rw [st] at hK
      have at0 := fun {k : Nat} (h : k < (risR p (l + i) m.toNat).length) => flat_at (fun x => (risR p x m.toNat).map (x :: ·)) (List.range' l (m.toNat - l)) (k := k) hL (by rw [List.length_map]; exact h)
      generalize (((List.range' l (m.toNat - l)).take i).flatMap fun x => (risR p x m.toNat).map (x :: ·)).length = B at hK at0 ⊢
      have ei : (l : Int) + (i : Int) = ((l + i : Nat) : Int) := by omega
      rw [ei]
      simp [-Int.natCast_add]
      rw [e1]
      refine ⟨p, l + i, m, rfl, by omega, by omega, by omega, m0, m1, ?_⟩
      refine forZ_word (M := stg) (fun k j g0 ρ g2 => g2 = g0 ∧ j = B + k ∧ ∃ y4, ρ = [.im (.int (p + 1 : Nat)), .im (.int (l : Nat)), .im (.int m), .im (.int (l + i : Nat)), y4]) _ ⟨rfl, rfl, _, rfl⟩ (fun k d j g0 ρ g2 K hd hI hK2 => ?_) (fun j g0 ρ g2 hI => ?_)
      · obtain ⟨rfl, rfl, y4, rfl⟩ := hI
        rw [List.getElem?_map] at hd
        cases hx : (risR p (l + i) m.toNat)[k]? with
        | none => rw [hx] at hd; cases hd
        | some r =>
          rw [hx] at hd
          cases hd
          have kl := (List.getElem?_eq_some_iff.mp hx).1
          have rl := ((risR_mem p (l + i) m.toNat).mp (List.mem_of_getElem? hx)).1
          have at_ := at0 kl
          rw [List.getElem?_map, hx] at at_
          simp [-Int.natCast_add]
          exact ⟨small_line (by rw [nats_len]; omega), ⟨_, at_, rfl⟩, fun g'' => hK2 _ _ _ _ ⟨rfl, rfl, _, rfl⟩⟩
      · obtain ⟨rfl, rfl, y4, rfl⟩ := hI
        rw [List.length_map]
        refine hK _ _ _ _ ⟨rfl, by rw [List.length_map], _, _, rfl⟩
    · obtain ⟨rfl, rfl, y3, y4, rfl⟩ := hI
      have : (rngL (l : Int) m).length = m.toNat - l := by
        unfold rngL
        rw [List.length_map, List.length_range]
        omega
      rw [this, List.take_of_length_le (by rw [List.length_range']; exact Nat.le_refl _)]
      refine ⟨?_, rfl⟩
      rfl
theorem p_each_filling (ds : List D) (g : stg.G) (q : List D → Prop) (hl : ds.length = 2) (h : d_z_each_filling ds g q) : ∃ xs, q xs ∧ w_each_filling xs (kEndZ xs) 0 g (startD ["order", "many", "numbers"] ds) g := by
  obtain ⟨o, m, rfl, ho, o1, m1, hq⟩ := h
  refine ⟨_, hq, ?_⟩
  simp [w_each_filling]
  have sl := stpW_len o
  refine ⟨o, rfl, ho, by omega, ?_⟩
  simp only [sm_len3, nats_len, sm_sub]
  refine ⟨o.length, 0, _, rfl, by omega, by omega, by omega, by omega, by omega, ?_⟩
  refine forZ_word (M := stg) (fun i j g0 ρ g' => g' = g0 ∧ j = i ∧ ∃ y, ρ = [.im (.tup (nats o)), .im (.int (m : Nat)), y]) _ ⟨rfl, rfl, _, rfl⟩ (fun i d j g0 ρ g' K hd hI hK => ?_) (fun j g0 ρ g' hI => ?_)
  · obtain ⟨rfl, rfl, y, rfl⟩ := hI
    rw [List.getElem?_map] at hd
    cases hx : (risR o.length 0 ((m : Int) - ((stpW o).length : Nat)).toNat)[j]? with
    | none => rw [hx] at hd; cases hd
    | some r =>
      rw [hx] at hd
      cases hd
      obtain ⟨x1, x2, x3⟩ := (risR_mem _ _ _).mp (List.mem_of_getElem? hx)
      simp
      refine ⟨o, r, _, rfl, rfl, ho, by omega, x1, fun x hx => by have := x3 x hx; omega, ?_⟩
      refine ⟨_, o, rsdW o r, rfl, rfl, ho, by rw [rsd_len, x1], fun x hx => ?_, by omega, ?_⟩
      · unfold rsdW at hx
        obtain ⟨k, hk, rfl⟩ := List.mem_map.mp hx
        have hk := List.mem_range.mp hk
        have h3 := x3 (r.getD k 0) (by rw [List.getD_eq_getElem?_getD, List.getElem?_eq_getElem hk]; exact List.getElem_mem _)
        have := numW_top o k
        omega
      · exact ⟨by unfold txts filL; rw [List.getElem?_map, List.getElem?_map, hx]; rfl, rfl, fun g'' => hK _ _ _ _ ⟨rfl, rfl, _, rfl⟩⟩
  · obtain ⟨rfl, rfl, y, rfl⟩ := hI
    refine ⟨?_, rfl⟩
    simp [txts, filL]
theorem p_law : w_law kLaw (rhoLaw 8 1) (0 : Nat) := by
  simp [w_law]
  refine draw_l (k := 5) (by omega) fun a ha => ?_
  simp
  refine ⟨small_line (by decide), draw_l (k := 4) (by omega) fun b hb => ?_⟩
  simp
  refine ⟨small_line (by decide), draw_l (k := 3) (by omega) fun c hc => ?_⟩
  simp
  refine ⟨small_line (by decide), small_line (by decide), ?_⟩
  have fL : ∀ d ∈ [D.lst [.int (1 + (a : Int)), .int 2], D.lst [.int (1 + (b : Int)), .int 3], D.lst [.int (1 + (c : Int)), .int 5]], ∃ n m : Nat, d = .lst [.int (n : Nat), .int (m : Nat)] ∧ 1 ≤ n ∧ n ≤ 5 ∧ m ≤ 5 ∧ m ^ n ≤ 1024 := by
    have key : ∀ (a : Nat) (m A : Nat), a < A → m ^ A ≤ 1024 → 1 ≤ m → m ^ (a + 1) ≤ 1024 := fun a m A h1 h2 h3 => Nat.le_trans (Nat.pow_le_pow_right h3 h1) h2
    exact all_cons ⟨a + 1, 2, by rw [show (1 : Int) + (a : Int) = ((a + 1 : Nat) : Int) by omega]; rfl, by omega, by omega, by decide, key a 2 5 ha (by decide) (by decide)⟩ (all_cons ⟨b + 1, 3, by rw [show (1 : Int) + (b : Int) = ((b + 1 : Nat) : Int) by omega]; rfl, by omega, by omega, by decide, key b 3 4 hb (by decide) (by decide)⟩ (all_cons ⟨c + 1, 5, by rw [show (1 : Int) + (c : Int) = ((c + 1 : Nat) : Int) by omega]; rfl, by omega, by omega, by decide, key c 5 3 hc (by decide) (by decide)⟩ all_nil))
  generalize [D.lst [.int (1 + (a : Int)), .int 2], D.lst [.int (1 + (b : Int)), .int 3], D.lst [.int (1 + (c : Int)), .int 5]] = L at fL
  refine forW_word (M := stg) (fun i ρ (g' : Nat) => ∃ y2 y3 y4 y5 y6 y7, ρ = [.no, .im (.ob 0), y2, y3, y4, y5, y6, y7]) _ ⟨_, _, _, _, _, _, rfl⟩ (fun i d ρ g' K hd hI hK => ?_) (fun ρ g' hI => ?_)
  · obtain ⟨y2, y3, y4, y5, y6, y7, rfl⟩ := hI
    obtain ⟨n, m, rfl, n1, n5, m5, nm⟩ := fL d (List.mem_of_getElem? hd)
    simp [gwTL]
    refine ⟨n, rfl, by omega, ?_⟩
    have tl : ([97, 98, 99, 100, 101].take m).length = m := by rw [List.length_take]; simp; omega
    have cnt : (allW ([97, 98, 99, 100, 101].take m) n).length ≤ 1024 := by
      have := allW_cnt ([97, 98, 99, 100, 101].take m) n
      rw [tl] at this
      omega
    have small : ∀ i, (((allO n).take i).flatMap fun o => filL o m).length ≤ 1024 := fun i => by
      have h1 := (all_perm (n := n) m5).length_eq
      have h2 : (allO n).flatMap (fun o => filL o m) = ((allO n).take i).flatMap (fun o => filL o m) ++ ((allO n).drop i).flatMap (fun o => filL o m) := by rw [← List.flatMap_append, List.take_append_drop]
      rw [h2, List.length_append] at h1
      omega
    refine ⟨_, rfl, ?_⟩
    refine forW_word (M := stg) (fun i ρ (g2 : Nat) => ∃ y5 y6 y7, ρ = [.no, .im (.ob 0), .im (.int (n : Nat)), .im (.int (m : Nat)), .im (.lst (txts (((allO n).take i).flatMap fun o => filL o m))), y5, y6, y7]) _ ⟨_, _, _, rfl⟩ (fun i d ρ g2 K2 hd hI hK2 => ?_) (fun ρ g2 hI => ?_)
    · obtain ⟨y5, y6, y7, rfl⟩ := hI
      unfold tups at hd
      rw [List.getElem?_map] at hd
      cases hx : (allO n)[i]? with
      | none => rw [hx] at hd; cases hd
      | some o =>
        rw [hx] at hd
        cases hd
        have mo := List.mem_of_getElem? hx
        obtain ⟨ho, hl⟩ := allO_ok n o mo
        have sm1 := small (i + 1)
        have st : ((allO n).take (i + 1)).flatMap (fun o => filL o m) = ((allO n).take i).flatMap (fun o => filL o m) ++ filL o m := by
          rw [List.take_succ, hx, List.flatMap_append]
          simp
        rw [st, List.length_append] at sm1
        rw [st] at hK2
        simp
        refine ⟨o, m, rfl, ho, by omega, by omega, small_line (by rw [txts_lenZ]; omega), ?_⟩
        refine lcW_map (M := stg) (fun v : List Nat => D.str v) (fun v => D.str v) (fun v => false) (filL o m) (fun v hv k1 k0 h => ?_) ?_
        · obtain ⟨h1, h2⟩ := (fil_mem ho (by omega)).mp hv
          have h3 := tOrd_len v
          rw [h1] at h3
          simp
          refine ⟨v, rfl, by omega, ?_⟩
          rw [h1]
          refine ⟨shp_tups, shp_tups, ?_⟩
          rw [deq_refl (d := .tup (nats o)) (nb_nats o)]
          simpa using h
        · refine ⟨by simp, small_line (by rw [txts_lenZ, txts_lenZ]; omega), hK2 _ _ ⟨.im (.tup (nats o)), .im (.lst (txts (filL o m))), y7, ?_⟩⟩
          unfold txts
          rw [List.map_append]
    · obtain ⟨y5, y6, y7, rfl⟩ := hI
      have e : (tups (allO n)).length = (allO n).length := by unfold tups; rw [List.length_map]
      rw [e, List.take_length]
      simp
      refine ⟨_, rfl, fun ys hp hs => ?_⟩
      rw [all_sorted m5 hp hs]
      rw [cut_to]
      obtain ⟨h1, h2⟩ := txt_eqF (x := allW ([97, 98, 99, 100, 101].take m) n) (fun w hw c hc => by
        have := ((few5 m m5).2 c).mp (((mem_allW _ _ _).mp hw).2 c hc)
        omega)
      exact ⟨small_line (by decide), _, n, rfl, by omega, n5, h1, h1, h2, hK _ _ ⟨_, _, _, _, _, _, rfl⟩⟩
  · obtain ⟨y2, y3, y4, y5, y6, y7, rfl⟩ := hI
    simp
end LW
set_option Elab.async false
set_option linter.all false
set_option maxRecDepth 100000
set_option maxHeartbeats 4000000
namespace LW
open PySem L2 DL
theorem all_mk {l : PySem.W.OpenLaw} {w : World} {K : PySem.W.Frag} {h : Heap} {tk1 : Nat} {mg : Str → Option Value} {fa f1 f2 f3 f4 f5 f6 f7 f8 f9 f10 f11 f12 : Addr} (X : K.In h) (G : h.Ns mainGlobals mg) (hfa : mg "law" = some (.ref fa))
    {od1 an1 od2 an2 od3 an3 od4 an4 od5 an5 od6 an6 od7 an7 od8 an8 od9 an9 od10 an10 od11 an11 od12 an12 : Option Addr} {sl1 sl2 sl3 sl4 sl5 sl6 sl7 sl8 sl9 sl10 sl11 sl12 : Array (Option Value)} {oc1 kV1 dc1 pm1 cd1 ct1 oc2 kV2 dc2 pm2 cd2 ct2 oc3 kV3 dc3 pm3 cd3 ct3 oc4 kV4 dc4 pm4 cd4 ct4 oc5 kV5 dc5 pm5 cd5 ct5 oc6 kV6 dc6 pm6 cd6 ct6 oc7 kV7 dc7 pm7 cd7 ct7 oc8 kV8 dc8 pm8 cd8 ct8 oc9 kV9 dc9 pm9 cd9 ct9 oc10 kV10 dc10 pm10 cd10 ct10 oc11 kV11 dc11 pm11 cd11 ct11 oc12 kV12 dc12 pm12 cd12 ct12 : Value}
    (a1 : PySem.W.nsIn K mainGlobals "tail_order" = some (some (.ref f1))) (l1 : K.lookup f1 = some ⟨oc1, od1, .func (PySem.W.fnOf "tail_order" "tail_order" (defArgs s_tail_order) (defBody s_tail_order) (defScope s_tail_order) .none kV1 dc1 pm1 an1 cd1 ct1), sl1⟩) (c1 : PySem.W.codeIn K cd1 "tail_order" = true) (k1 : PySem.W.keepIn K (.ref f1) = true)
    (a2 : PySem.W.nsIn K mainGlobals "ranks_in" = some (some (.ref f2))) (l2 : K.lookup f2 = some ⟨oc2, od2, .func (PySem.W.fnOf "ranks_in" "ranks_in" (defArgs s_ranks_in) (defBody s_ranks_in) (defScope s_ranks_in) .none kV2 dc2 pm2 an2 cd2 ct2), sl2⟩) (c2 : PySem.W.codeIn K cd2 "ranks_in" = true) (k2 : PySem.W.keepIn K (.ref f2) = true)
    (a3 : PySem.W.nsIn K mainGlobals "strict_steps" = some (some (.ref f3))) (l3 : K.lookup f3 = some ⟨oc3, od3, .func (PySem.W.fnOf "strict_steps" "strict_steps" (defArgs s_strict_steps) (defBody s_strict_steps) (defScope s_strict_steps) .none kV3 dc3 pm3 an3 cd3 ct3), sl3⟩) (c3 : PySem.W.codeIn K cd3 "strict_steps" = true) (k3 : PySem.W.keepIn K (.ref f3) = true)
    (a4 : PySem.W.nsIn K mainGlobals "word_along" = some (some (.ref f4))) (l4 : K.lookup f4 = some ⟨oc4, od4, .func (PySem.W.fnOf "word_along" "word_along" (defArgs s_word_along) (defBody s_word_along) (defScope s_word_along) .none kV4 dc4 pm4 an4 cd4 ct4), sl4⟩) (c4 : PySem.W.codeIn K cd4 "word_along" = true) (k4 : PySem.W.keepIn K (.ref f4) = true)
    (a5 : PySem.W.nsIn K mainGlobals "raised" = some (some (.ref f5))) (l5 : K.lookup f5 = some ⟨oc5, od5, .func (PySem.W.fnOf "raised" "raised" (defArgs s_raised) (defBody s_raised) (defScope s_raised) .none kV5 dc5 pm5 an5 cd5 ct5), sl5⟩) (c5 : PySem.W.codeIn K cd5 "raised" = true) (k5 : PySem.W.keepIn K (.ref f5) = true)
    (a6 : PySem.W.nsIn K mainGlobals "rising_rows" = some (some (.ref f6))) (l6 : K.lookup f6 = some ⟨oc6, od6, .func (PySem.W.fnOf "rising_rows" "rising_rows" (defArgs s_rising_rows) (defBody s_rising_rows) (defScope s_rising_rows) .none kV6 dc6 pm6 an6 cd6 ct6), sl6⟩) (c6 : PySem.W.codeIn K cd6 "rising_rows" = true) (k6 : PySem.W.keepIn K (.ref f6) = true)
    (a7 : PySem.W.nsIn K mainGlobals "each_filling" = some (some (.ref f7))) (l7 : K.lookup f7 = some ⟨oc7, od7, .func (PySem.W.fnOf "each_filling" "each_filling" (defArgs s_each_filling) (defBody s_each_filling) (defScope s_each_filling) .none kV7 dc7 pm7 an7 cd7 ct7), sl7⟩) (c7 : PySem.W.codeIn K cd7 "each_filling" = true) (k7 : PySem.W.keepIn K (.ref f7) = true)
    (a8 : PySem.W.nsIn K mainGlobals "_law_stream" = some (some (.ref f8))) (l8 : K.lookup f8 = some ⟨oc8, od8, .func (PySem.W.fnOf "_law_stream" "_law_stream" (defArgs sStream) (defBody sStream) (defScope sStream) .none kV8 dc8 pm8 an8 cd8 ct8), sl8⟩) (c8 : PySem.W.codeIn K cd8 "_law_stream" = true) (k8 : PySem.W.keepIn K (.ref f8) = true)
    (a9 : PySem.W.nsIn K mainGlobals "_law_draw" = some (some (.ref f9))) (l9 : K.lookup f9 = some ⟨oc9, od9, .func (PySem.W.fnOf "_law_draw" "_law_draw" (defArgs sDraw) (defBody sDraw) (defScope sDraw) .none kV9 dc9 pm9 an9 cd9 ct9), sl9⟩) (c9 : PySem.W.codeIn K cd9 "_law_draw" = true) (k9 : PySem.W.keepIn K (.ref f9) = true)
    (a10 : PySem.W.nsIn K mainGlobals "_law_all_words" = some (some (.ref f10))) (l10 : K.lookup f10 = some ⟨oc10, od10, .func (PySem.W.fnOf "_law_all_words" "_law_all_words" (defArgs s_l_all_words) (defBody s_l_all_words) (defScope s_l_all_words) .none kV10 dc10 pm10 an10 cd10 ct10), sl10⟩) (c10 : PySem.W.codeIn K cd10 "_law_all_words" = true) (k10 : PySem.W.keepIn K (.ref f10) = true)
    (a11 : PySem.W.nsIn K mainGlobals "_law_all_orders" = some (some (.ref f11))) (l11 : K.lookup f11 = some ⟨oc11, od11, .func (PySem.W.fnOf "_law_all_orders" "_law_all_orders" (defArgs s_l_all_orders) (defBody s_l_all_orders) (defScope s_l_all_orders) .none kV11 dc11 pm11 an11 cd11 ct11), sl11⟩) (c11 : PySem.W.codeIn K cd11 "_law_all_orders" = true) (k11 : PySem.W.keepIn K (.ref f11) = true)
    (a12 : PySem.W.nsIn K mainGlobals "law" = some (some (.ref f12))) (l12 : K.lookup f12 = some ⟨oc12, od12, .func (PySem.W.fnOf "law" "law" (defArgs s_law) (defBody s_law) (defScope s_law) .none kV12 dc12 pm12 an12 cd12 ct12), sl12⟩) (c12 : PySem.W.codeIn K cd12 "law" = true) (k12 : PySem.W.keepIn K (.ref f12) = true)
    (z1 : PySem.W.nsIn K mainGlobals "abs" = some none)
    (z2 : PySem.W.nsIn K mainGlobals "enumerate" = some none)
    (z3 : PySem.W.nsIn K mainGlobals "int" = some none)
    (z4 : PySem.W.nsIn K mainGlobals "len" = some none)
    (z5 : PySem.W.nsIn K mainGlobals "list" = some none)
    (z6 : PySem.W.nsIn K mainGlobals "range" = some none)
    (z7 : PySem.W.nsIn K mainGlobals "sorted" = some none)
    (z8 : PySem.W.nsIn K mainGlobals "tuple" = some none)
    (z9 : PySem.W.nsIn K mainGlobals "zip" = some none)
    (y1 : PySem.W.nsIn K mainGlobals "LETTERS" = some (some (.str "abcdefghijklmnopqrstuvwxyz" tk1)))
    : ∃ fd : FuncData, (∀ (s : Shared) (v : Value), BindsTo s fd ⟨[v], []⟩ [("_law_script", v)]) ∧ ∀ base : Heap, K.In base → base.Ns mainGlobals mg → SmB base → FnG l.prog w K mg base 58 fa fd ["_law_script"] (spLaw K) := by
  have e := hfa.symm.trans (PySem.W.mg_of X G a12)
  cases e
  have F1 := fun_mk (st := s_tail_order) l1 c1 k1
  have F2 := fun_mk (st := s_ranks_in) l2 c2 k2
  have F3 := fun_mk (st := s_strict_steps) l3 c3 k3
  have F4 := fun_mk (st := s_word_along) l4 c4 k4
  have F5 := fun_mk (st := s_raised) l5 c5 k5
  have F6 := fun_mk (st := s_rising_rows) l6 c6 k6
  have F7 := fun_mk (st := s_each_filling) l7 c7 k7
  have F8 := fun_mk (st := sStream) l8 c8 k8
  have F9 := fun_mk (st := sDraw) l9 c9 k9
  have F10 := fun_mk (st := s_l_all_words) l10 c10 k10
  have F11 := fun_mk (st := s_l_all_orders) l11 c11 k11
  have F12 := fun_mk (st := s_law) l12 c12 k12
  have g1 := PySem.W.mg_of X G a1
  have g2 := PySem.W.mg_of X G a2
  have g3 := PySem.W.mg_of X G a3
  have g4 := PySem.W.mg_of X G a4
  have g5 := PySem.W.mg_of X G a5
  have g6 := PySem.W.mg_of X G a6
  have g7 := PySem.W.mg_of X G a7
  have g8 := PySem.W.mg_of X G a8
  have g9 := PySem.W.mg_of X G a9
  have g10 := PySem.W.mg_of X G a10
  have g11 := PySem.W.mg_of X G a11
  have g12 := PySem.W.mg_of X G a12
  have m_abs := PySem.W.mg_none_of X G z1
  have m_enumerate := PySem.W.mg_none_of X G z2
  have m_int := PySem.W.mg_none_of X G z3
  have m_len := PySem.W.mg_none_of X G z4
  have m_list := PySem.W.mg_none_of X G z5
  have m_range := PySem.W.mg_none_of X G z6
  have m_sorted := PySem.W.mg_none_of X G z7
  have m_tuple := PySem.W.mg_none_of X G z8
  have m_zip := PySem.W.mg_none_of X G z9
  have c_LETTERS : GlS (mg "LETTERS") [97, 98, 99, 100, 101, 102, 103, 104, 105, 106, 107, 108, 109, 110, 111, 112, 113, 114, 115, 116, 117, 118, 119, 120, 121, 122] := ⟨_, _, PySem.W.mg_of X G y1, by decide +kernel⟩
  have bs := F8.binds (ps := ["_law_script"]) fun _ _ _ _ _ _ us hl => match us, hl with | [_], _ => rfl
  have bd := F9.binds (ps := ["_law_stream_here", "_law_many"]) fun _ _ _ _ _ _ us hl => match us, hl with | [_, _], _ => rfl
  refine ⟨PySem.W.fnOf "law" "law" (defArgs s_law) (defBody s_law) (defScope s_law) .none kV12 dc12 pm12 an12 cd12 ct12, fun s v => .of_eq rfl, fun base _ _ m_sm => ?_⟩
  have F_l_draw := fnB_of F9 g9 (ok_draw (P := l.prog) (w := w) (base := base) F9 m_len) bd
  have FS := ok_stream (P := l.prog) (w := w) (mg := mg) (base := base) F8 m_len m_abs
  have F_tail_order := ok_tail_order (P := l.prog) (w := w) (base := base) F1 g1 m_len m_range m_sorted m_tuple p_tail_order
  have F_ranks_in := ok_ranks_in (P := l.prog) (w := w) (base := base) F2 g2 m_enumerate m_len m_tuple p_ranks_in
  have F_word_along := ok_word_along (P := l.prog) (w := w) (base := base) F4 g4 m_len m_zip c_LETTERS p_word_along
  have F_l_all_words := ok_l_all_words (P := l.prog) (w := w) (base := base) F10 g10 m_range p_l_all_words
  have F_l_all_orders := ok_l_all_orders (P := l.prog) (w := w) (base := base) F11 g11 m_range m_tuple p_l_all_orders
  have F_strict_steps := ok_strict_steps (P := l.prog) (w := w) (base := base) F3 g3 F_ranks_in m_enumerate m_list m_tuple m_zip p_strict_steps
  have F_raised := ok_raised (P := l.prog) (w := w) (base := base) F5 g5 F_strict_steps m_enumerate m_int p_raised
  have F_rising_rows0 := gzB_no (P := l.prog) (w := w) (base := base) (k := 0) (sp := d_rising 0) F6 g6 (F6.binds (ps := ["places", "least", "many"]) fun _ _ _ _ _ _ us hl => match us, hl with | [_, _, _], _ => rfl) (fun _ _ _ h => h)
  have F_rising_rows1 := ok_rising_rows (P := l.prog) (w := w) (base := base) F6 g6 0 F_rising_rows0 m_range (p_rising_rows 0)
  have F_rising_rows2 := ok_rising_rows (P := l.prog) (w := w) (base := base) F6 g6 1 F_rising_rows1 m_range (p_rising_rows 1)
  have F_rising_rows3 := ok_rising_rows (P := l.prog) (w := w) (base := base) F6 g6 2 F_rising_rows2 m_range (p_rising_rows 2)
  have F_rising_rows4 := ok_rising_rows (P := l.prog) (w := w) (base := base) F6 g6 3 F_rising_rows3 m_range (p_rising_rows 3)
  have F_rising_rows5 := ok_rising_rows (P := l.prog) (w := w) (base := base) F6 g6 4 F_rising_rows4 m_range (p_rising_rows 4)
  have F_rising_rows6 := ok_rising_rows (P := l.prog) (w := w) (base := base) F6 g6 5 F_rising_rows5 m_range (p_rising_rows 5)
  have F_rising_rows7 := ok_rising_rows (P := l.prog) (w := w) (base := base) F6 g6 6 F_rising_rows6 m_range (p_rising_rows 6)
  have F_rising_rows8 := ok_rising_rows (P := l.prog) (w := w) (base := base) F6 g6 7 F_rising_rows7 m_range (p_rising_rows 7)
  have F_rising_rows9 := ok_rising_rows (P := l.prog) (w := w) (base := base) F6 g6 8 F_rising_rows8 m_range (p_rising_rows 8)
  have F_rising_rows10 := ok_rising_rows (P := l.prog) (w := w) (base := base) F6 g6 9 F_rising_rows9 m_range (p_rising_rows 9)
  have F_rising_rows11 := ok_rising_rows (P := l.prog) (w := w) (base := base) F6 g6 10 F_rising_rows10 m_range (p_rising_rows 10)
  have F_rising_rows12 := ok_rising_rows (P := l.prog) (w := w) (base := base) F6 g6 11 F_rising_rows11 m_range (p_rising_rows 11)
  have F_rising_rows13 := ok_rising_rows (P := l.prog) (w := w) (base := base) F6 g6 12 F_rising_rows12 m_range (p_rising_rows 12)
  have F_rising_rows14 := ok_rising_rows (P := l.prog) (w := w) (base := base) F6 g6 13 F_rising_rows13 m_range (p_rising_rows 13)
  have F_rising_rows15 := ok_rising_rows (P := l.prog) (w := w) (base := base) F6 g6 14 F_rising_rows14 m_range (p_rising_rows 14)
  have F_rising_rows16 := ok_rising_rows (P := l.prog) (w := w) (base := base) F6 g6 15 F_rising_rows15 m_range (p_rising_rows 15)
  have F_rising_rows17 := ok_rising_rows (P := l.prog) (w := w) (base := base) F6 g6 16 F_rising_rows16 m_range (p_rising_rows 16)
  have F_rising_rows18 := ok_rising_rows (P := l.prog) (w := w) (base := base) F6 g6 17 F_rising_rows17 m_range (p_rising_rows 17)
  have F_rising_rows19 := ok_rising_rows (P := l.prog) (w := w) (base := base) F6 g6 18 F_rising_rows18 m_range (p_rising_rows 18)
  have F_rising_rows20 := ok_rising_rows (P := l.prog) (w := w) (base := base) F6 g6 19 F_rising_rows19 m_range (p_rising_rows 19)
  have F_rising_rows21 := ok_rising_rows (P := l.prog) (w := w) (base := base) F6 g6 20 F_rising_rows20 m_range (p_rising_rows 20)
  have F_rising_rows22 := ok_rising_rows (P := l.prog) (w := w) (base := base) F6 g6 21 F_rising_rows21 m_range (p_rising_rows 21)
  have F_rising_rows23 := ok_rising_rows (P := l.prog) (w := w) (base := base) F6 g6 22 F_rising_rows22 m_range (p_rising_rows 22)
  have F_rising_rows24 := ok_rising_rows (P := l.prog) (w := w) (base := base) F6 g6 23 F_rising_rows23 m_range (p_rising_rows 23)
  have F_rising_rows25 := ok_rising_rows (P := l.prog) (w := w) (base := base) F6 g6 24 F_rising_rows24 m_range (p_rising_rows 24)
  have F_rising_rows := F_rising_rows25
  have F_each_filling := ok_each_filling (P := l.prog) (w := w) (base := base) F7 g7 F_strict_steps F_rising_rows F_raised F_word_along m_len p_each_filling
  exact ok_law (P := l.prog) (w := w) (base := base) F12 FS g8 k8 bs F_l_draw F_l_all_orders F_each_filling F_tail_order F_l_all_words m_list m_sorted p_law
end LW
open PySem PySem.W PyProof.Rows
set_option maxHeartbeats 0 in
theorem PySem.Challenge.cw_tailranks_k22_whole_fillings_are_all_wor_holds : PySem.Challenge.rw_tailranks_k22_whole_fillings_are_all_wor.Holds := by
  w_on; o_law; k_head; (case hw => w_witness2)
  k_fill
  refine DL.walkG (l := PySem.Challenge.rw_tailranks_k22_whole_fillings_are_all_wor) (n := 63) (k := 58) (x := "_law_script") (sp := fun w => DL.spLaw _) rfl (by decide +kernel) (by decide) rfl ⟨rfl, by decide, by decide⟩ (fun w h Y => PySem.W.kIn_of Y) ?F (fun _ _ a ns hl hS => ⟨a, ns, rfl, hS, hl, fun _ => rfl⟩)
  case F =>
    intro w mg fa h KX G hmg
    refine' LW.all_mk KX G hmg ?a1 ?l1 ?c1 ?k1 ?a2 ?l2 ?c2 ?k2 ?a3 ?l3 ?c3 ?k3 ?a4 ?l4 ?c4 ?k4 ?a5 ?l5 ?c5 ?k5 ?a6 ?l6 ?c6 ?k6 ?a7 ?l7 ?c7 ?k7 ?a8 ?l8 ?c8 ?k8 ?a9 ?l9 ?c9 ?k9 ?a10 ?l10 ?c10 ?k10 ?a11 ?l11 ?c11 ?k11 ?a12 ?l12 ?c12 ?k12 ?z1 ?z2 ?z3 ?z4 ?z5 ?z6 ?z7 ?z8 ?z9 ?y1
    (case a1 => k_is); (case l1 => k_is); (case c1 => k_is); (case k1 => k_is); (case a2 => k_is); (case l2 => k_is); (case c2 => k_is); (case k2 => k_is); (case a3 => k_is); (case l3 => k_is); (case c3 => k_is); (case k3 => k_is); (case a4 => k_is); (case l4 => k_is); (case c4 => k_is); (case k4 => k_is); (case a5 => k_is); (case l5 => k_is); (case c5 => k_is); (case k5 => k_is); (case a6 => k_is); (case l6 => k_is); (case c6 => k_is); (case k6 => k_is); (case a7 => k_is); (case l7 => k_is); (case c7 => k_is); (case k7 => k_is); (case a8 => k_is); (case l8 => k_is); (case c8 => k_is); (case k8 => k_is); (case a9 => k_is); (case l9 => k_is); (case c9 => k_is); (case k9 => k_is); (case a10 => k_is); (case l10 => k_is); (case c10 => k_is); (case k10 => k_is); (case a11 => k_is); (case l11 => k_is); (case c11 => k_is); (case k11 => k_is); (case a12 => k_is); (case l12 => k_is); (case c12 => k_is); (case k12 => k_is); (case z1 => k_is); (case z2 => k_is); (case z3 => k_is); (case z4 => k_is); (case z5 => k_is); (case z6 => k_is); (case z7 => k_is); (case z8 => k_is); (case z9 => k_is); (case y1 => k_is)
