import PyProof.Rows.All
import Wide.All
import OpenK.AllK
import Wide.FinOn
import HandS.ForMost
import HandS.Walk
import HandS.Exc
import HandS.WordsExc
import HandS.TupAny
import HandS.ExcCtx
import HandS.HotCalls
import KE.KxText
import KE.KSortTupG
import HandS.Ends
import KE.GoesZip
import KE.GoesEnum
import KE.GoesMore
import KE.KDictZip
import PyProof.CollectWalk
import KE.KDictList
import HandS.AnyAll
import HandS.IsInst
import HandS.Star
import HandS.Conv
import HandS.Style
import HandS.Text
import HandS.StrMore
import HandS.Wide
import HandS.ListEq
import HandS.Flow
import HandS.RevTup
import KE.KRevSl
import HandS.ExcField
import HandS.ExcIs
import KE.KExcIs
import KE.KExcInit
import KE.KTryMore
import HandS.Small
import HandS.SetFor
import PyProof.NeKinds
import KE.DataMinMax
import PyProof.ListStr
import HandS.TupMul
import HandS.More
import HandS.Set
import PyProof.SetKind
import PyProof.SetRoads
import PyProof.Rows.SortShellAny
import HandS.SortInts
import HandS.Replace
import PyProof.StrLaws
import HandS.Codes
import PyProof.CollectStr
import PyProof.SliceStr2
import PyProof.Rows.StrStep
import PyProof.StrLawsIn
import KE.DataCmp
import HandS.NoneIn
import KE.KUnpackStar
import HandS.RaiseMore
import PyProof.StrLawsRepr
import PyProof.FitsInt
import HandS.TupSets
import PySem.Challenge.RW_tailranks_k15_whole_orders_grown_and_shr
set_option Elab.async false
set_option linter.all false
set_option maxRecDepth 100000
set_option maxHeartbeats 1000000
namespace DL
open PySem L2

/-- data: texts are lists of code points; ob: the k-th anchored object of the ghost region -/
inductive D where
  | non | bl (b : Bool) | int (i : Int) | str (x : List Nat) | lst (xs : List D) | tup (xs : List D) | dic (kvs : List (Key × D)) | ob (k : Nat) | exn (cls : Str) (ns : List Str) (ds : List D) | tx (xs : List D) | cl (c : Str)
/-- the table of modules stands in the base -/
def SmB (base : Heap) : Prop := ∃ o, base.get? sysModules = some o
/-- a caught exception's own object is known to the object -/
def exU : HO := .ext fun _ => True

mutual
inductive Rp (K : PySem.W.Frag) (F : Hp) (R : List Addr) : V → D → Prop
  | non : Rp K F R .non .non
  | bl (b : Bool) : Rp K F R (.bl b) (.bl b)
  | int (i : Int) : Rp K F R (.int i) (.int i)
  | str (z : Str) (x : List Nat) : z.cps.toList = x → Rp K F R (.str z) (.str x)
  | lst {a : Addr} {vs : List V} {ds : List D} : F a = some (.lst vs) → RpA K F R vs ds → Rp K F R (.ref a) (.lst ds)
  | tup {a : Addr} {vs : List V} {ds : List D} : SqT K F a vs → RpA K F R vs ds → Rp K F R (.ref a) (.tup ds)
  | dic {a : Addr} {kvs : List (Key × V)} {kds : List (Key × D)} : F a = some (.dK kvs) → RpK K F R kvs kds → Rp K F R (.ref a) (.dic kds)
  | ob {a : Addr} {k : Nat} : R[k]? = some a → Rp K F R (.ref a) (.ob k)
  | exn0 {a C : Addr} {cls : Str} {oe : Obj} : PySem.W.nsIn K mainGlobals cls = some (some (.ref C)) → F a = some (.frz oe exU) → Zc (.ref C) none oe → (∃ fv, oe.data = .fields fv) → Rp K F R (.ref a) (.exn cls [] [])
  | exn {a C dd : Addr} {cls : Str} {oe : Obj} {ns : List Str} {vs : List V} {ds : List D} : PySem.W.nsIn K mainGlobals cls = some (some (.ref C)) → F a = some (.frz oe exU) → Zc (.ref C) (some dd) oe → (∃ fv, oe.data = .fields fv) →
      F dd = some (.xd (ns.zip vs)) → ns.length = vs.length → RpA K F R vs ds → Rp K F R (.ref a) (.exn cls ns ds)
  | tx {a : Addr} {vs : List V} {ds : List D} {o : Obj} : F a = some (.frz o (.tup vs)) → o.dict = none → o.cls = .type "tuple" → RpA K F R vs ds → Rp K F R (.ref a) (.tx ds)
  | cl {C : Addr} {c : Str} : PySem.W.nsIn K mainGlobals c = some (some (.ref C)) → Rp K F R (.ref C) (.cl c)
inductive RpA (K : PySem.W.Frag) (F : Hp) (R : List Addr) : List V → List D → Prop
  | nil : RpA K F R [] []
  | cons {v : V} {vs : List V} {d : D} {ds : List D} : Rp K F R v d → RpA K F R vs ds → RpA K F R (v :: vs) (d :: ds)
inductive RpK (K : PySem.W.Frag) (F : Hp) (R : List Addr) : List (Key × V) → List (Key × D) → Prop
  | nil : RpK K F R [] []
  | cons {k : Key} {v : V} {kvs : List (Key × V)} {d : D} {kds : List (Key × D)} : Rp K F R v d → RpK K F R kvs kds → RpK K F R ((k, v) :: kvs) ((k, d) :: kds)
end

theorem same_tup {K : PySem.W.Frag} {H H' : Hp} {a : Addr} {xs : List V} (e : Same H H') (h : SqT K H a xs) : SqT K H' a xs := by
  rcases h with (h | ⟨o, h⟩) | h
  · exact .inl (.inl (e _ _ h))
  · exact .inl (.inr ⟨o, e _ _ h⟩)
  · exact .inr h
section
variable {K : PySem.W.Frag} {F F' : Hp} {R R' : List Addr}
mutual
theorem Rp.mono (e : Same F F') (r : ∀ (k : Nat) a, R[k]? = some a → R'[k]? = some a) : ∀ {v : V} {d : D}, Rp K F R v d → Rp K F' R' v d
  | _, _, .non => .non
  | _, _, .bl b => .bl b
  | _, _, .int i => .int i
  | _, _, .str z x h => .str z x h
  | _, _, .lst h q => .lst (e _ _ h) (RpA.mono e r q)
  | _, _, .tup h q => .tup (same_tup e h) (RpA.mono e r q)
  | _, _, .dic h q => .dic (e _ _ h) (RpK.mono e r q)
  | _, _, .ob h => .ob (r _ _ h)
  | _, _, .exn0 h1 h2 h3 h4 => .exn0 h1 (e _ _ h2) h3 h4
  | _, _, .exn h1 h2 h3 h4 h5 h6 q => .exn h1 (e _ _ h2) h3 h4 (e _ _ h5) h6 (RpA.mono e r q)
  | _, _, .tx h1 h2 h3 q => .tx (e _ _ h1) h2 h3 (RpA.mono e r q)
  | _, _, .cl h => .cl h
theorem RpA.mono (e : Same F F') (r : ∀ (k : Nat) a, R[k]? = some a → R'[k]? = some a) : ∀ {v : List V} {d : List D}, RpA K F R v d → RpA K F' R' v d
  | _, _, .nil => .nil
  | _, _, .cons h q => .cons (Rp.mono e r h) (RpA.mono e r q)
theorem RpK.mono (e : Same F F') (r : ∀ (k : Nat) a, R[k]? = some a → R'[k]? = some a) : ∀ {v : List (Key × V)} {d : List (Key × D)}, RpK K F R v d → RpK K F' R' v d
  | _, _, .nil => .nil
  | _, _, .cons h q => .cons (Rp.mono e r h) (RpK.mono e r q)
end
theorem RpA.length : ∀ {vs : List V} {ds : List D}, RpA K F R vs ds → vs.length = ds.length
  | _, _, .nil => rfl
  | _, _, .cons _ t => by rw [List.length_cons, List.length_cons, t.length]
theorem RpA.get' : ∀ {vs : List V} {ds : List D} {i : Nat} {d : D}, RpA K F R vs ds → ds[i]? = some d → ∃ v, vs[i]? = some v ∧ Rp K F R v d
  | _, _, _, _, .nil, e => by simp at e
  | _, _, 0, _, .cons r _, e => by simp at e; subst e; exact ⟨_, rfl, r⟩
  | _, _, i + 1, d, .cons _ t, e => by
    obtain ⟨u, h1, h2⟩ := RpA.get' (i := i) (d := d) t (by simpa using e)
    exact ⟨u, by simpa using h1, h2⟩
theorem RpA.append : ∀ {vs ws : List V} {ds es : List D}, RpA K F R vs ds → RpA K F R ws es → RpA K F R (vs ++ ws) (ds ++ es)
  | _, _, _, _, .nil, s => s
  | _, _, _, _, .cons r t, s => .cons r (RpA.append t s)
theorem RpA.take : ∀ {vs : List V} {ds : List D} (n : Nat), RpA K F R vs ds → RpA K F R (vs.take n) (ds.take n)
  | _, _, 0, _ => .nil
  | _, _, _ + 1, .nil => .nil
  | _, _, n + 1, .cons r t => .cons r (RpA.take n t)
theorem RpA.drop : ∀ {vs : List V} {ds : List D} (n : Nat), RpA K F R vs ds → RpA K F R (vs.drop n) (ds.drop n)
  | _, _, 0, r => r
  | _, _, _ + 1, .nil => .nil
  | _, _, n + 1, .cons _ t => RpA.drop n t
theorem RpA.set {v : V} {d : D} (r : Rp K F R v d) : ∀ {vs : List V} {ds : List D} (i : Nat), RpA K F R vs ds → RpA K F R (vs.set i v) (ds.set i d)
  | _, _, _, .nil => .nil
  | _, _, 0, .cons _ t => .cons r t
  | _, _, i + 1, .cons q t => .cons q (RpA.set r i t)
theorem RpA.flat {vs : List V} {ds : List D} (r : RpA K F R vs ds) : ∀ n : Nat, RpA K F R (List.replicate n vs).flatten (List.replicate n ds).flatten
  | 0 => .nil
  | n + 1 => by
    rw [List.replicate_succ, List.replicate_succ, List.flatten_cons, List.flatten_cons]
    exact r.append (RpA.flat r n)
theorem RpA.ints : ∀ {vs : List V} {ns : List Int}, RpA K F R vs (ns.map D.int) → vs = ns.map V.int
  | _, [], .nil => rfl
  | _, n :: ns, .cons (.int _) t => by rw [RpA.ints (ns := ns) t]; rfl
theorem RpA.strs : ∀ {vs : List V} {xs : List (List Nat)}, RpA K F R vs (xs.map D.str) → ∃ zs : List Str, vs = zs.map V.str ∧ zs.map (·.cps.toList) = xs
  | _, [], .nil => ⟨[], rfl, rfl⟩
  | _, x :: xs, .cons (.str z _ e) t => by
    obtain ⟨zs, h1, h2⟩ := RpA.strs (xs := xs) t
    exact ⟨z :: zs, by rw [h1]; rfl, by rw [List.map_cons, e, h2]⟩
end

structure Ghost where
  G : Type
  ok : PySem.W.Frag → G → List Addr → Hp → Hp → Prop
  keep : ∀ {K : PySem.W.Frag} {g : G} {R : List Addr} {F H F' H' : Hp}, ok K g R F H → Same F F' → (∀ a ∈ R, H' a = H a) → ok K g R F' H'
structure Wd (M : Ghost) where
  F : Hp
  H : Hp
  R : List Addr
  g : M.G
structure Wok {M : Ghost} (K : PySem.W.Frag) (W : Wd M) : Prop where
  sub : Same W.F W.H
  gh : M.ok K W.g W.R W.F W.H
  rf : ∀ a ∈ W.R, W.F a = none
  rh : ∀ a ∈ W.R, W.H a ≠ none
structure Go {M : Ghost} (W W' : Wd M) : Prop where
  sub : Same W.F W'.F
  keep : ∀ a o, W.H a = some o → a ∉ W.R → W'.H a = some o
  live : ∀ a, W.H a ≠ none → W'.H a ≠ none
  young : ∀ a, W'.F a ≠ none → W.F a ≠ none ∨ W.H a = none
  reg : ∃ new, W'.R = W.R ++ new ∧ ∀ a ∈ new, W.H a = none
section
variable {M : Ghost} {K : PySem.W.Frag} {W W1 W2 W' : Wd M}
theorem Go.refl (W : Wd M) : Go W W := ⟨Same.refl _, fun _ _ h _ => h, fun _ h => h, fun _ h => .inl h, [], by simp, by simp⟩
theorem Go.notR (g : Go W W1) {a : Addr} (h : W.H a ≠ none) (n : a ∉ W.R) : a ∉ W1.R := by
  obtain ⟨new, e, q⟩ := g.reg
  rw [e]
  intro z
  rcases List.mem_append.mp z with z | z
  · exact n z
  · exact h (q a z)
theorem Go.trans (a : Go W W1) (b : Go W1 W2) : Go W W2 := by
  refine ⟨a.sub.trans b.sub, fun c o h n => ?_, fun c h => b.live c (a.live c h), fun c h => ?_, ?_⟩
  · exact b.keep c o (a.keep c o h n) (a.notR (by rw [h]; simp) n)
  · rcases b.young c h with z | z
    · exact a.young c z
    · right
      cases q : W.H c with
      | none => rfl
      | some o => exact absurd z (a.live c (by rw [q]; simp))
  · obtain ⟨n1, e1, q1⟩ := a.reg
    obtain ⟨n2, e2, q2⟩ := b.reg
    refine ⟨n1 ++ n2, by rw [e2, e1, List.append_assoc], fun c hc => ?_⟩
    rcases List.mem_append.mp hc with z | z
    · exact q1 c z
    · cases q : W.H c with
      | none => rfl
      | some o => exact absurd (q2 c z) (a.live c (by rw [q]; simp))
theorem Go.ix (g : Go W W1) : ∀ (k : Nat) a, W.R[k]? = some a → W1.R[k]? = some a := by
  obtain ⟨new, e, _⟩ := g.reg
  intro k a h
  rw [e, List.getElem?_append_left (List.getElem?_eq_some_iff.mp h).1]
  exact h
theorem Rp.step {v : V} {d : D} (h : Rp K W.F W.R v d) (g : Go W W1) : Rp K W1.F W1.R v d := h.mono g.sub g.ix
theorem RpA.step {v : List V} {d : List D} (h : RpA K W.F W.R v d) (g : Go W W1) : RpA K W1.F W1.R v d := h.mono g.sub g.ix
theorem RpK.step {v : List (Key × V)} {d : List (Key × D)} (h : RpK K W.F W.R v d) (g : Go W W1) : RpK K W1.F W1.R v d := h.mono g.sub g.ix

/-- a new object that stands still -/
abbrev Wd.lay (W : Wd M) (p : Addr) (o : HO) : Wd M := { W with F := upd W.F p o, H := upd W.H p o }
/-- a new object that is not (yet) frozen -/
abbrev Wd.new (W : Wd M) (p : Addr) (o : HO) : Wd M := { W with H := upd W.H p o }
abbrev Wd.freeze (W : Wd M) (p : Addr) (o : HO) : Wd M := { W with F := upd W.F p o }
theorem same_new {H : Hp} {p : Addr} {o : HO} (h : H p = none) : Same H (upd H p o) := fun b x e => by
  rw [upd_ne (ne_of_none e h)]
  exact e
theorem Wok.noR (k : Wok K W) {p : Addr} (h : W.H p = none) : p ∉ W.R := fun z => k.rh p z h
theorem Wok.noF (k : Wok K W) {p : Addr} (h : W.H p = none) : W.F p = none := k.sub.free h
theorem Go.new (k : Wok K W) {p : Addr} {o : HO} (h : W.H p = none) : Go W (W.new p o) := by
  refine ⟨Same.refl _, fun a x e _ => same_new h a x e, fun a e => ?_, fun _ z => .inl z, [], by simp, by simp⟩
  show upd W.H p o a ≠ none
  cases q : W.H a with
  | none => exact absurd q e
  | some x => rw [same_new h a x q]; simp
theorem Wok.new (k : Wok K W) {p : Addr} {o : HO} (h : W.H p = none) : Wok K (W.new p o) := by
  have nr := k.noR h
  refine ⟨k.sub.trans (same_new h), M.keep k.gh (Same.refl _) fun a ha => upd_ne (fun z => nr (z ▸ ha)), k.rf, fun a ha => ?_⟩
  show upd W.H p o a ≠ none
  rw [upd_ne (show a ≠ p from fun z => nr (z ▸ ha))]
  exact k.rh a ha
theorem Go.lay (k : Wok K W) {p : Addr} {o : HO} (h : W.H p = none) : Go W (W.lay p o) := by
  have g := Go.new (o := o) k h
  refine ⟨same_new (k.noF h), g.keep, g.live, fun a z => ?_, [], by simp, by simp⟩
  by_cases e : a = p
  · subst e; exact .inr h
  · rw [show (W.lay p o).F a = W.F a from upd_ne e] at z
    exact .inl z
theorem Wok.lay (k : Wok K W) {p : Addr} {o : HO} (h : W.H p = none) : Wok K (W.lay p o) := by
  have nr := k.noR h
  have q := Wok.new (o := o) k h
  refine ⟨fun a x e => ?_, M.keep q.gh (same_new (k.noF h)) fun a ha => rfl, fun a ha => ?_, q.rh⟩
  · by_cases z : a = p
    · subst z
      rw [show (W.lay a o).F a = some o from upd_same] at e
      rw [show (W.lay a o).H a = some o from upd_same]
      exact e
    · rw [show (W.lay p o).F a = W.F a from upd_ne z] at e
      rw [show (W.lay p o).H a = W.H a from upd_ne z]
      exact k.sub _ _ e
  · show upd W.F p o a = none
    rw [upd_ne (show a ≠ p from fun z => nr (z ▸ ha))]
    exact k.rf a ha
/-- freezing a thing of one's own -/
theorem Wok.freeze (k : Wok K W) {p : Addr} {o : HO} (h : W.H p = some o) (hf : W.F p = none) (nr : p ∉ W.R) : Wok K (W.freeze p o) := by
  refine ⟨fun a x e => ?_, M.keep k.gh (same_new hf) fun a ha => rfl, fun a ha => ?_, k.rh⟩
  · by_cases z : a = p
    · subst z
      rw [show (W.freeze a o).F a = some o from upd_same] at e
      cases e
      exact h
    · rw [show (W.freeze p o).F a = W.F a from upd_ne z] at e
      exact k.sub _ _ e
  · show upd W.F p o a = none
    rw [upd_ne (show a ≠ p from fun z => nr (z ▸ ha))]
    exact k.rf a ha
theorem Go.freeze {W0 : Wd M} (g : Go W0 W) {p : Addr} {o : HO} (hf : W.F p = none) (h0 : W0.H p = none) : Go W0 (W.freeze p o) := by
  refine ⟨g.sub.trans (same_new hf), g.keep, g.live, fun a z => ?_, g.reg⟩
  by_cases e : a = p
  · subst e; exact .inr h0
  · rw [show (W.freeze p o).F a = W.F a from upd_ne e] at z
    exact g.young a z
/-- writing a thing of one's own -/
abbrev Wd.put (W : Wd M) (p : Addr) (o : HO) : Wd M := { W with H := upd W.H p o }
theorem Wok.put (k : Wok K W) {p : Addr} {o : HO} (hf : W.F p = none) (nr : p ∉ W.R) : Wok K (W.put p o) := by
  refine ⟨fun a x e => ?_, M.keep k.gh (Same.refl _) fun a ha => upd_ne (fun z => nr (z ▸ ha)), k.rf, fun a ha => ?_⟩
  · show upd W.H p o a = some x
    rw [upd_ne (show a ≠ p from fun z => by rw [z, hf] at e; cases e)]
    exact k.sub _ _ e
  · show upd W.H p o a ≠ none
    rw [upd_ne (show a ≠ p from fun z => nr (z ▸ ha))]
    exact k.rh a ha
theorem Go.put {W0 : Wd M} (g : Go W0 W) {p : Addr} {o : HO} (h0 : W0.H p = none) : Go W0 (W.put p o) := by
  refine ⟨g.sub, fun a x e n => ?_, fun a e => ?_, g.young, g.reg⟩
  · show upd W.H p o a = some x
    rw [upd_ne (ne_of_none e h0)]
    exact g.keep a x e n
  · show upd W.H p o a ≠ none
    by_cases z : a = p
    · subst z; rw [upd_same]; simp
    · rw [upd_ne z]; exact g.live a e
end

structure Gs {M : Ghost} (W W' : Wd M) : Prop where
  sub : Same W.F W'.F
  ix : ∀ (k : Nat) a, W.R[k]? = some a → W'.R[k]? = some a
section
variable {M : Ghost} {W W1 W2 : Wd M}
theorem Gs.refl (W : Wd M) : Gs W W := ⟨Same.refl _, fun _ _ h => h⟩
theorem Gs.trans (a : Gs W W1) (b : Gs W1 W2) : Gs W W2 := ⟨a.sub.trans b.sub, fun k c h => b.ix k c (a.ix k c h)⟩
theorem Go.s (g : Go W W1) : Gs W W1 := ⟨g.sub, g.ix⟩
theorem Rp.gs {K : PySem.W.Frag} {v : V} {d : D} (h : Rp K W.F W.R v d) (g : Gs W W1) : Rp K W1.F W1.R v d := h.mono g.sub g.ix
theorem RpA.gs {K : PySem.W.Frag} {v : List V} {d : List D} (h : RpA K W.F W.R v d) (g : Gs W W1) : RpA K W1.F W1.R v d := h.mono g.sub g.ix
end

inductive Sl where
  | no | im (d : D) | own (ds : List D) | odt (kds : List (Key × D))
/-- a list or a dict of one's own -/
def Sl.isOwn : Sl → Bool
  | .own _ => true
  | .odt _ => true
  | _ => false
abbrev DEnv := List Sl
/-- an exception of the text: its class by name, its fields -/
structure Exn where
  cls : Str
  ns : List Str
  ds : List D
structure Ct (M : Ghost) where
  X : Cx
  W0 : Wd M
  EX : Exn → DEnv → M.G → Prop
  B : Wd M
section
variable {M : Ghost}
def SlOk (C : Ct M) (W : Wd M) : Sl → Option V → Prop
  | .no, _ => True
  | .im d, o => ∃ v, o = some v ∧ Rp C.X.K W.F W.R v d
  | .own ds, o => ∃ p vs, o = some (.ref p) ∧ W.H p = some (.lst vs) ∧ W.F p = none ∧ p ∉ W.R ∧ C.W0.H p = none ∧ RpA C.X.K W.F W.R vs ds
  | .odt kds, o => ∃ p kvs, o = some (.ref p) ∧ W.H p = some (.dK kvs) ∧ W.F p = none ∧ p ∉ W.R ∧ C.W0.H p = none ∧ RpK C.X.K W.F W.R kvs kds
theorem SlOk.live {C : Ct M} {W : Wd M} {s : Sl} {o : Option V} (h : SlOk C W s o) (ow : s.isOwn = true) : ∃ p u, o = some (.ref p) ∧ W.H p = some u ∧ W.F p = none ∧ p ∉ W.R ∧ C.W0.H p = none := by
  cases s with
  | no => cases ow
  | im d => cases ow
  | own ds =>
    obtain ⟨p, vs, e, h1, h2, h3, h4, r⟩ := h
    exact ⟨p, _, e, h1, h2, h3, h4⟩
  | odt ds =>
    obtain ⟨p, vs, e, h1, h2, h3, h4, r⟩ := h
    exact ⟨p, _, e, h1, h2, h3, h4⟩
structure Sat (C : Ct M) (σ : St) (ρ : DEnv) (W : Wd M) : Prop where
  ok : Wok C.X.K W
  go : Go C.W0 W
  len : σ.length = ρ.length
  sl : ∀ (i : Nat) s, ρ[i]? = some s → ∃ o, σ[i]? = some o ∧ SlOk C W s o
  dis : ∀ (i j : Nat) s t p, ρ[i]? = some s → ρ[j]? = some t → s.isOwn = true → t.isOwn = true → σ[i]? = some (some (.ref p)) → σ[j]? = some (some (.ref p)) → i = j
  gs : Gs C.B W
variable {C : Ct M} {W W1 W' : Wd M} {σ : St} {ρ : DEnv}
theorem SlOk.step {s : Sl} {o : Option V} (h : SlOk C W s o) (g : Go W W1) : SlOk C W1 s o := by
  cases s with
  | no => trivial
  | im d =>
    obtain ⟨v, e, r⟩ := h
    exact ⟨v, e, r.step g⟩
  | own ds =>
    obtain ⟨p, vs, e, h1, h2, h3, h4, r⟩ := h
    refine ⟨p, vs, e, g.keep _ _ h1 h3, ?_, g.notR (by rw [h1]; simp) h3, h4, r.step g⟩
    cases q : W1.F p with
    | none => rfl
    | some o =>
      rcases g.young p (by rw [q]; simp) with z | z
      · exact absurd h2 z
      · rw [h1] at z; cases z
  | odt ds =>
    obtain ⟨p, vs, e, h1, h2, h3, h4, r⟩ := h
    refine ⟨p, vs, e, g.keep _ _ h1 h3, ?_, g.notR (by rw [h1]; simp) h3, h4, r.step g⟩
    cases q : W1.F p with
    | none => rfl
    | some o =>
      rcases g.young p (by rw [q]; simp) with z | z
      · exact absurd h2 z
      · rw [h1] at z; cases z
theorem Sat.step (S : Sat C σ ρ W) (g : Go W W1) (k : Wok C.X.K W1) : Sat C σ ρ W1 :=
  ⟨k, S.go.trans g, S.len, fun i s e => let ⟨o, h1, h2⟩ := S.sl i s e; ⟨o, h1, h2.step g⟩, S.dis, S.gs.trans g.s⟩

abbrev EW (M : Ghost) := DEnv → M.G → (D → M.G → Prop) → Prop
def tOf (X : Cx) (e : Expr) : TE := fun σ H Q => ∀ (pins : List (Addr × Obj)) (s : Shared), Inv X pins σ H s → wpAny (model X.prog X.w) X.A (eval e X.env) (EP X pins σ Q) X.xe s
theorem pe_tOf {X : Cx} {e : Expr} : PE X e (tOf X e) := ⟨fun pins s _ _ _ I h => h pins s I⟩
theorem tOf_of {X : Cx} {e : Expr} {t : TE} (h : PE X e t) {σ : St} {H : Hp} {Q : VK} (q : t σ H Q) : tOf X e σ H Q := fun pins s I => h.run pins s σ H Q I q
/-- a value that may be looked at now: it stands still, or it is a list of one's own -/
def RdP (K : PySem.W.Frag) (W : Wd M) (v : V) (d : D) : Prop := Rp K W.F W.R v d ∨ ∃ p vs ds, v = .ref p ∧ d = .lst ds ∧ W.H p = some (.lst vs) ∧ p ∉ W.R ∧ RpA K W.F W.R vs ds
theorem RdP.step {K : PySem.W.Frag} {v : V} {d : D} (h : RdP K W v d) (g : Go W W1) : RdP K W1 v d := by
  rcases h with h | ⟨p, vs, ds, e1, e2, h, n, r⟩
  · exact .inl (h.step g)
  · exact .inr ⟨p, vs, ds, e1, e2, g.keep _ _ h n, g.notR (by rw [h]; simp) n, r.step g⟩
/-- the value of an expression that stands still -/
structure DE (C : Ct M) (e : Expr) (w : EW M) : Prop where
  run : ∀ (σ : St) (ρ : DEnv) (W : Wd M) (Q : VK) (q : D → M.G → Prop), Sat C σ ρ W → (∀ v d W', Go W W' → Wok C.X.K W' → Rp C.X.K W'.F W'.R v d → q d W'.g → Q v W'.H) → w ρ W.g q → tOf C.X e σ W.H Q
/-- one that is looked at -/
structure DP (C : Ct M) (e : Expr) (w : EW M) : Prop where
  run : ∀ (σ : St) (ρ : DEnv) (W : Wd M) (Q : VK) (q : D → M.G → Prop), Sat C σ ρ W → (∀ v d W', Go W W' → Wok C.X.K W' → RdP C.X.K W' v d → q d W'.g → Q v W'.H) → w ρ W.g q → tOf C.X e σ W.H Q
/-- what a slot may take -/
def Fresh (K : PySem.W.Frag) (W W' : Wd M) : V → Sl → Prop
  | _, .no => True
  | v, .im d => Rp K W'.F W'.R v d
  | v, .own ds => ∃ p vs, v = .ref p ∧ W'.H p = some (.lst vs) ∧ W'.F p = none ∧ p ∉ W'.R ∧ W.H p = none ∧ RpA K W'.F W'.R vs ds
  | v, .odt kds => ∃ p kvs, v = .ref p ∧ W'.H p = some (.dK kvs) ∧ W'.F p = none ∧ p ∉ W'.R ∧ W.H p = none ∧ RpK K W'.F W'.R kvs kds
theorem Fresh.live {K : PySem.W.Frag} {W W' : Wd M} {v : V} {s : Sl} (f : Fresh K W W' v s) (ow : s.isOwn = true) : ∃ p u, v = .ref p ∧ W'.H p = some u ∧ W'.F p = none ∧ p ∉ W'.R ∧ W.H p = none := by
  cases s with
  | no => cases ow
  | im d => cases ow
  | own ds =>
    obtain ⟨p, vs, e, h1, h2, h3, h4, r⟩ := f
    exact ⟨p, _, e, h1, h2, h3, h4⟩
  | odt ds =>
    obtain ⟨p, vs, e, h1, h2, h3, h4, r⟩ := f
    exact ⟨p, _, e, h1, h2, h3, h4⟩
abbrev VW (M : Ghost) := DEnv → M.G → (Sl → M.G → Prop) → Prop
structure DV (C : Ct M) (e : Expr) (w : VW M) : Prop where
  run : ∀ (σ : St) (ρ : DEnv) (W : Wd M) (Q : VK) (q : Sl → M.G → Prop), Sat C σ ρ W → (∀ v s W', Go W W' → Wok C.X.K W' → Fresh C.X.K W W' v s → q s W'.g → Q v W'.H) → w ρ W.g q → tOf C.X e σ W.H Q
/-- a new list -/
abbrev NW (M : Ghost) := DEnv → M.G → (List D → M.G → Prop) → Prop
structure DN (C : Ct M) (e : Expr) (w : NW M) : Prop where
  run : ∀ (σ : St) (ρ : DEnv) (W : Wd M) (Q : VK) (q : List D → M.G → Prop), Sat C σ ρ W → (∀ p vs ds W', Go W W' → Wok C.X.K W' → W'.H p = some (.lst vs) → W'.F p = none → p ∉ W'.R → W.H p = none → RpA C.X.K W'.F W'.R vs ds → q ds W'.g → Q (.ref p) W'.H) → w ρ W.g q → tOf C.X e σ W.H Q
variable {e : Expr} {w : EW M}
@[simp] def wL (w : NW M) : EW M := fun ρ g q => w ρ g fun ds g' => q (.lst ds) g'
@[simp] def wI (w : EW M) : VW M := fun ρ g q => w ρ g fun d g' => q (.im d) g'
@[simp] def wO (w : NW M) : VW M := fun ρ g q => w ρ g fun ds g' => q (.own ds) g'
theorem DE.p (h : DE C e w) : DP C e w := ⟨fun σ ρ W Q q S hQ hw => h.run σ ρ W Q q S (fun v d W' g k r => hQ v d W' g k (.inl r)) hw⟩
theorem DE.v (h : DE C e w) : DV C e (wI w) := ⟨fun σ ρ W Q q S hQ hw => h.run σ ρ W Q _ S (fun v d W' g k r hq => hQ v (.im d) W' g k r hq) hw⟩
theorem DN.v {w : NW M} (h : DN C e w) : DV C e (wO w) := ⟨fun σ ρ W Q q S hQ hw => h.run σ ρ W Q _ S (fun p vs ds W' g k h1 h2 h3 h4 r hq => hQ (.ref p) (.own ds) W' g k ⟨p, vs, rfl, h1, h2, h3, h4, r⟩ hq) hw⟩
theorem DN.p {w : NW M} (h : DN C e w) : DP C e (wL w) := ⟨fun σ ρ W Q q S hQ hw => h.run σ ρ W Q _ S (fun p vs ds W' g k h1 h2 h3 h4 r hq => hQ (.ref p) (.lst ds) W' g k (.inr ⟨p, vs, ds, rfl, rfl, h1, h3, r⟩) hq) hw⟩
theorem DN.fr {w : NW M} (h : DN C e w) : DE C e (wL w) := ⟨fun σ ρ W Q q S hQ hw => h.run σ ρ W Q _ S (fun p vs ds W' g k h1 h2 h3 h4 r hq =>
  hQ (.ref p) (.lst ds) (W'.freeze p (.lst vs)) (Go.freeze g h2 h4) (k.freeze h1 h2 h3) (.lst upd_same (r.mono (same_new h2) fun _ _ z => z)) hq) hw⟩

@[simp] def wVar (i : Nat) : EW M := fun ρ g q => ∃ d, ρ[i]? = some (.im d) ∧ q d g
@[simp] def wPk (i : Nat) : EW M := fun ρ g q => ∃ ds, ρ[i]? = some (.own ds) ∧ q (.lst ds) g
@[simp] def wC (d : D) : EW M := fun _ g q => q d g
theorem de_var {i : Nat} {x : Str} {pos : Pos} (h : PE C.X (.Name x pos) (tVar i)) : DE C (.Name x pos) (wVar i) := ⟨fun σ ρ W Q q S hQ hw => by
  obtain ⟨d, e, hq⟩ := hw
  obtain ⟨o, h1, v, h2, r⟩ := S.sl i _ e
  subst h2
  exact tOf_of h ⟨v, h1, hQ v d W (Go.refl W) S.ok r hq⟩⟩
theorem dp_own {i : Nat} {x : Str} {pos : Pos} (h : PE C.X (.Name x pos) (tVar i)) : DP C (.Name x pos) (wPk i) := ⟨fun σ ρ W Q q S hQ hw => by
  obtain ⟨ds, e, hq⟩ := hw
  obtain ⟨o, h1, p, vs, h2, h3, h4, h5, h6, r⟩ := S.sl i _ e
  subst h2
  exact tOf_of h ⟨.ref p, h1, hQ _ _ W (Go.refl W) S.ok (.inr ⟨p, vs, ds, rfl, rfl, h3, h5, r⟩) hq⟩⟩
theorem de_c {e : Expr} {v : V} {d : D} (h : PE C.X e (tC v)) (r : ∀ F R, Rp C.X.K F R v d) : DE C e (wC d) := ⟨fun σ ρ W Q q S hQ hw => tOf_of h (hQ v d W (Go.refl W) S.ok (r _ _) hw)⟩
theorem de_int {i : Int} {j : Nat} {pos : Pos} : DE C (.Constant (.int i) j pos) (wC (.int i)) := de_c pe_int fun _ _ => .int i
theorem de_bl {b : Bool} {j : Nat} {pos : Pos} : DE C (.Constant (.bool b) j pos) (wC (.bl b)) := de_c pe_bl fun _ _ => .bl b
theorem de_non {j : Nat} {pos : Pos} : DE C (.Constant .none j pos) (wC .non) := de_c pe_non fun _ _ => .non
theorem de_str {x : Str} {j : Nat} {pos : Pos} (y : List Nat) (h : x.cps.toList = y := by decide) : DE C (.Constant (.str x) j pos) (wC (.str y)) := de_c pe_str fun _ _ => .str x y h

/-- an operation on two values, by data -/
structure OpD (C : Ct M) (f : Value → Value → Sem Value) (r : D → D → (D → Prop) → Prop) : Prop where
  run : ∃ rr, OpR C.X f rr ∧ ∀ (W : Wd M) (x y : V) (d e : D) (Q : VK) (q : D → Prop), Wok C.X.K W → RdP C.X.K W x d → RdP C.X.K W y e →
    (∀ v d' W', Go W W' → Wok C.X.K W' → W'.g = W.g → Rp C.X.K W'.F W'.R v d' → q d' → Q v W'.H) → r d e q → rr x y W.H Q
/-- .. that makes a new list -/
structure OpN (C : Ct M) (f : Value → Value → Sem Value) (r : D → D → (List D → Prop) → Prop) : Prop where
  run : ∃ rr, OpR C.X f rr ∧ ∀ (W : Wd M) (x y : V) (d e : D) (Q : VK) (q : List D → Prop), Wok C.X.K W → RdP C.X.K W x d → RdP C.X.K W y e →
    (∀ p vs ds W', Go W W' → Wok C.X.K W' → W'.g = W.g → W'.H p = some (.lst vs) → W'.F p = none → p ∉ W'.R → W.H p = none → RpA C.X.K W'.F W'.R vs ds → q ds → Q (.ref p) W'.H) → r d e q → rr x y W.H Q
@[simp] def wBin (r : D → D → (D → Prop) → Prop) (wa wb : EW M) : EW M := fun ρ g q => wa ρ g fun x g1 => wb ρ g1 fun y g2 => r x y fun d => q d g2
@[simp] def wBinN (r : D → D → (List D → Prop) → Prop) (wa wb : EW M) : NW M := fun ρ g q => wa ρ g fun x g1 => wb ρ g1 fun y g2 => r x y fun d => q d g2
variable {a b : Expr} {wa wb : EW M} {pos : Pos} {r : D → D → (D → Prop) → Prop} {rn : D → D → (List D → Prop) → Prop}
theorem two_run {f : Value → Value → Sem Value} {rr : R2} (ha : DP C a wa) (hb : DP C b wb) {Q : VK} {q : D → D → M.G → Prop} (S : Sat C σ ρ W)
    (h : ∀ W1 x y d e, Go W W1 → Wok C.X.K W1 → RdP C.X.K W1 x d → RdP C.X.K W1 y e → q d e W1.g → rr x y W1.H Q) (hw : wa ρ W.g fun x g1 => wb ρ g1 fun y g2 => q x y g2) :
    tOp rr (tOf C.X a) (tOf C.X b) σ W.H Q :=
  ha.run σ ρ W _ _ S (fun v d W1 g1 k1 r1 q1 => hb.run σ ρ W1 _ _ (S.step g1 k1) (fun u e W2 g2 k2 r2 q2 => h W2 v u d e (g1.trans g2) k2 (r1.step g2) r2 q2) q1) hw
theorem de_op {op : Operator} (ho : OpD C (binaryOp op) r) (ha : DP C a wa) (hb : DP C b wb) : DE C (.BinOp a op b pos) (wBin r wa wb) := ⟨fun σ ρ W Q q S hQ hw => by
  obtain ⟨rr, hop, h⟩ := ho.run
  exact tOf_of (pe_op hop pe_tOf pe_tOf) (two_run (f := binaryOp op) ha hb S (fun W1 x y d e g k r1 r2 q1 => h W1 x y d e Q _ k r1 r2 (fun v d' W' g' k' eg r' q' => hQ v d' W' (g.trans g') k' r' (eg ▸ q')) q1) hw)⟩
theorem dn_op {op : Operator} (ho : OpN C (binaryOp op) rn) (ha : DP C a wa) (hb : DP C b wb) : DN C (.BinOp a op b pos) (wBinN rn wa wb) := ⟨fun σ ρ W Q q S hQ hw => by
  obtain ⟨rr, hop, h⟩ := ho.run
  refine tOf_of (pe_op hop pe_tOf pe_tOf) (two_run (f := binaryOp op) ha hb S (fun W1 x y d e g k r1 r2 q1 => h W1 x y d e Q _ k r1 r2 (fun p vs ds W' g' k' eg h1 h2 h3 h4 r' q' => hQ p vs ds W' (g.trans g') k' h1 h2 h3 ?_ r' (eg ▸ q')) q1) hw)
  cases z : W.H p with
  | none => rfl
  | some o => exact absurd h4 (g.live p (by rw [z]; simp))⟩
theorem de_cmp {op : CmpOp} (ho : OpD C (compareOp op) r) (ha : DP C a wa) (hb : DP C b wb) (hm : behindInMarks op b = false) : DE C (.Compare a [op] [b] pos) (wBin r wa wb) := ⟨fun σ ρ W Q q S hQ hw => by
  obtain ⟨rr, hop, h⟩ := ho.run
  exact tOf_of (pe_cmpR hop pe_tOf pe_tOf hm) (two_run (f := compareOp op) ha hb S (fun W1 x y d e g k r1 r2 q1 => h W1 x y d e Q _ k r1 r2 (fun v d' W' g' k' eg r' q' => hQ v d' W' (g.trans g') k' r' (eg ▸ q')) q1) hw)⟩

abbrev TW (M : Ghost) := DEnv → M.G → (Bool → M.G → Prop) → Prop
def ttOf (X : Cx) (e : Expr) : TT := fun σ H Q => ∀ (pins : List (Addr × Obj)) (s : Shared), Inv X pins σ H s → wpAny (model X.prog X.w) X.A (isTrue e X.env (eval e X.env)) (TP X pins σ Q) X.xe s
theorem pt_tOf {X : Cx} {e : Expr} : PT X e (ttOf X e) := ⟨fun pins s _ _ _ I h => h pins s I⟩
theorem ttOf_of {X : Cx} {e : Expr} {t : TT} (h : PT X e t) {σ : St} {H : Hp} {Q : Bool → Hp → Prop} (q : t σ H Q) : ttOf X e σ H Q := fun pins s I => h.run pins s σ H Q I q
structure DT (C : Ct M) (e : Expr) (w : TW M) : Prop where
  run : ∀ (σ : St) (ρ : DEnv) (W : Wd M) (Q : Bool → Hp → Prop) (q : Bool → M.G → Prop), Sat C σ ρ W → (∀ b W', Go W W' → Wok C.X.K W' → q b W'.g → Q b W'.H) → w ρ W.g q → ttOf C.X e σ W.H Q
def twOf (X : Cx) (e : Expr) : TT := fun σ H Q => ∀ (whole : Sem Value) (pins : List (Addr × Obj)) (s : Shared), Inv X pins σ H s → wpAny (model X.prog X.w) X.A (isTrue e X.env whole) (TP X pins σ Q) X.xe s
theorem pw_tOf {X : Cx} {e : Expr} : PW X e (twOf X e) := ⟨fun wh pins s _ _ _ I h => h wh pins s I⟩
theorem twOf_of {X : Cx} {e : Expr} {t : TT} (h : PW X e t) {σ : St} {H : Hp} {Q : Bool → Hp → Prop} (q : t σ H Q) : twOf X e σ H Q := fun wh pins s I => h.run wh pins s σ H Q I q
structure DW (C : Ct M) (e : Expr) (w : TW M) : Prop where
  run : ∀ (σ : St) (ρ : DEnv) (W : Wd M) (Q : Bool → Hp → Prop) (q : Bool → M.G → Prop), Sat C σ ρ W → (∀ b W', Go W W' → Wok C.X.K W' → q b W'.g → Q b W'.H) → w ρ W.g q → twOf C.X e σ W.H Q
/-- the truth of a datum that is a bool -/
def isB (d : D) (q : Bool → Prop) : Prop := match d with
  | .bl b => q b
  | _ => False
@[simp] def wB (w : EW M) : TW M := fun ρ g q => w ρ g fun d g' => isB d fun b => q b g'
theorem isB_elim {d : D} {q : Bool → Prop} (h : isB d q) : ∃ b, d = .bl b ∧ q b := by
  cases d <;> first | exact h.elim | exact ⟨_, rfl, h⟩
theorem Rp.bl_inv {K : PySem.W.Frag} {F : Hp} {R : List Addr} {v : V} {b : Bool} (r : Rp K F R v (.bl b)) : v = .bl b := by cases r; rfl
theorem RdP.bl_inv {K : PySem.W.Frag} {v : V} {b : Bool} (r : RdP K W v (.bl b)) : v = .bl b := by
  rcases r with r | ⟨_, _, _, _, e, _⟩
  · exact r.bl_inv
  · cases e
theorem RdP.int_inv {K : PySem.W.Frag} {v : V} {b : Int} (r : RdP K W v (.int b)) : v = .int b := by
  rcases r with r | ⟨_, _, _, _, e, _⟩
  · cases r; rfl
  · cases e
theorem RdP.non_inv {K : PySem.W.Frag} {v : V} (r : RdP K W v .non) : v = .non := by
  rcases r with r | ⟨_, _, _, _, e, _⟩
  · cases r; rfl
  · cases e
theorem RdP.str_inv {K : PySem.W.Frag} {v : V} {x : List Nat} (r : RdP K W v (.str x)) : ∃ z : Str, v = .str z ∧ z.cps.toList = x := by
  rcases r with r | ⟨_, _, _, _, e, _⟩
  · cases r with
    | str z _ h => exact ⟨z, rfl, h⟩
  · cases e
theorem RdP.lst_inv {K : PySem.W.Frag} {v : V} {ds : List D} (k : Wok K W) (r : RdP K W v (.lst ds)) : ∃ p vs, v = .ref p ∧ W.H p = some (.lst vs) ∧ p ∉ W.R ∧ RpA K W.F W.R vs ds := by
  rcases r with r | ⟨p, vs, es, e1, e2, h, n, r⟩
  · cases r with
    | lst h q => exact ⟨_, _, rfl, k.sub _ _ h, (fun z => by rw [k.rf _ z] at h; cases h), q⟩
  · cases e2
    exact ⟨p, vs, e1, h, n, r⟩
theorem RdP.tup_inv {K : PySem.W.Frag} {v : V} {ds : List D} (r : RdP K W v (.tup ds)) : ∃ p vs, v = .ref p ∧ SqT K W.F p vs ∧ RpA K W.F W.R vs ds := by
  rcases r with r | ⟨_, _, _, _, e, _⟩
  · cases r with
    | tup h q => exact ⟨_, _, rfl, h, q⟩
  · cases e
theorem dt_val (h : DE C e w) (he : ∀ whole, isTrue e C.X.env whole = (do let v ← whole; standAt e.pos; holding [v] (truthy v)) := by intro _; rfl) : DT C e (wB w) := ⟨fun σ ρ W Q q S hQ hw =>
  ttOf_of (pt_val pe_tOf he) (h.run σ ρ W _ _ S (fun v d W' g k r1 q1 => by
    obtain ⟨b, rfl, q2⟩ := isB_elim q1
    exact ⟨b, r1.bl_inv, hQ b W' g k q2⟩) hw)⟩
theorem dt_cmp {op : CmpOp} (ho : OpD C (compareOp op) r) (ha : DP C a wa) (hb : DP C b wb) (hm : behindInMarks op b = false) : DT C (.Compare a [op] [b] pos) (wB (wBin r wa wb)) := ⟨fun σ ρ W Q q S hQ hw => by
  obtain ⟨rr, hop, h⟩ := ho.run
  exact ttOf_of (pt_cmpR hop pe_tOf pe_tOf hm) (two_run (f := compareOp op) ha hb S (fun W1 x y d e g k r1 r2 q1 => h W1 x y d e _ _ k r1 r2 (fun v d' W' g' k' eg r' q' => by
    obtain ⟨c, rfl, q2⟩ := isB_elim q'
    exact ⟨c, r'.bl_inv, hQ c W' (g.trans g') k' (eg ▸ q2)⟩) q1) hw)⟩
variable {wt wu : TW M} {rest : List Expr}
@[simp] def wNot (w : TW M) : TW M := fun ρ g q => w ρ g fun b g' => q (!b) g'
@[simp] def wAnd (w u : TW M) : TW M := fun ρ g q => w ρ g fun b g' => if b = true then u ρ g' q else q false g'
@[simp] def wOr (w u : TW M) : TW M := fun ρ g q => w ρ g fun b g' => if b = true then q true g' else u ρ g' q
theorem dt_not (ha : DT C a wt) : DT C (.UnaryOp .Not a pos) (wNot wt) := ⟨fun σ ρ W Q q S hQ hw => ttOf_of (pt_not pt_tOf) (ha.run σ ρ W _ _ S (fun b W' g k q1 => hQ (!b) W' g k q1) hw)⟩
theorem DW.t (h : DW C e wt) : DT C e wt := ⟨fun σ ρ W Q q S hQ hw pins s I => h.run σ ρ W Q q S hQ hw _ pins s I⟩
theorem dw_and1 (ha : DT C a wt) : DW C (.BoolOp .And [a] pos) wt := ⟨fun σ ρ W Q q S hQ hw => twOf_of (pw_and1 pt_tOf) (ha.run σ ρ W Q q S hQ hw)⟩
theorem dw_or1 (ha : DT C a wt) : DW C (.BoolOp .Or [a] pos) wt := ⟨fun σ ρ W Q q S hQ hw => twOf_of (pw_or1 pt_tOf) (ha.run σ ρ W Q q S hQ hw)⟩
theorem dw_and (ha : DT C a wt) (hb : DW C (.BoolOp .And (b :: rest) pos) wu) : DW C (.BoolOp .And (a :: b :: rest) pos) (wAnd wt wu) := ⟨fun σ ρ W Q q S hQ hw => twOf_of (pw_and pt_tOf pw_tOf) (ha.run σ ρ W _ _ S (fun c W' g k q1 => by
  cases c with
  | true => exact iteT (hb.run σ ρ W' Q q (S.step g k) (fun d W2 g2 k2 q2 => hQ d W2 (g.trans g2) k2 q2) q1)
  | false => exact iteF (hQ false W' g k q1)) hw)⟩
theorem dw_or (ha : DT C a wt) (hb : DW C (.BoolOp .Or (b :: rest) pos) wu) : DW C (.BoolOp .Or (a :: b :: rest) pos) (wOr wt wu) := ⟨fun σ ρ W Q q S hQ hw => twOf_of (pw_or pt_tOf pw_tOf) (ha.run σ ρ W _ _ S (fun c W' g k q1 => by
  cases c with
  | true => exact iteT (hQ true W' g k q1)
  | false => exact iteF (hb.run σ ρ W' Q q (S.step g k) (fun d W2 g2 k2 q2 => hQ d W2 (g.trans g2) k2 q2) q1)) hw)⟩
/-- .. as values -/
@[simp] def wNotV (w : EW M) : EW M := fun ρ g q => w ρ g fun d g' => isB d fun b => q (.bl (!b)) g'
@[simp] def wAndV (w u : EW M) : EW M := fun ρ g q => w ρ g fun d g' => isB d fun b => if b = true then u ρ g' q else q (.bl false) g'
theorem de_not (ha : DE C a wa) : DE C (.UnaryOp .Not a pos) (wNotV wa) := ⟨fun σ ρ W Q q S hQ hw => tOf_of (pe_not pe_tOf) (ha.run σ ρ W _ _ S (fun v d W' g k r1 q1 => by
  obtain ⟨b, rfl, q2⟩ := isB_elim q1
  exact ⟨b, r1.bl_inv, hQ _ _ W' g k (.bl _) q2⟩) hw)⟩
theorem de_one {op : BoolOp} (ha : DE C a wa) : DE C (.BoolOp op [a] pos) wa := ⟨fun σ ρ W Q q S hQ hw => tOf_of (pe_one pe_tOf) (ha.run σ ρ W _ _ S hQ hw)⟩
theorem de_and (ha : DE C a wa) (hb : DE C (.BoolOp .And (b :: rest) pos) wb) : DE C (.BoolOp .And (a :: b :: rest) pos) (wAndV wa wb) := ⟨fun σ ρ W Q q S hQ hw => tOf_of (pe_and pe_tOf pe_tOf) (ha.run σ ρ W _ _ S (fun v d W' g k r1 q1 => by
  obtain ⟨c, rfl, q2⟩ := isB_elim q1
  refine ⟨c, r1.bl_inv, ?_⟩
  cases c with
  | true => exact iteT (hb.run σ ρ W' Q q (S.step g k) (fun v d W2 g2 k2 r2 q2 => hQ v d W2 (g.trans g2) k2 r2 q2) q2)
  | false => exact iteF (hQ _ _ W' g k (.bl _) q2)) hw)⟩
end
end DL
set_option Elab.async false
set_option linter.all false
set_option maxRecDepth 100000
set_option maxHeartbeats 1000000
namespace DL
open PySem L2

section
variable {M : Ghost} {C : Ct M} {W W1 W2 W' : Wd M} {σ : L2.St} {ρ : DEnv}
structure K3 (M : Ghost) where
  nx : DEnv → M.G → Prop
  rt : D → M.G → Prop
  bk : DEnv → M.G → Prop
  ct : DEnv → M.G → Prop
abbrev SW (M : Ghost) := K3 M → DEnv → M.G → Prop
/-- what is wanted by data is what is wanted by the heap -/
structure Lf (C : Ct M) (W : Wd M) (k : K3 M) (E : Ends) : Prop where
  nx : ∀ σ' ρ' W', Gs W W' → Sat C σ' ρ' W' → k.nx ρ' W'.g → E.nx σ' W'.H
  rt : ∀ v d W', Go C.W0 W' → Wok C.X.K W' → Rp C.X.K W'.F W'.R v d → k.rt d W'.g → E.rt v W'.H
  bk : ∀ σ' ρ' W', Gs W W' → Sat C σ' ρ' W' → k.bk ρ' W'.g → E.bk σ' W'.H
  ct : ∀ σ' ρ' W', Gs W W' → Sat C σ' ρ' W' → k.ct ρ' W'.g → E.ct σ' W'.H
theorem Lf.step {k : K3 M} {E : Ends} (l : Lf C W k E) (g : Gs W W1) : Lf C W1 k E :=
  ⟨fun σ' ρ' W' g' => l.nx σ' ρ' W' (g.trans g'), l.rt, fun σ' ρ' W' g' => l.bk σ' ρ' W' (g.trans g'), fun σ' ρ' W' g' => l.ct σ' ρ' W' (g.trans g')⟩
def tsOf (X : Cx) (st : Stmt) : TS := fun D σ H => ∀ (pins : List (Addr × Obj)) (s : Shared), Inv X pins σ H s → wpAny (model X.prog X.w) X.A (exec st X.env) (SP X pins D) X.xe s
theorem ps_tOf {X : Cx} {st : Stmt} : PS X st (tsOf X st) := ⟨fun pins s _ _ _ I h => h pins s I⟩
theorem tsOf_of {X : Cx} {st : Stmt} {t : TS} (h : PS X st t) {E : Ends} {H : Hp} (q : t E σ H) : tsOf X st E σ H := fun pins s I => h.run pins s σ H E I q
def tssOf (X : Cx) (st : List Stmt) : TS := fun D σ H => ∀ (pins : List (Addr × Obj)) (s : Shared), Inv X pins σ H s → wpAny (model X.prog X.w) X.A (execs st X.env) (SP X pins D) X.xe s
theorem pss_tOf {X : Cx} {st : List Stmt} : PSs X st (tssOf X st) := ⟨fun pins s _ _ _ I h => h pins s I⟩
theorem tssOf_of {X : Cx} {st : List Stmt} {t : TS} (h : PSs X st t) {E : Ends} {H : Hp} (q : t E σ H) : tssOf X st E σ H := fun pins s I => h.run pins s σ H E I q
structure DS (C : Ct M) (st : Stmt) (w : SW M) : Prop where
  run : ∀ (σ : L2.St) (ρ : DEnv) (W : Wd M) (k : K3 M) (E : Ends), Sat C σ ρ W → Lf C W k E → w k ρ W.g → tsOf C.X st E σ W.H
structure DSs (C : Ct M) (st : List Stmt) (w : SW M) : Prop where
  run : ∀ (σ : L2.St) (ρ : DEnv) (W : Wd M) (k : K3 M) (E : Ends), Sat C σ ρ W → Lf C W k E → w k ρ W.g → tssOf C.X st E σ W.H
variable {st : Stmt} {sts : List Stmt} {w u : SW M} {e : Expr} {we : EW M} {pos : Pos}
@[simp] def wNext : SW M := fun k ρ g => k.nx ρ g
@[simp] def wSeq (w u : SW M) : SW M := fun k ρ g => w { k with nx := u k } ρ g
theorem dss_nil : DSs C [] wNext := ⟨fun σ ρ W k E S l h => tssOf_of pss_nil (l.nx σ ρ W (Gs.refl W) S h)⟩
theorem dss_cons (h1 : DS C st w) (h2 : DSs C sts u) : DSs C (st :: sts) (wSeq w u) := ⟨fun σ ρ W k E S l h =>
  tssOf_of (pss_cons ps_tOf pss_tOf) (h1.run σ ρ W { k with nx := u k } _ S ⟨fun σ' ρ' W' g S' q => h2.run σ' ρ' W' k E S' (l.step g) q, l.rt, l.bk, l.ct⟩ h)⟩
theorem dss_one (h1 : DS C st w) : DSs C [st] w := ⟨fun σ ρ W k E S l h => tssOf_of (pss_one ps_tOf) (h1.run σ ρ W _ _ S l h)⟩
@[simp] def wRet (w : EW M) : SW M := fun k ρ g => w ρ g k.rt
theorem ds_ret (he : DE C e we) : DS C (.Return (some e) pos) (wRet we) := ⟨fun σ ρ W k E S l h =>
  tsOf_of (ps_ret pe_tOf) (he.run σ ρ W _ _ S (fun v d W' g ok r q => l.rt v d W' (S.go.trans g) ok r q) h)⟩
@[simp] def wIfS (c : TW M) (w u : SW M) : SW M := fun k ρ g => c ρ g fun b g' => if b = true then w k ρ g' else u k ρ g'
theorem ds_if {c : Expr} {a b : List Stmt} {wc : TW M} (hc : DT C c wc) (ha : DSs C a w) (hb : DSs C b u) : DS C (.If c a b pos) (wIfS wc w u) := ⟨fun σ ρ W k E S l h =>
  tsOf_of (ps_if pt_tOf pss_tOf pss_tOf) (hc.run σ ρ W _ _ S (fun b W' g ok q => by
    cases b with
    | true => exact iteT (ha.run σ ρ W' k E (S.step g ok) (l.step g.s) q)
    | false => exact iteF (hb.run σ ρ W' k E (S.step g ok) (l.step g.s) q)) h)⟩

theorem slOk_fresh (S : Sat C σ ρ W) (g : Go W W') {v : V} {s : Sl} (f : Fresh C.X.K W W' v s) : SlOk C W' s (some v) := by
  have old : ∀ p, W.H p = none → C.W0.H p = none := fun p h4 => by
    cases q : C.W0.H p with
    | none => rfl
    | some o => exact absurd h4 (S.go.live p (by rw [q]; simp))
  cases s with
  | no => trivial
  | im d => exact ⟨v, rfl, f⟩
  | own ds =>
    obtain ⟨p, vs, e, h1, h2, h3, h4, r⟩ := f
    exact ⟨p, vs, by rw [e], h1, h2, h3, old p h4, r⟩
  | odt ds =>
    obtain ⟨p, vs, e, h1, h2, h3, h4, r⟩ := f
    exact ⟨p, vs, by rw [e], h1, h2, h3, old p h4, r⟩
theorem own_live (S : Sat C σ ρ W) {m : Nat} {t : Sl} {p : Addr} (ow : t.isOwn = true) (e1 : ρ[m]? = some t) (e2 : σ[m]? = some (some (.ref p))) : W.H p ≠ none := by
  obtain ⟨o, h1, h2⟩ := S.sl m _ e1
  obtain ⟨q, u, h3, h4, _⟩ := h2.live ow
  rw [e2] at h1
  cases h1
  cases h3
  rw [h4]
  simp
/-- a value put into a slot that stands apart from the others -/
theorem Sat.puts (S : Sat C σ ρ W) {v : V} {s : Sl} (f : SlOk C W s (some v)) (i : Nat) (ap : ∀ p, s.isOwn = true → v = .ref p → ∀ (m : Nat) t, t.isOwn = true → m ≠ i → ρ[m]? = some t → σ[m]? ≠ some (some (.ref p))) :
    Sat C (σ.set i (some v)) (ρ.set i s) W := by
  refine ⟨S.ok, S.go, by rw [List.length_set, List.length_set, S.len], fun j t e => ?_, fun j l d1 d2 q e1 e2 w1 w2 e3 e4 => ?_, S.gs⟩
  · by_cases hij : i = j
    · subst hij
      have hlt : i < ρ.length := by
        have := (List.getElem?_eq_some_iff.mp e).1
        rwa [List.length_set] at this
      rw [List.getElem?_set_self hlt] at e
      cases e
      exact ⟨some v, List.getElem?_set_self (by rw [S.len]; exact hlt), f⟩
    · rw [List.getElem?_set_ne hij] at e
      obtain ⟨o, h1, h2⟩ := S.sl j t e
      exact ⟨o, by rw [List.getElem?_set_ne hij]; exact h1, h2⟩
  · have here : ∀ (m : Nat) d, i = m → (ρ.set i s)[m]? = some d → (σ.set i (some v))[m]? = some (some (.ref q)) → s = d ∧ v = .ref q := fun m d hm e1 e2 => by
      subst hm
      have hlt : i < ρ.length := by
        have := (List.getElem?_eq_some_iff.mp e1).1
        rwa [List.length_set] at this
      rw [List.getElem?_set_self hlt] at e1
      rw [List.getElem?_set_self (by rw [S.len]; exact hlt)] at e2
      exact ⟨Option.some.inj e1, Option.some.inj (Option.some.inj e2)⟩
    by_cases hj : i = j
    · by_cases hl : i = l
      · exact hj.symm.trans hl
      · obtain ⟨h1, h2⟩ := here j d1 hj e1 e3
        rw [List.getElem?_set_ne hl] at e2 e4
        exact absurd e4 (ap _ (h1 ▸ w1) h2 l d2 w2 (fun z => hl z.symm) e2)
    · by_cases hl : i = l
      · obtain ⟨h1, h2⟩ := here l d2 hl e2 e4
        rw [List.getElem?_set_ne hj] at e1 e3
        exact absurd e3 (ap _ (h1 ▸ w2) h2 j d1 w1 (fun z => hj z.symm) e1)
      · rw [List.getElem?_set_ne hj] at e1 e3
        rw [List.getElem?_set_ne hl] at e2 e4
        exact S.dis j l d1 d2 q e1 e2 w1 w2 e3 e4
theorem fresh_dead {K : PySem.W.Frag} {v : V} {s : Sl} {p : Addr} (f : Fresh K W W' v s) (ow : s.isOwn = true) (e : v = .ref p) : W.H p = none := by
  obtain ⟨p', u, e', h1, h2, h3, h4⟩ := f.live ow
  rw [e] at e'
  cases e'
  exact h4
theorem fresh_live {K : PySem.W.Frag} {v : V} {s : Sl} {p : Addr} (f : Fresh K W W' v s) (ow : s.isOwn = true) (e : v = .ref p) : W'.H p ≠ none := by
  obtain ⟨p', u, e', h1, h2, h3, h4⟩ := f.live ow
  rw [e] at e'
  cases e'
  rw [h1]
  simp
theorem Sat.set (S : Sat C σ ρ W) (g : Go W W') (ok : Wok C.X.K W') {v : V} {s : Sl} (f : Fresh C.X.K W W' v s) (i : Nat) : Sat C (σ.set i (some v)) (ρ.set i s) W' :=
  (S.step g ok).puts (slOk_fresh S g f) i fun p w1 e m t w2 _ e1 e2 => own_live S w2 e1 e2 (fresh_dead f w1 e)
@[simp] def wSet (i : Nat) (w : VW M) : SW M := fun k ρ g => w ρ g fun s g' => k.nx (ρ.set i s) g'
theorem ds_set {i : Nat} {x : Str} {pos' : Pos} {wv : VW M} (hN : C.X.N.Nodup) (hi : C.X.N[i]? = some x) (hx : Loc C.X.env.scope x) (he : DV C e wv) (hs : swapsWith e (some (.Name x pos')) pos.line C.X.env = pure false := by rfl)
    (hf : C.X.fn x = true ∨ C.X.env.scope.names.lookup x = some .local := by first | exact .inl rfl | exact .inr rfl | assumption) : DS C (.Assign [.Name x pos'] e pos) (wSet i wv) := ⟨fun σ ρ W k E S l h =>
  tsOf_of (ps_set hN hi hx pe_tOf hs hf) (he.run σ ρ W _ _ S (fun v s W' g ok f q => l.nx _ _ W' g.s (S.set g ok f i) q) h)⟩
/-- a thing of one's own, written -/
theorem Sat.writeG (S : Sat C σ ρ W) {i : Nat} {s0 s1 : Sl} {p : Addr} {u : HO} (e : ρ[i]? = some s0) (ow : s0.isOwn = true) (ow1 : s1.isOwn = true) (hp : σ[i]? = some (some (.ref p))) (f : W.F p = none → p ∉ W.R → C.W0.H p = none → SlOk C (W.put p u) s1 (some (.ref p))) :
    Sat C σ (ρ.set i s1) (W.put p u) ∧ Gs W (W.put p u) := by
  obtain ⟨o, h1, h2⟩ := S.sl i _ e
  obtain ⟨p', v, h2, h3, h4, h5, h6⟩ := h2.live ow
  rw [hp] at h1
  cases h1
  cases h2
  have hlt : i < ρ.length := (List.getElem?_eq_some_iff.mp e).1
  refine ⟨⟨S.ok.put h4 h5, S.go.put h6, by rw [List.length_set]; exact S.len, fun j t ej => ?_, fun j l d1 d2 q e1 e2 w1 w2 e3 e4 => ?_, S.gs.trans ⟨Same.refl _, fun _ _ h => h⟩⟩, Same.refl _, fun _ _ h => h⟩
  · by_cases hij : i = j
    · subst hij
      rw [List.getElem?_set_self hlt] at ej
      cases ej
      exact ⟨_, hp, f h4 h5 h6⟩
    · rw [List.getElem?_set_ne hij] at ej
      obtain ⟨o, q1, q2⟩ := S.sl j t ej
      refine ⟨o, q1, ?_⟩
      have ne : ∀ p2, t.isOwn = true → o = some (.ref p2) → upd W.H p u p2 = W.H p2 := fun p2 wt eo => upd_ne (fun z => hij (by subst z; exact S.dis i j _ _ p2 e ej ow wt hp (eo ▸ q1)))
      cases t with
      | no => trivial
      | im d => exact q2
      | own d2 =>
        obtain ⟨p2, v2, a1, a2, a3, a4, a5, a6⟩ := q2
        exact ⟨p2, v2, a1, (ne p2 rfl a1).trans a2, a3, a4, a5, a6⟩
      | odt d2 =>
        obtain ⟨p2, v2, a1, a2, a3, a4, a5, a6⟩ := q2
        exact ⟨p2, v2, a1, (ne p2 rfl a1).trans a2, a3, a4, a5, a6⟩
  · have back : ∀ (j : Nat) d, (ρ.set i s1)[j]? = some d → d.isOwn = true → ∃ d', ρ[j]? = some d' ∧ d'.isOwn = true := fun j d ej wd => by
      by_cases hij : i = j
      · subst hij; exact ⟨_, e, ow⟩
      · rw [List.getElem?_set_ne hij] at ej; exact ⟨_, ej, wd⟩
    obtain ⟨d1', e1', w1'⟩ := back j d1 e1 w1
    obtain ⟨d2', e2', w2'⟩ := back l d2 e2 w2
    exact S.dis j l _ _ q e1' e2' w1' w2' e3 e4
/-- a list of one's own, written -/
theorem Sat.write (S : Sat C σ ρ W) {i : Nat} {ds : List D} {p : Addr} {ws : List V} {es : List D} (e : ρ[i]? = some (.own ds)) (hp : σ[i]? = some (some (.ref p))) (r : RpA C.X.K W.F W.R ws es) :
    Sat C σ (ρ.set i (.own es)) (W.put p (.lst ws)) ∧ Gs W (W.put p (.lst ws)) :=
  S.writeG e rfl rfl hp fun h4 h5 h6 => ⟨p, ws, rfl, upd_same, h4, h5, h6, r⟩
/-- freezing a slot, where nothing is done -/
theorem Sat.frz (S : Sat C σ ρ W) {i : Nat} {ds : List D} (e : ρ[i]? = some (.own ds)) : ∃ W', W'.H = W.H ∧ W'.g = W.g ∧ Gs W W' ∧ Sat C σ (ρ.set i (.im (.lst ds))) W' := by
  obtain ⟨o, h1, p, vs, h2, h3, h4, h5, h6, r⟩ := S.sl i _ e
  subst h2
  have hlt : i < ρ.length := (List.getElem?_eq_some_iff.mp e).1
  have rr : ∀ {v d}, Rp C.X.K W.F W.R v d → Rp C.X.K (upd W.F p (.lst vs)) W.R v d := fun h => h.mono (same_new h4) fun _ _ z => z
  refine ⟨W.freeze p (.lst vs), rfl, rfl, ⟨same_new h4, fun _ _ h => h⟩, S.ok.freeze h3 h4 h5, Go.freeze S.go h4 h6, by rw [List.length_set]; exact S.len, fun j t ej => ?_, fun j l d1 d2 q e1 e2 w1 w2 e3 e4 => ?_, S.gs.trans ⟨same_new h4, fun _ _ h => h⟩⟩
  · by_cases hij : i = j
    · subst hij
      rw [List.getElem?_set_self hlt] at ej
      cases ej
      exact ⟨_, h1, .ref p, rfl, .lst upd_same (r.mono (same_new h4) fun _ _ z => z)⟩
    · rw [List.getElem?_set_ne hij] at ej
      obtain ⟨o, q1, q2⟩ := S.sl j t ej
      refine ⟨o, q1, ?_⟩
      have ne : ∀ p2, t.isOwn = true → o = some (.ref p2) → upd W.F p (.lst vs) p2 = W.F p2 := fun p2 wt eo => upd_ne (fun z => hij (by subst z; exact S.dis i j _ _ p2 e ej rfl wt h1 (eo ▸ q1)))
      cases t with
      | no => trivial
      | im d =>
        obtain ⟨v, a1, a2⟩ := q2
        exact ⟨v, a1, rr a2⟩
      | own d2 =>
        obtain ⟨p2, v2, a1, a2, a3, a4, a5, a6⟩ := q2
        exact ⟨p2, v2, a1, a2, (ne p2 rfl a1).trans a3, a4, a5, a6.mono (same_new h4) fun _ _ z => z⟩
      | odt d2 =>
        obtain ⟨p2, v2, a1, a2, a3, a4, a5, a6⟩ := q2
        exact ⟨p2, v2, a1, a2, (ne p2 rfl a1).trans a3, a4, a5, a6.mono (same_new h4) fun _ _ z => z⟩
  · have back : ∀ (j : Nat) d, (ρ.set i (.im (.lst ds)))[j]? = some d → d.isOwn = true → ρ[j]? = some d := fun j d ej wd => by
      by_cases hij : i = j
      · subst hij
        rw [List.getElem?_set_self hlt] at ej
        cases ej
        cases wd
      · rw [List.getElem?_set_ne hij] at ej; exact ej
    exact S.dis j l _ _ q (back j d1 e1 w1) (back l d2 e2 w2) w1 w2 e3 e4
@[simp] def wFrz (i : Nat) (w : SW M) : SW M := fun k ρ g => ∃ ds, ρ[i]? = some (.own ds) ∧ w k (ρ.set i (.im (.lst ds))) g
theorem dss_frz (i : Nat) (h : DSs C sts w) : DSs C sts (wFrz i w) := ⟨fun σ ρ W k E S l hw => by
  obtain ⟨ds, e, hw⟩ := hw
  obtain ⟨W', e1, e2, g, S'⟩ := S.frz e
  rw [← e1]
  exact h.run σ _ W' k E S' (l.step g) (by rw [e2]; exact hw)⟩

abbrev GW := D → DEnv → (DEnv → Prop) → Prop
abbrev GWs := List D → DEnv → (DEnv → Prop) → Prop
def tgOf (X : Cx) (tg : Expr) : TG := fun v σ H Q => ∀ (pins : List (Addr × Obj)) (s : Shared) (u : Value), Inv X pins σ H s → RelV v u →
  wpAny (model X.prog X.w) X.A (assign tg X.env u) (fun _ s' => ∃ σ' H', Inv X pins σ' H' s' ∧ Q σ' H') X.xe s
theorem pg_tOf {X : Cx} {tg : Expr} : PG X tg (tgOf X tg) := ⟨fun pins s _ _ _ u _ I r h => h pins s u I r⟩
theorem tgOf_of {X : Cx} {tg : Expr} {t : TG} (h : PG X tg t) {v : V} {H : Hp} {Q : L2.St → Hp → Prop} (q : t v σ H Q) : tgOf X tg v σ H Q := fun pins s u I r => h.run pins s σ H v u Q I r q
def tgsOf (X : Cx) (ts : List Expr) : TGs := fun vs σ H Q => ∀ (pins : List (Addr × Obj)) (s : Shared) (us : List Value), Inv X pins σ H s → Vals vs us →
  wpAny (model X.prog X.w) X.A (assignInOrder ((assignEach ts X.env).map (·.2)) us) (fun _ s' => ∃ σ' H', Inv X pins σ' H' s' ∧ Q σ' H') X.xe s
theorem pgs_tOf {X : Cx} {ts : List Expr} : PGs X ts (tgsOf X ts) := ⟨fun pins s _ _ _ us _ I r h => h pins s us I r⟩
theorem tgsOf_of {X : Cx} {ts : List Expr} {t : TGs} (h : PGs X ts t) {vs : List V} {H : Hp} {Q : L2.St → Hp → Prop} (q : t vs σ H Q) : tgsOf X ts vs σ H Q := fun pins s us I r => h.run pins s σ H vs us Q I r q
structure DG (C : Ct M) (is : List Nat) (tg : Expr) (w : GW) : Prop where
  run : ∀ (σ : L2.St) (ρ : DEnv) (W : Wd M) (v : V) (d : D) (Q : L2.St → Hp → Prop) (q : DEnv → Prop), Sat C σ ρ W → Rp C.X.K W.F W.R v d →
    (∀ σ' ρ', Sat C σ' ρ' W → σ'.length = σ.length → (∀ j, j ∉ is → σ'[j]? = σ[j]?) → q ρ' → Q σ' W.H) → w d ρ q → tgOf C.X tg v σ W.H Q
structure DGs (C : Ct M) (is : List Nat) (ts : List Expr) (w : GWs) : Prop where
  run : ∀ (σ : L2.St) (ρ : DEnv) (W : Wd M) (vs : List V) (ds : List D) (Q : L2.St → Hp → Prop) (q : DEnv → Prop), Sat C σ ρ W → RpA C.X.K W.F W.R vs ds →
    (∀ σ' ρ', Sat C σ' ρ' W → σ'.length = σ.length → (∀ j, j ∉ is → σ'[j]? = σ[j]?) → q ρ' → Q σ' W.H) → w ds ρ q → tgsOf C.X ts vs σ W.H Q
@[simp] def gwN (i : Nat) : GW := fun d ρ q => q (ρ.set i (.im d))
@[simp] def gwNil : GWs := fun ds ρ q => match ds with
  | [] => q ρ
  | _ => False
@[simp] def gwCons (w : GW) (u : GWs) : GWs := fun ds ρ q => match ds with
  | d :: ds => w d ρ fun ρ' => u ds ρ' q
  | [] => False
@[simp] def gwT (n : Nat) (u : GWs) : GW := fun d ρ q => match d with
  | .tup ds => ds.length = n ∧ u ds ρ q
  | _ => False
theorem dg_name {i : Nat} {x : Str} (h : PG C.X (.Name x pos) (gName i)) : DG C [i] (.Name x pos) (gwN i) := ⟨fun σ ρ W v d Q q S r hQ hw =>
  tgOf_of h (hQ _ _ (S.set (Go.refl W) S.ok (s := .im d) r i) (by simp) (fun j hj => by rw [List.getElem?_set_ne (by simpa using Ne.symm (by simpa using hj))]) hw)⟩
theorem dgs_nil : DGs C [] [] gwNil := ⟨fun σ ρ W vs ds Q q S r hQ hw => by
  cases ds with
  | nil =>
    cases r
    exact tgsOf_of pgs_nil ⟨rfl, hQ σ ρ S rfl (fun _ _ => rfl) hw⟩
  | cons d ds => exact hw.elim⟩
theorem dgs_cons {is js : List Nat} {tg : Expr} {ts : List Expr} {gw : GW} {gs : GWs} (h1 : DG C is tg gw) (h2 : DGs C js ts gs)
    (hs : (assignEach (tg :: ts) C.X.env).map (·.2) = assign tg C.X.env :: (assignEach ts C.X.env).map (·.2) := by rfl) : DGs C (is ++ js) (tg :: ts) (gwCons gw gs) := ⟨fun σ ρ W vs ds Q q S r hQ hw => by
  cases ds with
  | nil => exact hw.elim
  | cons d ds =>
    cases r with
    | cons r1 r2 =>
      refine tgsOf_of (pgs_cons pg_tOf pgs_tOf hs) ⟨_, _, rfl, h1.run σ ρ W _ d _ _ S r1 (fun σ' ρ' S' l1 k1 q1 => ?_) hw⟩
      refine h2.run σ' ρ' W _ ds _ _ S' r2 (fun σ2 ρ2 S2 l2 k2 q2 => hQ σ2 ρ2 S2 (l2.trans l1) (fun j hj => ?_) q2) q1
      rw [List.mem_append, not_or] at hj
      rw [k2 j hj.2, k1 j hj.1]⟩
theorem dg_tup {is : List Nat} {ts : List Expr} {kk n : Nat} {gs : GWs} (hc : C.X.calm = true) (h : DGs C is ts gs) (hn : (assignEach ts C.X.env).length = n := by rfl) (hst : (assignEach ts C.X.env).findIdx? (·.1) = none := by rfl) :
    DG C is (.Tuple ts kk pos) (gwT n gs) := ⟨fun σ ρ W v d Q q S r hQ hw => by
  cases d with
  | tup ds =>
    cases r with
    | tup hs r2 =>
      refine tgOf_of (pg_tup hc pgs_tOf hn hst) ⟨_, _, rfl, same_tup S.ok.sub hs, by rw [r2.length]; exact hw.1, h.run σ ρ W _ ds _ _ S r2 hQ hw.2⟩
  | _ => exact hw.elim⟩

structure WK (K : PySem.W.Frag) (Ws : Wd M) (J : It) (ds : List D) : Prop where
  go : ∀ (i : Nat) (W : Wd M) d, Gs Ws W → Wok K W → ds[i]? = some d → J.go i W.H ∧ ∀ x H', J.yld i W.H x H' → ∃ W', W'.H = H' ∧ Go W W' ∧ Wok K W' ∧ W'.g = W.g ∧ Rp K W'.F W'.R x d
  stop : ∀ (i : Nat) (W : Wd M), Gs Ws W → Wok K W → ds[i]? = none → J.stop i W.H
abbrev IW (M : Ghost) := DEnv → M.G → (List D → M.G → Prop) → Prop
def iOf (X : Cx) (tg iter : Expr) : TI := fun σ H R => ∀ (pins : List (Addr × Obj)) (s : Shared), Inv X pins σ H s →
  wpAny (model X.prog X.w) X.A (eval iter X.env) (fun v s1 => wpAny (model X.prog X.w) X.A (pyIter v) (PIE X pins σ tg R) X.xe s1) X.xe s
theorem pi_tOf {X : Cx} {tg iter : Expr} : PI X tg iter (iOf X tg iter) := ⟨fun pins s _ _ _ I h => h pins s I⟩
theorem iOf_of {X : Cx} {tg iter : Expr} {t : TI} (h : PI X tg iter t) {H : Hp} {R : It → Hp → Prop} (q : t σ H R) : iOf X tg iter σ H R := fun pins s I => h.run pins s σ H R I q
structure DI (C : Ct M) (tg iter : Expr) (w : IW M) : Prop where
  run : ∀ (σ : L2.St) (ρ : DEnv) (W : Wd M) (R : It → Hp → Prop) (q : List D → M.G → Prop), Sat C σ ρ W → (∀ J ds W', Go W W' → Wok C.X.K W' → WK C.X.K W' J ds → q ds W'.g → R J W'.H) → w ρ W.g q → iOf C.X tg iter σ W.H R
/-- a list, a tuple or a text that stands still -/
def itemsOf : D → Option (List D)
  | .lst ds => some ds
  | .tup ds => some ds
  | .str x => some (x.map fun c => .str [c])
  | _ => none
@[simp] def wItems (w : EW M) : IW M := fun ρ g q => w ρ g fun d g' => ∃ ds, itemsOf d = some ds ∧ q ds g'
def iSeq (K : PySem.W.Frag) (tl : TE) : TI := fun σ H R => tl σ H fun x H1 => (∃ a xs, x = .ref a ∧ SqL K H1 a xs ∧ R (Itl K a) H1) ∨ (∃ a xs, x = .ref a ∧ SqT K H1 a xs ∧ R (Itt K a) H1) ∨ (∃ z, x = .str z ∧ R (Its z) H1)
theorem pi_seq {X : Cx} {tg l : Expr} {tl : TE} (hl : PE X l tl) : PI X tg l (iSeq X.K tl) := by
  refine ⟨fun pins s σ H R I h => ?_⟩
  refine thn (hl.run pins s σ H _ I h) fun v s1 ⟨x, H1, I1, r1, q1⟩ => ?_
  rcases q1 with ⟨a, xs, rfl, hq, q⟩ | ⟨a, xs, rfl, hq, q⟩ | ⟨z, rfl, q⟩
  · cases r1
    obtain ⟨its, rv, p, hz⟩ := I1.list hq
    refine wpAny_pyIter_list p.isList ?_
    refine ⟨s1.heap.objs.size, [s1.heap.objs.size], _, _, H1, rfl, I1.kept (t' := s1.toks) fun b o e => Heap.get?_push_of_some _ e, turn_list a _, ⟨_, Heap.get?_push_size _ rfl, rfl, rfl⟩, fun b hb => ?_, q⟩
    have e : b = s1.heap.objs.size := by simpa using hb
    subst e
    exact I1.fpOk (Nat.le_refl _) (I1.hok.fresh (Nat.le_refl _))
  · cases r1
    obtain ⟨its, rv, p, hz⟩ := I1.tuple hq
    refine wpAny_pyIter_tuple (show s1.heap.IsTuple a its.toArray from p) ?_
    refine ⟨s1.heap.objs.size, [s1.heap.objs.size], _, _, H1, rfl, I1.kept (t' := s1.toks) fun b o e => Heap.get?_push_of_some _ e, turn_tuple a _, ⟨_, Heap.get?_push_size _ rfl, rfl, rfl⟩, fun b hb => ?_, q⟩
    have e : b = s1.heap.objs.size := by simpa using hb
    subst e
    exact I1.fpOk (Nat.le_refl _) (I1.hok.fresh (Nat.le_refl _))
  · obtain ⟨t, rfl⟩ := r1
    cases ha : z.cps.all (· < 128)
    · exact wpAny_pyIter_wide ha (pi_one (tk := s1.toks) I1 _ (turn_str _ z t "str_iterator" (.inr rfl)) ⟨_, Heap.get?_push_size _ rfl, rfl, rfl⟩ q)
    · exact wpAny_pyIter_ascii ha (pi_one (tk := s1.toks) I1 _ (turn_str _ z t "str_ascii_iterator" (.inl rfl)) ⟨_, Heap.get?_push_size _ rfl, rfl, rfl⟩ q)
theorem wk_lst {K : PySem.W.Frag} {a : Addr} {vs : List V} {ds : List D} (h : W.F a = some (.lst vs)) (r : RpA K W.F W.R vs ds) : WK K W (Itl K a) ds where
  go := fun i W1 d g k e => by
    obtain ⟨v, e1, e2⟩ := r.get' e
    have hl : SqL K W1.H a vs := .of (k.sub _ _ (g.sub _ _ h))
    refine ⟨⟨vs, v, hl, e1⟩, fun x H' y => ?_⟩
    obtain ⟨rfl, y⟩ := y
    have ex : x = v := Option.some.inj ((y _ hl).symm.trans e1)
    subst ex
    exact ⟨W1, rfl, Go.refl _, k, rfl, e2.gs g⟩
  stop := fun i W1 g k e => ⟨vs, .of (k.sub _ _ (g.sub _ _ h)), by rw [r.length]; exact List.getElem?_eq_none_iff.mp e⟩
theorem wk_tup {K : PySem.W.Frag} {a : Addr} {vs : List V} {ds : List D} (h : SqT K W.F a vs) (r : RpA K W.F W.R vs ds) : WK K W (Itt K a) ds where
  go := fun i W1 d g k e => by
    obtain ⟨v, e1, e2⟩ := r.get' e
    have hl : SqT K W1.H a vs := same_tup k.sub (same_tup g.sub h)
    refine ⟨⟨vs, v, hl, e1⟩, fun x H' y => ?_⟩
    obtain ⟨rfl, y⟩ := y
    have ex : x = v := Option.some.inj ((y _ hl).symm.trans e1)
    subst ex
    exact ⟨W1, rfl, Go.refl _, k, rfl, e2.gs g⟩
  stop := fun i W1 g k e => ⟨vs, same_tup k.sub (same_tup g.sub h), by rw [r.length]; exact List.getElem?_eq_none_iff.mp e⟩
theorem wk_str {K : PySem.W.Frag} {z : Str} : WK K W (Its z) (z.cps.toList.map fun c => .str [c]) where
  go := fun i W1 d g k e => by
    rw [List.getElem?_map] at e
    cases q : z.cps.toList[i]? with
    | none => rw [q] at e; cases e
    | some c =>
      rw [q] at e
      cases e
      have hi : i < z.cps.size := by
        have := (List.getElem?_eq_some_iff.mp q).1
        simpa using this
      refine ⟨hi, fun x H' y => ?_⟩
      obtain ⟨rfl, c', e1, rfl⟩ := y
      refine ⟨W1, rfl, Go.refl _, k, rfl, .str _ _ ?_⟩
      have : z.cps.toList[i]? = some c' := by simpa using e1
      rw [q] at this
      cases this
      rfl
  stop := fun i W1 g k e => by
    have := List.getElem?_eq_none_iff.mp e
    rw [List.length_map] at this
    show z.cps.size ≤ i
    simpa using this
theorem di_seq {tg : Expr} (he : DE C e we) : DI C tg e (wItems we) := ⟨fun σ ρ W R q S hR hw => iOf_of (pi_seq pe_tOf) (he.run σ ρ W _ _ S (fun v d W' g k r q1 => by
  obtain ⟨ds, e1, q1⟩ := q1
  cases d with
  | lst ds' =>
    cases e1
    cases r with
    | lst h r2 => exact .inl ⟨_, _, rfl, .of (k.sub _ _ h), hR _ _ W' g k (wk_lst h r2) q1⟩
  | tup ds' =>
    cases e1
    cases r with
    | tup h r2 => exact .inr (.inl ⟨_, _, rfl, same_tup k.sub h, hR _ _ W' g k (wk_tup h r2) q1⟩)
  | str x =>
    cases e1
    cases r with
    | str z _ h =>
      subst h
      exact .inr (.inr ⟨z, rfl, hR _ _ W' g k wk_str q1⟩)
  | _ => cases e1) hw)⟩

def forW (gw : GW) (wb : SW M) : List D → SW M
  | [], k => k.nx
  | d :: ds, k => fun ρ g => gw d ρ fun ρ' => wb { nx := forW gw wb ds k, rt := k.rt, bk := k.nx, ct := forW gw wb ds k } ρ' g
@[simp] def wFor (wi : IW M) (gw : GW) (wb : SW M) : SW M := fun k ρ g => wi ρ g fun ds g' => forW gw wb ds k ρ g'
theorem ds_for {tg iter : Expr} {body : List Stmt} {is : List Nat} {wi : IW M} {gw : GW} {wb : SW M} (hp : PassesOwn (model C.X.prog C.X.w) C.X.A C.X.env C.X.xe) (hc : C.X.calm = true) (hi : DI C tg iter wi) (hg : DG C is tg gw) (hb : DSs C body wb)
    (hs : ∀ x, foldedSetIterable iter C.X.env x = pure x := by intro _; rfl) : DS C (.For tg iter body [] pos) (wFor wi gw wb) := ⟨fun σ ρ W k E S l h => by
  refine tsOf_of (ps_for hp hc pi_tOf pg_tOf pss_tOf hs) (hi.run σ ρ W _ _ S (fun J ds W1 g1 k1 wk q1 => ?_) h)
  refine ⟨fun i m σ H => ∃ (ρ : DEnv) (W2 : Wd M), W2.H = H ∧ Sat C σ ρ W2 ∧ Gs W1 W2 ∧ m = ds.length - i ∧ forW gw wb (ds.drop i) k ρ W2.g, ⟨ds.length, ρ, W1, rfl, S.step g1 k1, Gs.refl _, rfl, q1⟩, ?_⟩
  rintro i m σ2 H2 ⟨ρ2, W2, rfl, S2, g2, rfl, q2⟩
  cases hd : ds[i]? with
  | none =>
    have e : ds.drop i = [] := List.drop_eq_nil_of_le (List.getElem?_eq_none_iff.mp hd)
    rw [e] at q2
    exact .inl ⟨wk.stop i W2 g2 S2.ok hd, l.nx σ2 ρ2 W2 (g1.s.trans g2) S2 q2⟩
  | some d =>
    obtain ⟨hlt, hd'⟩ := List.getElem?_eq_some_iff.mp hd
    have e : ds.drop i = d :: ds.drop (i + 1) := by rw [List.drop_eq_getElem_cons hlt, hd']
    rw [e] at q2
    obtain ⟨go, yld⟩ := wk.go i W2 d g2 S2.ok hd
    refine .inr ⟨go, fun σ H => ∃ (ρ : DEnv) (W3 : Wd M), W3.H = H ∧ Sat C σ ρ W3 ∧ Gs W1 W3 ∧ forW gw wb (ds.drop (i + 1)) k ρ W3.g, ?_, fun x H' y => ?_⟩
    · rintro σ' H' ⟨ρ3, W3, e3, S3, g3, q3⟩
      exact ⟨ds.length - (i + 1), by omega, ρ3, W3, e3, S3, g3, rfl, q3⟩
    · obtain ⟨W3, rfl, g3, k3, e3, r3⟩ := yld x H' y
      rw [← e3] at q2
      refine hg.run σ2 ρ2 W3 x d _ _ (S2.step g3 k3) r3 (fun σ4 ρ4 S4 _ _ q4 => ?_) q2
      have g13 : Gs W1 W3 := g2.trans g3.s
      have nx : ∀ σ' ρ' W', Gs W3 W' → Sat C σ' ρ' W' → forW gw wb (ds.drop (i + 1)) k ρ' W'.g → ∃ (ρ : DEnv) (W4 : Wd M), W4.H = W'.H ∧ Sat C σ' ρ W4 ∧ Gs W1 W4 ∧ forW gw wb (ds.drop (i + 1)) k ρ W4.g :=
        fun σ' ρ' W' g S' q => ⟨ρ', W', rfl, S', g13.trans g, q⟩
      exact hb.run σ4 ρ4 W3 { nx := forW gw wb (ds.drop (i + 1)) k, rt := k.rt, bk := k.nx, ct := forW gw wb (ds.drop (i + 1)) k } _ S4 ⟨nx, l.rt, fun σ' ρ' W' g S' q => l.nx σ' ρ' W' ((g1.s.trans g13).trans g) S' q, nx⟩ q4⟩

end
end DL
set_option Elab.async false
set_option linter.all false
set_option maxRecDepth 100000
set_option maxHeartbeats 1000000
namespace DL
open PySem L2
section
variable {M : Ghost} {C : Ct M} {W W1 W2 W' : Wd M} {σ : L2.St} {ρ : DEnv} {e : Expr} {es : List Expr} {we : EW M} {pos : Pos}

@[simp] def wipeD (ρ : DEnv) : List Nat → DEnv
  | [] => ρ
  | v :: vs => (wipeD ρ vs).set v .no
theorem Sat.setNo (S : Sat C σ ρ W) (i : Nat) : Sat C (σ.set i none) (ρ.set i .no) W := by
  refine ⟨S.ok, S.go, by rw [List.length_set, List.length_set, S.len], fun j t e => ?_, fun j l ds es p e1 e2 w1 w2 e3 e4 => ?_, S.gs⟩
  · by_cases hij : i = j
    · subst hij
      have hlt : i < ρ.length := by
        have := (List.getElem?_eq_some_iff.mp e).1
        rwa [List.length_set] at this
      rw [List.getElem?_set_self hlt] at e
      cases e
      exact ⟨none, by rw [List.getElem?_set_self (by rw [S.len]; exact hlt)], trivial⟩
    · rw [List.getElem?_set_ne hij] at e
      obtain ⟨o, h1, h2⟩ := S.sl j t e
      exact ⟨o, by rw [List.getElem?_set_ne hij]; exact h1, h2⟩
  · have nj : ∀ (j : Nat) d, (ρ.set i .no)[j]? = some d → d.isOwn = true → i ≠ j ∧ ρ[j]? = some d := fun j d e wd => by
      by_cases hij : i = j
      · subst hij
        have hlt : i < ρ.length := by
          have := (List.getElem?_eq_some_iff.mp e).1
          rwa [List.length_set] at this
        rw [List.getElem?_set_self hlt] at e
        cases e
        cases wd
      · rw [List.getElem?_set_ne hij] at e
        exact ⟨hij, e⟩
    obtain ⟨n1, e1'⟩ := nj j ds e1 w1
    obtain ⟨n2, e2'⟩ := nj l es e2 w2
    rw [List.getElem?_set_ne n1] at e3
    rw [List.getElem?_set_ne n2] at e4
    exact S.dis j l ds es p e1' e2' w1 w2 e3 e4
theorem Sat.wipe (S : Sat C σ ρ W) : ∀ vs : List Nat, Sat C (L2.wipe σ vs) (wipeD ρ vs) W
  | [] => S
  | v :: vs => (Sat.wipe S vs).setNo v
theorem wipe_in {σ : L2.St} {i : Nat} : ∀ {vs : List Nat}, i ∈ vs → (L2.wipe σ vs)[i]? = if i < σ.length then some none else none
  | [], h => by cases h
  | v :: vs, h => by
    unfold L2.wipe
    by_cases hi : v = i
    · subst hi
      by_cases hv : v < σ.length
      · rw [if_pos hv, List.getElem?_set_self (by rw [wipe_length]; exact hv)]
      · rw [if_neg hv, List.getElem?_eq_none (by rw [List.length_set, wipe_length]; omega)]
    · rw [List.getElem?_set_ne hi]
      exact wipe_in ((List.mem_cons.mp h).resolve_left fun z => hi z.symm)
theorem wipe_eq {σ σ' : L2.St} {vs : List Nat} (hl : σ'.length = σ.length) (h : ∀ j, j ∉ vs → σ'[j]? = σ[j]?) : L2.wipe σ' vs = L2.wipe σ vs := by
  refine List.ext_getElem? fun j => ?_
  by_cases hj : j ∈ vs
  · rw [wipe_in hj, wipe_in hj, hl]
  · rw [wipe_out hj, wipe_out hj, h j hj]
abbrev Ct.blk (C : Ct M) (s : Shared) (H : Hp) (scope : Scope) (cenv : Env) (fp : List Addr) : Ct M := ⟨C.X.blk s H scope cenv fp, C.W0, fun _ _ _ => False, C.B⟩
abbrev Ct.bk (C : Ct M) (s : Shared) (H : Hp) (scope : Scope) (cl : List (Str × Addr)) (Cc : Addr) (fp : List Addr) : Ct M := C.blk s H scope (compEnvC scope cl Cc C.X.env) fp
theorem Sat.blk (S : Sat C σ ρ W) {s : Shared} {H : Hp} {scope : Scope} {cenv : Env} {fp : List Addr} : Sat (C.blk s H scope cenv fp) σ ρ W := ⟨S.ok, S.go, S.len, S.sl, S.dis, S.gs⟩
def ttsOf (X : Cx) (ifs : List Expr) : TT := fun σ H Q => ∀ (pins : List (Addr × Obj)) (s : Shared), Inv X pins σ H s →
  wpAny (model X.prog X.w) X.A (forIn ifs true fun c r => if r = true then do let ok ← isTrue c X.env (eval c X.env); pure (ForInStep.yield ok) else pure (ForInStep.yield r)) (TP X pins σ Q) X.xe s
structure DTs (C : Ct M) (ifs : List Expr) (w : TW M) : Prop where
  run : ∀ (σ : L2.St) (ρ : DEnv) (W : Wd M) (Q : Bool → Hp → Prop) (q : Bool → M.G → Prop), Sat C σ ρ W → (∀ b W', Go W W' → Wok C.X.K W' → q b W'.g → Q b W'.H) → w ρ W.g q → ttsOf C.X ifs σ W.H Q
@[simp] def wYes : TW M := fun _ g q => q true g
theorem dts_nil : DTs C [] wYes := ⟨fun σ ρ W Q q S hQ hw pins s I => pts_nil.run pins s σ W.H Q I (hQ true W (Go.refl W) S.ok hw)⟩
theorem dts_one {c : Expr} {wt : TW M} (h : DT C c wt) : DTs C [c] wt := ⟨fun σ ρ W Q q S hQ hw pins s I => (pts_one pt_tOf).run pins s σ W.H Q I (h.run σ ρ W Q q S hQ hw)⟩
def lcW (gw : GW) (wt : TW M) (we : EW M) (ρ : DEnv) : List D → M.G → (List D → M.G → Prop) → Prop
  | [], g, q => q [] g
  | d :: ds, g, q => gw d ρ fun ρ' => wt ρ' g fun b g1 => if b = true then we ρ' g1 fun y g2 => lcW gw wt we ρ ds g2 fun ys g3 => q (y :: ys) g3 else lcW gw wt we ρ ds g1 q
@[simp] def wLc (wi : IW M) (gw : GW) (wt : TW M) (we : EW M) (vs : List Nat) : NW M := fun ρ g q => wi ρ g fun ds g' => ds.length ≤ sizeLine ∧ lcW gw wt we (wipeD ρ vs) ds g' q
theorem lcW_mono {gw : GW} {wt : TW M} {ds : List D} {g : M.G} {q q' : List D → M.G → Prop} (h : lcW gw wt we ρ ds g q) (e : q = q') : lcW gw wt we ρ ds g q' := e ▸ h
section
variable {elt tg iter : Expr} {ifs : List Expr} {scope : Scope} {own : List (Str × Nat)} {wi : IW M} {gw : GW} {wt : TW M} {is : List Nat}
def teB (C : Ct M) (scope : Scope) (e : Expr) : TE := fun σ H Q => ∀ s H0 Cc cl fp, tOf (C.X.blk s H0 scope (compEnvC scope cl Cc C.X.env) fp) e σ H Q
def ttB (C : Ct M) (scope : Scope) (e : List Expr) : TT := fun σ H Q => ∀ s H0 Cc cl fp, ttsOf (C.X.blk s H0 scope (compEnvC scope cl Cc C.X.env) fp) e σ H Q
def tgB (C : Ct M) (scope : Scope) (e : Expr) : TG := fun v σ H Q => ∀ s H0 Cc cl fp, tgOf (C.X.blk s H0 scope (compEnvC scope cl Cc C.X.env) fp) e v σ H Q
structure DIg (C : Ct M) (ti : TI) (w : IW M) : Prop where
  run : ∀ (σ : L2.St) (ρ : DEnv) (W : Wd M) (R : It → Hp → Prop) (q : List D → M.G → Prop), Sat C σ ρ W → (∀ J ds W', Go W W' → Wok C.X.K W' → WK C.X.K W' J ds → q ds W'.g → R J W'.H) → w ρ W.g q → ti σ W.H R
theorem lc_run {ti : TI} (hi : DIg C ti wi) (hvs : ∀ j ∈ is, j ∈ own.map (·.2)) (hg : ∀ s H Cc cl fp, DG (C.bk s H scope cl Cc fp) is tg gw) (ht : ∀ s H Cc cl fp, DTs (C.bk s H scope cl Cc fp) ifs wt)
    (he : ∀ s H Cc cl fp, DE (C.bk s H scope cl Cc fp) elt we) {Q : VK} {q : List D → M.G → Prop} (S : Sat C σ ρ W)
    (hQ : ∀ p vs ds W', Go W W' → Wok C.X.K W' → W'.H p = some (.lst vs) → W'.F p = none → p ∉ W'.R → W.H p = none → RpA C.X.K W'.F W'.R vs ds → q ds W'.g → Q (.ref p) W'.H)
    (hw : wLc wi gw wt we (own.map (·.2)) ρ W.g q) : tLc ti (tgB C scope tg) (ttB C scope ifs) (teB C scope elt) (own.map (·.2)) σ W.H Q := by
  refine hi.run σ ρ W _ _ S (fun J ds W1 g1 k1 wk q1 P hP => ?_) hw
  obtain ⟨hz, q1⟩ := q1
  have hP0 : W.H P = none := by
    cases z : W.H P with
    | none => rfl
    | some o => exact absurd hP (g1.live P (by rw [z]; simp))
  refine ⟨fun i m H => ∃ (W2 : Wd M) (acc : List V) (as : List D), W2.H = H ∧ Go W1 W2 ∧ Wok C.X.K W2 ∧ H P = some (.lst acc) ∧ W2.F P = none ∧ P ∉ W2.R ∧ RpA C.X.K W2.F W2.R acc as ∧ as.length ≤ i ∧ m = ds.length - i ∧
      lcW gw wt we (wipeD ρ (own.map (·.2))) (ds.drop i) W2.g fun ys g' => q (as ++ ys) g',
    ⟨ds.length, W1.new P (.lst []), [], [], rfl, Go.new k1 hP, k1.new hP, upd_same, k1.noF hP, k1.noR hP, .nil, Nat.zero_le _, rfl, q1⟩, ?_⟩
  rintro i m H ⟨W2, acc, as, rfl, g2, k2, h1, h2, h3, r, hl, rfl, q2⟩
  cases hd : ds[i]? with
  | none =>
    have e : ds.drop i = [] := List.drop_eq_nil_of_le (List.getElem?_eq_none_iff.mp hd)
    rw [e] at q2
    have q3 : q (as ++ []) W2.g := q2
    rw [List.append_nil] at q3
    exact .inl ⟨wk.stop i W2 g2.s k2 hd, hQ P acc as W2 (g1.trans g2) k2 h1 h2 h3 hP0 r q3⟩
  | some d =>
    obtain ⟨hlt, hd'⟩ := List.getElem?_eq_some_iff.mp hd
    have e : ds.drop i = d :: ds.drop (i + 1) := by rw [List.drop_eq_getElem_cons hlt, hd']
    rw [e] at q2
    obtain ⟨go, yld⟩ := wk.go i W2 d g2.s k2 hd
    refine .inr ⟨go, fun H => ∃ (W2 : Wd M) (acc : List V) (as : List D), W2.H = H ∧ Go W1 W2 ∧ Wok C.X.K W2 ∧ H P = some (.lst acc) ∧ W2.F P = none ∧ P ∉ W2.R ∧ RpA C.X.K W2.F W2.R acc as ∧ as.length ≤ i + 1 ∧
      lcW gw wt we (wipeD ρ (own.map (·.2))) (ds.drop (i + 1)) W2.g fun ys g' => q (as ++ ys) g', ?_, fun x H' y => ?_⟩
    · rintro H' ⟨W3, a3, d3, b1, b2, b3, b4, b5, b6, b7, b8, b9⟩
      exact ⟨ds.length - (i + 1), by omega, W3, a3, d3, b1, b2, b3, b4, b5, b6, b7, b8, rfl, b9⟩
    · obtain ⟨W3, rfl, g3, k3, e3, r3⟩ := yld x H' y
      rw [← e3] at q2
      have Sw : Sat C (L2.wipe σ (own.map (·.2))) (wipeD ρ (own.map (·.2))) W3 := (S.step ((g1.trans g2).trans g3) k3).wipe _
      -- the new list stays as it is
      have stay : ∀ {W4 : Wd M}, Go W2 W4 → W4.H P = some (.lst acc) ∧ W4.F P = none ∧ P ∉ W4.R := fun {W4} g => by
        refine ⟨g.keep _ _ h1 h3, ?_, g.notR (by rw [h1]; simp) h3⟩
        cases z : W4.F P with
        | none => rfl
        | some o =>
          rcases g.young P (by rw [z]; simp) with a | a
          · exact absurd h2 a
          · rw [h1] at a; cases a
      intro s0 H0 Cc cl fp
      refine (hg s0 H0 Cc cl fp).run _ _ W3 x d _ _ Sw.blk r3 (fun σ4 ρ4 S4 l4 n4 q4 => ⟨?_, fun s1 H1 Cc1 cl1 fp1 => ?_⟩) q2
      · rw [wipe_eq (σ := L2.wipe σ (own.map (·.2))) l4 fun j hj => n4 j fun z => hj (hvs j z)]
        exact wipe_eq (wipe_length _ _) fun j hj => wipe_out hj
      · refine (ht s1 H1 Cc1 cl1 fp1).run σ4 ρ4 W3 _ _ ⟨S4.ok, S4.go, S4.len, S4.sl, S4.dis, S4.gs⟩ (fun b W5 g5 k5 q5 => ?_) q4
        cases b with
        | false =>
          obtain ⟨a1, a2, a3⟩ := stay (g3.trans g5)
          exact iteF ⟨W5, acc, as, rfl, (g2.trans g3).trans g5, k5, a1, a2, a3, r.step (g3.trans g5), by omega, q5⟩
        | true =>
          refine iteT fun s2 H2 Cc2 cl2 fp2 => ?_
          have S5 := S4.step g5 k5
          refine (he s2 H2 Cc2 cl2 fp2).run σ4 ρ4 W5 _ _ ⟨S5.ok, S5.go, S5.len, S5.sl, S5.dis, S5.gs⟩ (fun v dy W6 g6 k6 r6 q6 => ?_) q5
          obtain ⟨a1, a2, a3⟩ := stay ((g3.trans g5).trans g6)
          refine ⟨acc, a1, by rw [r.length]; omega, W6.put P (.lst (acc ++ [v])), acc ++ [v], as ++ [dy], rfl, Go.put (((g2.trans g3).trans g5).trans g6) hP, k6.put a2 a3, upd_same, a2, a3,
            (r.step ((g3.trans g5).trans g6)).append (.cons r6 .nil), by rw [List.length_append, List.length_singleton]; omega, ?_⟩
          refine lcW_mono q6 ?_
          funext ys g'
          rw [List.append_assoc]
          rfl
theorem dn_lc (hc : C.X.calm = true) (hN : C.X.N.Nodup) (hi : DI C tg iter wi) (ok : BlkOk C.X.N C.X.env.scope scope own) (hvs : ∀ j ∈ is, j ∈ own.map (·.2)) (hg : ∀ s H Cc cl fp, DG (C.bk s H scope cl Cc fp) is tg gw)
    (ht : ∀ s H Cc cl fp, DTs (C.bk s H scope cl Cc fp) ifs wt) (he : ∀ s H Cc cl fp, DE (C.bk s H scope cl Cc fp) elt we) (hs : ∀ x, foldedSetIterable iter C.X.env x = pure x := by intro _; rfl) :
    DN C (.ListComp elt [⟨tg, iter, ifs, 0⟩] scope pos) (wLc wi gw wt we (own.map (·.2))) := ⟨fun σ ρ W Q q S hQ hw =>
  tOf_of (pe_lc (wi := iOf C.X tg iter) (g := tgB C scope tg) (tt := ttB C scope ifs) (te := teB C scope elt) hc hN pi_tOf ok (fun s H Cc cl fp => ⟨fun pins s' σ H' v u Q I r h => h s H Cc cl fp pins s' u I r⟩)
    (fun s H Cc cl fp => ⟨fun pins s' σ H' Q I h => h s H Cc cl fp pins s' I⟩) (fun s H Cc cl fp => ⟨fun pins s' σ H' Q I h => h s H Cc cl fp pins s' I⟩) hs) (lc_run ⟨hi.run⟩ hvs hg ht he S hQ hw)⟩
/-- .. frozen at once -/
theorem ds_setLcI {i : Nat} {y : Str} {py spos : Pos} (hc : C.X.calm = true) (hN : C.X.N.Nodup) (hy : C.X.N[i]? = some y) (hyl : C.X.env.scope.names.lookup y = some .local)
    (hsw : swapsWith (.ListComp elt [⟨tg, iter, ifs, 0⟩] scope pos) (some (.Name y py)) spos.line C.X.env = pure true) (hi : DI C tg iter wi) (ok : BlkOk C.X.N C.X.env.scope scope own) (hvs : ∀ j ∈ is, j ∈ own.map (·.2)) (hg : ∀ s H Cc cl fp, DG (C.bk s H scope cl Cc fp) is tg gw)
    (ht : ∀ s H Cc cl fp, DTs (C.bk s H scope cl Cc fp) ifs wt) (he : ∀ s H Cc cl fp, DE (C.bk s H scope cl Cc fp) elt we) (hs : ∀ x, foldedSetIterable iter C.X.env x = pure x := by intro _; rfl) :
    DS C (.Assign [.Name y py] (.ListComp elt [⟨tg, iter, ifs, 0⟩] scope pos) spos) (wSet i (wI (wL (wLc wi gw wt we (own.map (·.2)))))) := ⟨fun σ ρ W k E S l h =>
  tsOf_of (ps_setLc (wi := iOf C.X tg iter) (g := tgB C scope tg) (tt := ttB C scope ifs) (te := teB C scope elt) hc hN hy hyl hsw pi_tOf ok (fun s H Cc cl fp => ⟨fun pins s' σ H' v u Q I r h => h s H Cc cl fp pins s' u I r⟩)
    (fun s H Cc cl fp => ⟨fun pins s' σ H' Q I h => h s H Cc cl fp pins s' I⟩) (fun s H Cc cl fp => ⟨fun pins s' σ H' Q I h => h s H Cc cl fp pins s' I⟩) hs)
    (lc_run ⟨hi.run⟩ hvs hg ht he S (fun p vs ds W' g k' h1 h2 h3 h4 r q => by
      have S2 := S.set (Go.freeze g h2 h4) (k'.freeze h1 h2 h3) (s := .im (.lst ds)) (v := .ref p) (show Rp C.X.K (upd W'.F p (.lst vs)) W'.R (.ref p) (.lst ds) from .lst upd_same (r.mono (same_new h2) fun _ _ z => z)) i
      exact l.nx _ _ (W'.freeze p (.lst vs)) (Go.s (Go.freeze g h2 h4)) S2 q) h)⟩
end

abbrev AW (M : Ghost) := DEnv → M.G → (List D → M.G → Prop) → Prop
def aOf (X : Cx) (es : List Expr) : TA := fun σ H Q => ∀ (pos : Pos) (pins : List (Addr × Obj)) (s : Shared), Inv X pins σ H s → wpAny (model X.prog X.w) X.A (spliced (backTo pos (starEach es X.env))) (AP X pins σ Q) X.xe s
theorem pa_tOf {X : Cx} {es : List Expr} : PA X es (aOf X es) := ⟨fun pos pins s _ _ _ I h => h pos pins s I⟩
theorem aOf_of {X : Cx} {es : List Expr} {t : TA} (h : PA X es t) {H : Hp} {Q : List V → Hp → Prop} (q : t σ H Q) : aOf X es σ H Q := fun pos pins s I => h.run pos pins s σ H Q I q
structure DA (C : Ct M) (es : List Expr) (w : AW M) : Prop where
  run : ∀ (σ : L2.St) (ρ : DEnv) (W : Wd M) (Q : List V → Hp → Prop) (q : List D → M.G → Prop), Sat C σ ρ W → (∀ vs ds W', Go W W' → Wok C.X.K W' → RpA C.X.K W'.F W'.R vs ds → q ds W'.g → Q vs W'.H) → w ρ W.g q → aOf C.X es σ W.H Q
structure DAP (C : Ct M) (es : List Expr) (w : AW M) : Prop where
  run : ∀ (σ : L2.St) (ρ : DEnv) (W : Wd M) (Q : List V → Hp → Prop) (q : List D → M.G → Prop), Sat C σ ρ W → (∀ vs ds W', Go W W' → Wok C.X.K W' → Paired (RdP C.X.K W') vs ds → q ds W'.g → Q vs W'.H) → w ρ W.g q → aOf C.X es σ W.H Q
@[simp] def wANil : AW M := fun _ g q => q [] g
@[simp] def wACons (w : EW M) (u : AW M) : AW M := fun ρ g q => w ρ g fun d g1 => u ρ g1 fun ds g2 => q (d :: ds) g2
variable {wa : AW M}
theorem da_nil : DA C [] wANil := ⟨fun σ ρ W Q q S hQ hw => aOf_of pa_nil (hQ [] [] W (Go.refl W) S.ok .nil hw)⟩
theorem da_cons (he : DE C e we) (hr : DA C es wa) (hs : starEach (e :: es) C.X.env = (false, eval e C.X.env) :: starEach es C.X.env := by rfl) : DA C (e :: es) (wACons we wa) := ⟨fun σ ρ W Q q S hQ hw =>
  aOf_of (pa_cons pe_tOf pa_tOf hs) (he.run σ ρ W _ _ S (fun v d W1 g1 k1 r1 q1 => hr.run σ ρ W1 _ _ (S.step g1 k1) (fun vs ds W2 g2 k2 r2 q2 => hQ (v :: vs) (d :: ds) W2 (g1.trans g2) k2 (.cons (r1.step g2) r2) q2) q1) hw)⟩
theorem dap_nil : DAP C [] wANil := ⟨fun σ ρ W Q q S hQ hw => aOf_of pa_nil (hQ [] [] W (Go.refl W) S.ok .nil hw)⟩
theorem dap_cons (he : DP C e we) (hr : DAP C es wa) (hs : starEach (e :: es) C.X.env = (false, eval e C.X.env) :: starEach es C.X.env := by rfl) : DAP C (e :: es) (wACons we wa) := ⟨fun σ ρ W Q q S hQ hw =>
  aOf_of (pa_cons pe_tOf pa_tOf hs) (he.run σ ρ W _ _ S (fun v d W1 g1 k1 r1 q1 => hr.run σ ρ W1 _ _ (S.step g1 k1) (fun vs ds W2 g2 k2 r2 q2 => hQ (v :: vs) (d :: ds) W2 (g1.trans g2) k2 (.cons (r1.step g2) r2) q2) q1) hw)⟩

@[simp] def wTup (wa : AW M) : EW M := fun ρ g q => wa ρ g fun ds g' => ds.length ≤ sizeLine ∧ q (.tup ds) g'
theorem de_tup {kk : Nat} (ha : DA C es wa) : DE C (.Tuple es kk pos) (wTup wa) := ⟨fun σ ρ W Q q S hQ hw =>
  tOf_of (pe_tup pa_tOf) (ha.run σ ρ W _ _ S (fun vs ds W1 g1 k1 r1 q1 => ⟨by rw [r1.length]; exact q1.1, fun p hp => hQ (.ref p) (.tup ds) (W1.lay p (.tup vs)) (g1.trans (Go.lay k1 hp)) (k1.lay hp) (.tup (.of upd_same) (r1.mono (same_new (k1.noF hp)) fun _ _ z => z)) q1.2⟩) hw)⟩
@[simp] def wLst (wa : AW M) : NW M := fun ρ g q => wa ρ g fun ds g' => ds.length ≤ sizeLine ∧ q ds g'
theorem dn_lst (ha : DA C es wa) : DN C (.List es pos) (wLst wa) := ⟨fun σ ρ W Q q S hQ hw =>
  tOf_of (pe_lst pa_tOf) (ha.run σ ρ W _ _ S (fun vs ds W1 g1 k1 r1 q1 => ⟨by rw [r1.length]; exact q1.1, fun p hp => hQ p vs ds (W1.new p (.lst vs)) (g1.trans (Go.new k1 hp)) (k1.new hp) upd_same (k1.noF hp) (k1.noR hp) (by
    cases z : W.H p with
    | none => rfl
    | some o => exact absurd hp (g1.live p (by rw [z]; simp))) r1 q1.2⟩) hw)⟩

abbrev DSp (M : Ghost) := List D → M.G → (D → M.G → Prop) → (Exn → M.G → Prop) → Prop
/-- an exception by its class's name and its fields -/
def ExR (K : PySem.W.Frag) (W : Wd M) (x : Exn) (cls : Value) (d : Option Addr) : Prop :=
  PySem.W.nsIn K mainGlobals x.cls = some (some cls) ∧ (∃ C : Addr, cls = .ref C) ∧ ((x.ns = [] ∧ x.ds = [] ∧ d = none) ∨ ∃ dd vs, d = some dd ∧ W.F dd = some (.xd (x.ns.zip vs)) ∧ x.ns.length = vs.length ∧ RpA K W.F W.R vs x.ds)
def EXk (K : PySem.W.Frag) (W0 : Wd M) (ex : Exn → M.G → Prop) : XK := fun cls d H => ∃ x W', W'.H = H ∧ Go W0 W' ∧ Wok K W' ∧ ExR K W' x cls d ∧ ex x W'.g
/-- nothing is handled, or an exception that stands frozen and whose context is None -/
def HotF (A : Around) (F : Hp) : Prop := A.handled = none ∨ ∃ (a : Addr) (oe : Obj) (fv : Array Value), A.handled = some (.ref a) ∧ F a = some (.frz oe exU) ∧ oe.data = .fields fv ∧ fv[2]? = some .none
theorem HotF.mono {A : Around} {F F' : Hp} (h : HotF A F) (s : Same F F') : HotF A F' := by
  rcases h with h | ⟨a, oe, fv, h1, h2, h3, h4⟩
  · exact .inl h
  · exact .inr ⟨a, oe, fv, h1, s a _ h2, h3, h4⟩
def liftSp (K : PySem.W.Frag) (mg : Str → Option Value) (n : Nat) (sp : DSp M) : Sp := fun vs H Q E => ∃ (W : Wd M) (ds : List D) (q : D → M.G → Prop) (ex : Exn → M.G → Prop), W.H = H ∧ Wok K W ∧ RpA K W.F W.R vs ds ∧ ds.length = n ∧ sp ds W.g q ex ∧
  (∀ v d W', Go W W' → Wok K W' → Rp K W'.F W'.R v d → q d W'.g → Q v W'.H) ∧ ∀ cls d H', EXk K W ex cls d H' → E cls d H'
def liftSpH (K : PySem.W.Frag) (mg : Str → Option Value) (n : Nat) (sp : DSp M) (A : Around) : Sp := fun vs H Q E => ∃ (W : Wd M) (ds : List D) (q : D → M.G → Prop) (ex : Exn → M.G → Prop), W.H = H ∧ Wok K W ∧ RpA K W.F W.R vs ds ∧ ds.length = n ∧ sp ds W.g q ex ∧
  ((∀ v d W', Go W W' → Wok K W' → Rp K W'.F W'.R v d → q d W'.g → Q v W'.H) ∧ ∀ cls d H', EXk K W ex cls d H' → E cls d H') ∧ HotF A W.F
/-- what leaves the code is what is wished of exceptions, at the slots as they stand -/
def EXs (C : Ct M) (σ : L2.St) : XK := fun cls d H => ∃ x ρ W', W'.H = H ∧ Sat C σ ρ W' ∧ ExR C.X.K W' x cls d ∧ C.EX x ρ W'.g
def TakesD (C : Ct M) : Prop := L2N.Takes C.X fun cls d σ H => EXs C σ cls d H
abbrev xno : Exn → DEnv → M.G → Prop := fun _ _ _ => False
abbrev xk (ex : Exn → M.G → Prop) : Exn → DEnv → M.G → Prop := fun x _ g => ex x g
theorem takesD_blk {s : Shared} {H : Hp} {scope : Scope} {cenv : Env} {fp : List Addr} : TakesD (C.blk s H scope cenv fp) := fun u s' x => by
  obtain ⟨_, _, _, _, _, _, _, _, _, _, _, _, _, _, _, _, z⟩ := x
  obtain ⟨_, _, _, _, _, _, w⟩ := z
  exact w.elim
theorem ExR.step {K : PySem.W.Frag} {x : Exn} {cls : Value} {d : Option Addr} (h : ExR K W x cls d) (g : Go W W1) : ExR K W1 x cls d := by
  obtain ⟨h1, h2, h3⟩ := h
  refine ⟨h1, h2, ?_⟩
  rcases h3 with h3 | ⟨dd, vs, e1, e2, e3, e4⟩
  · exact .inl h3
  · exact .inr ⟨dd, vs, e1, g.sub _ _ e2, e3, e4.step g⟩
/-- a call's exception is the caller's -/
theorem exs_of {EX : Exn → M.G → Prop} {cls : Value} {d : Option Addr} {H : Hp} (S : Sat C σ ρ W) (hx : ∀ x g, EX x g → C.EX x ρ g) (h : EXk C.X.K W EX cls d H) : EXs C σ cls d H := by
  obtain ⟨x, W', h1, h2, h3, h4, h5⟩ := h
  exact ⟨x, ρ, W', h1, S.step h2 h3, h4, hx _ _ h5⟩
@[simp] def startD (N : List Str) (ds : List D) : DEnv := ds.map .im ++ List.replicate (N.length - ds.length) .no
theorem sat_start {N : List Str} {vs : List V} {ds : List D} (ok : Wok C.X.K W) (h0 : C.W0 = W) (hB : C.B = W) (r : RpA C.X.K W.F W.R vs ds) : Sat C (L2.start N vs) (startD N ds) W := by
  have hg : Gs C.B W := by rw [hB]; exact Gs.refl _
  subst h0
  refine ⟨ok, Go.refl _, ?_, fun i s e => ?_, fun i j s1 s2 p e1 e2 w1 w2 e3 e4 => ?_, hg⟩
  · unfold L2.start startD
    rw [List.length_append, List.length_append, List.length_map, List.length_map, List.length_replicate, List.length_replicate, r.length]
  · unfold startD at e
    by_cases hi : i < ds.length
    · rw [List.getElem?_append_left (by rw [List.length_map]; exact hi), List.getElem?_map] at e
      cases hd : ds[i]? with
      | none => rw [hd] at e; cases e
      | some d =>
        rw [hd] at e
        cases e
        obtain ⟨v, h1, h2⟩ := r.get' hd
        refine ⟨some v, ?_, v, rfl, h2⟩
        unfold L2.start
        rw [List.getElem?_append_left (by rw [List.length_map, r.length]; exact hi), List.getElem?_map, h1]
        rfl
    · rw [List.getElem?_append_right (by rw [List.length_map]; omega), List.length_map] at e
      obtain ⟨hlt, e'⟩ := List.getElem?_eq_some_iff.mp e
      rw [List.getElem_replicate] at e'
      subst e'
      rw [List.length_replicate] at hlt
      refine ⟨none, ?_, trivial⟩
      unfold L2.start
      rw [List.getElem?_append_right (by rw [List.length_map, r.length]; omega), List.length_map, r.length, List.getElem?_replicate, if_pos hlt]
  · exfalso
    unfold startD at e1
    by_cases hi : i < ds.length
    · rw [List.getElem?_append_left (by rw [List.length_map]; exact hi), List.getElem?_map] at e1
      cases hd : ds[i]? with
      | none => rw [hd] at e1; cases e1
      | some d => rw [hd] at e1; cases e1; cases w1
    · rw [List.getElem?_append_right (by rw [List.length_map]; omega), List.length_map] at e1
      obtain ⟨hlt, e'⟩ := List.getElem?_eq_some_iff.mp e1
      rw [List.getElem_replicate] at e'
      subst e'
      cases w1
end
end DL
set_option Elab.async false
set_option linter.all false
set_option maxRecDepth 100000
set_option maxHeartbeats 1000000
namespace DL
open PySem L2
/-- as the layer's promise of a def, under no guard -/
structure FnG (P : Program) (w : World) (K : PySem.W.Frag) (mg : Str → Option Value) (base : Heap) (k : Nat) (f : Addr) (fd : FuncData) (ps : List Str) (sp : Sp) : Prop where
  len : ∀ xs H Q E, sp xs H Q E → xs.length = ps.length
  run : ∀ (A : Around) (fr : List Env) (s : Shared) (H : Hp) (as : Args) (us : List Value) (xs : List V) (Q : VK) (E : XK), Room k A → A.guards = some [] →
    Env0 P w K mg base A fr s H → BindsTo s fd as (ps.zip us) → Vals xs us → sp xs H Q E → codeAny (model P w) A (.call (.ref f) as) (CR (L2N.CX P w) fr P w H s Q E) s
section
variable {P : Program} {w : World} {K : PySem.W.Frag} {mg : Str → Option Value} {base : Heap}
theorem FnG.mono {j k : Nat} {f : Addr} {fd : FuncData} {ps : List Str} {sp : Sp} (F : FnG P w K mg base j f fd ps sp) (h : j ≤ k) : FnG P w K mg base k f fd ps sp :=
  ⟨F.len, fun A fr s H as us xs Q E room => F.run A fr s H as us xs Q E (room.mono h)⟩
theorem fng_of {x qual : Str} {st : Stmt} {f : Addr} {fd : FuncData} {N ps : List Str} {k : Nat} {sp : Sp} (F : Fun K x qual st f fd) (Sc : FnScope N ps (defScope st)) (len : ∀ xs H Q E, sp xs H Q E → xs.length = ps.length)
    (hb : ∀ (cdv : Value) (A : Around) (fr : List Env) (s : Shared) (H : Hp) (xs : List V) (Q : VK) (E : XK), Room k (A.deeper (PyProof.Rows.envOfC qual (defScope st) s.heap.objs.size f cdv)) → A.guards = some [] → sp xs H Q E →
      ∃ t, PSs (cxOf (L2N.CX P w) P w K mg base N qual (defScope st) f cdv A fr s H E) (defBody st) t ∧ t { nx := fun _ H' => Q .non H', rt := Q } (L2.start N xs) H) :
    FnG P w K mg base (k + 1) f fd ps sp := by
  obtain ⟨oc, od, kV, doc, pm, an, cdv, ct, osl, rfl, lk, hcd⟩ := F.ex
  refine ⟨len, fun A fr s H as us xs Q E room gd e0 bd rel want => ?_⟩
  have hlen := len _ _ _ _ want
  have kin : K.In s.heap := e0.mod.kin.keeps fun b o e => (e0.bs b o e).1
  have hk : ((ps.zip us).all fun y => (defScope st).names.lookup y.1 == some .local || (defScope st).names.lookup y.1 == some .cell) = true := by
    rw [List.all_eq_true]
    rintro ⟨n, v⟩ hm
    rcases Sc.par n (List.of_mem_zip hm).1 with q | q
    · rw [q]; rfl
    · rw [q]; rfl
  refine Att.call_fn kin (e0.mod.nolimit.keeps fun b o e => (e0.bs b o e).1) lk hcd room.depth bd hk (fun s1 inC => ?_) Sc.co Sc.gen Sc.kind
  obtain ⟨t, ht, hq⟩ := hb cdv A fr s H xs Q E (room.deeper _) gd want
  have inv := inv_start (CX := L2N.CX P w) (N := N) (E := E) Sc room.hd e0 hlen rel inC
  refine wpAny_mono (ht.run [] s1 _ H _ inv hq) (fun fl s2 hs => ?_) fun e s2 hs => hs
  have back : ∀ {σ2 : L2.St} {H2 : Hp} {v : V} {u : Value}, Inv (cxOf (L2N.CX P w) P w K mg base N qual (defScope st) f cdv A fr s H E) [] σ2 H2 s2 → RelV v u → Q v H2 → CE fr P w H s Q u s2 :=
    fun {σ2 H2 v u} J rv q => ⟨v, H2, J.os, J.bare, J.base, J.hok, rv, q⟩
  match fl, hs with
  | .ret u, ⟨v, σ2, H2, J, rv, q⟩ => exact back J rv q
  | .next, ⟨σ2, H2, J, q⟩ => exact back (v := .non) (u := .none) J rfl q
  | .brk, ⟨_, _, _, q⟩ => exact q.elim
  | .cont, ⟨_, _, _, q⟩ => exact q.elim
end
section
variable {X : Cx} {k : Nat} {f : Addr} {fd : FuncData} {ps : List Str} {sp : Sp} {E : L2.St → XK} {x : Str} {p pos : Pos} {e : Expr} {es : List Expr} {t : TA}
theorem run_fng {pins : List (Addr × Obj)} {σ : L2.St} {H : Hp} {s : Shared} {Q : VK} {us : List Value} {xs : List V} (F : FnG X.prog X.w X.K X.mg X.base k f fd ps sp) (gd : X.A.guards = some []) (room : Room k X.A) (hb : Binds X.K fd ps [])
    (hx : ∀ σ, PassesAt (L2N.CX X.prog X.w) X σ (E σ)) (I : Inv X pins σ H s) (rel : Vals xs us) (want : sp xs H Q (E σ)) : wpAny (model X.prog X.w) X.A (call (.ref f) us) (EP X pins σ Q) X.xe s := by
  have hl : (us ++ []).length = ps.length := by rw [List.append_nil, ← rel.length]; exact F.len _ _ _ _ want
  have bd := hb s us I.kIn hl
  rw [List.append_nil] at bd
  refine wpAny_call (codeAny_mono (F.run X.A X.stack s H ⟨us, []⟩ us xs Q (E σ) room gd I.env0 bd rel want) fun r s2 hq => ?_)
  match r, hq with
  | .error er, hq => exact hx σ pins H s er s2 I hq
  | .ok (.ret u), hq => exact I.after hq
  | .ok .next, hq => exact False.elim hq
  | .ok .brk, hq => exact False.elim hq
  | .ok .cont, hq => exact False.elim hq
def tCallG (sp : Sp) (E : L2.St → XK) (t : TA) : TE := fun σ H Q => t σ H fun xs H1 => sp xs H1 Q (E σ)
theorem pe_callG (F : FnG X.prog X.w X.K X.mg X.base k f fd ps sp) (gd : X.A.guards = some []) (room : Room k X.A) (hg : Gl X x) (hm : X.mg x = some (.ref f)) (hk : PySem.W.keepIn X.K (.ref f) = true) (hb : Binds X.K fd ps []) (hx : ∀ σ, PassesAt (L2N.CX X.prog X.w) X σ (E σ))
    (ha : PA X (e :: es) t) (hdb : (x == ("__debug__" : Str)) = false := by decide) (he : starEach (e :: es) X.env = (false, eval e X.env) :: starEach es X.env := by rfl) (hpl : (backTo pos (starEach es X.env)).any (·.1) = false := by rfl) :
    PE X (.Call (.Name x p) (e :: es) [] pos) (tCallG sp E t) := ⟨fun pins s σ H Q I h =>
  wpAny_Call_Name_kw (ld_glob I hg hm (PySem.W.callWith_K (h₀ := X.base) I.ok.mod.kin hk (thn (ha.run pos pins s σ H _ I h) fun us s1 ⟨xs, H1, I1, rel, want⟩ => ⟨I1.kIn, run_fng F gd room hb hx I1 rel want⟩) he hpl) hdb)⟩
end
theorem _root_.L2H.RoomH.units {k : Nat} {A : Around} (r : L2H.RoomH k A) : A.units + 64 < cLine := by have := r.un; omega

open L2H in
structure FnQ (P : Program) (w : World) (K : PySem.W.Frag) (mg : Str → Option Value) (base : Heap) (k : Nat) (f : Addr) (fd : FuncData) (ps : List Str) (sp : Around → Sp) : Prop where
  len : ∀ A xs H Q E, sp A xs H Q E → xs.length = ps.length
  run : ∀ (A : Around) (fr : List Env) (s : Shared) (H : Hp) (as : Args) (us : List Value) (xs : List V) (Q : VK) (E : XK), RoomH k A → A.guards = some [] →
    Env0 P w K mg base A fr s H → BindsTo s fd as (ps.zip us) → Vals xs us → sp A xs H Q E → codeAny (model P w) A (.call (.ref f) as) (CR (L2N.CX P w) fr P w H s Q E) s
section
open L2H
variable {P : Program} {w : World} {K : PySem.W.Frag} {mg : Str → Option Value} {base : Heap}
theorem FnQ.g {k : Nat} {f : Addr} {fd : FuncData} {ps : List Str} {sp : Around → Sp} {sp' : Sp} (F : FnQ P w K mg base k f fd ps sp) (hl : ∀ xs H Q E, sp' xs H Q E → xs.length = ps.length) (h : ∀ A xs H Q E, A.handled = none → sp' xs H Q E → sp A xs H Q E) : FnG P w K mg base k f fd ps sp' :=
  ⟨hl, fun A fr s H as us xs Q E room gd e0 bd rel want => F.run A fr s H as us xs Q E (roomH_of room) gd e0 bd rel (h A xs H Q E room.hd want)⟩
end
section
open L2H
variable {X : Cx} {k : Nat} {f : Addr} {fd : FuncData} {ps : List Str} {sp : Around → Sp} {E : L2.St → XK} {x : Str} {p pos : Pos} {e : Expr} {es : List Expr} {t : TA}
end
end DL
set_option Elab.async false
set_option linter.all false
set_option maxRecDepth 100000
set_option maxHeartbeats 1000000
namespace DL
open PySem L2
def S (x : List Nat) : Str := ⟨x.toArray⟩
theorem S_list (x : List Nat) : (S x).cps.toList = x := by simp [S]
theorem S_of (z : Str) : S z.cps.toList = z := by simp [S]
theorem str_len (z : Str) : z.length = z.cps.toList.length := by simp [Str.length]
theorem str_app (a b : Str) : (a ++ b).cps.toList = a.cps.toList ++ b.cps.toList := PySem.W.KT.app_list a b
section
variable {M : Ghost} {C : Ct M} {W W1 W2 W' : Wd M} {σ : L2.St} {ρ : DEnv} {e : Expr} {es : List Expr} {we : EW M} {pos : Pos}
theorem rp_str {K : PySem.W.Frag} {F : Hp} {R : List Addr} (z : Str) : Rp K F R (.str z) (.str z.cps.toList) := .str z _ rfl
theorem rp_strS {K : PySem.W.Frag} {F : Hp} {R : List Addr} (z : Str) {x : List Nat} (h : z.cps.toList = x) : Rp K F R (.str z) (.str x) := .str z _ h

def oAdd : D → D → (D → Prop) → Prop
  | .int i, .int j, q => q (.int (i + j))
  | .int i, .bl k, q => q (.int (i + PyProof.Rows.b2i k))
  | .str x, .str y, q => x.length + y.length ≤ sizeLine ∧ q (.str (x ++ y))
  | .tup x, .tup y, q => x.length + y.length ≤ sizeLine ∧ q (.tup (x ++ y))
  | _, _, _ => False
theorem opd_add : OpD C (binaryOp .Add) oAdd := by
  refine ⟨_, ((op_add.or op_add_ib).or op_add_str).or op_catA, fun W x y d e Q q k r1 r2 hQ h => ?_⟩
  cases d with
  | int i =>
    cases e with
    | int j => exact .inl (.inl (.inl ⟨i, j, r1.int_inv, r2.int_inv, hQ _ _ W (Go.refl W) k rfl (.int _) h⟩))
    | bl b => exact .inl (.inl (.inr ⟨i, b, r1.int_inv, r2.bl_inv, hQ _ _ W (Go.refl W) k rfl (.int _) h⟩))
    | _ => exact h.elim
  | str a =>
    cases e with
    | str b =>
      obtain ⟨z, rfl, rfl⟩ := r1.str_inv
      obtain ⟨z2, rfl, rfl⟩ := r2.str_inv
      exact .inl (.inr ⟨z, z2, rfl, rfl, by rw [str_len, str_len]; exact h.1, hQ _ _ W (Go.refl W) k rfl (rp_strS _ (str_app z z2)) h.2⟩)
    | _ => exact h.elim
  | tup a =>
    cases e with
    | tup b =>
      obtain ⟨p, vs, rfl, hs, ra⟩ := r1.tup_inv
      obtain ⟨p2, vs2, rfl, hs2, rb⟩ := r2.tup_inv
      refine .inr ⟨p, p2, vs, vs2, rfl, rfl, same_tup k.sub hs, same_tup k.sub hs2, by rw [ra.length, rb.length]; exact h.1, fun e => ?_, fun _ e => ?_, fun _ _ l hl => ?_⟩
      · subst e
        cases ra
        exact hQ _ _ W (Go.refl W) k rfl (.tup hs2 rb) h.2
      · subst e
        cases rb
        have hq := h.2
        rw [List.append_nil] at hq
        exact hQ _ _ W (Go.refl W) k rfl (.tup hs ra) hq
      · exact hQ _ _ (W.lay l (.tup (vs ++ vs2))) (Go.lay k hl) (k.lay hl) rfl (.tup (.of upd_same) ((ra.append rb).mono (same_new (k.noF hl)) fun _ _ z => z)) h.2
    | _ => exact h.elim
  | _ => exact h.elim
def oCat : D → D → (List D → Prop) → Prop
  | .lst x, .lst y, q => x.length + y.length ≤ sizeLine ∧ q (x ++ y)
  | _, _, _ => False
theorem opn_cat : OpN C (binaryOp .Add) oCat := by
  refine ⟨_, op_cat, fun W x y d e Q q k r1 r2 hQ h => ?_⟩
  cases d with
  | lst a =>
    cases e with
    | lst b =>
      obtain ⟨p, vs, rfl, hp, np, ra⟩ := r1.lst_inv k
      obtain ⟨p2, vs2, rfl, hp2, np2, rb⟩ := r2.lst_inv k
      exact ⟨p, p2, vs, vs2, rfl, rfl, hp, hp2, by rw [ra.length, rb.length]; exact h.1, fun l hl => hQ l _ _ (W.new l (.lst (vs ++ vs2))) (Go.new k hl) (k.new hl) rfl upd_same (k.noF hl) (k.noR hl) hl (ra.append rb) h.2⟩
    | _ => exact h.elim
  | _ => exact h.elim
def oSub : D → D → (D → Prop) → Prop
  | .int i, .int j, q => q (.int (i - j))
  | _, _, _ => False
theorem opd_sub : OpD C (binaryOp .Sub) oSub := by
  refine ⟨_, op_sub, fun W x y d e Q q k r1 r2 hQ h => ?_⟩
  cases d with
  | int i =>
    cases e with
    | int j => exact ⟨i, j, r1.int_inv, r2.int_inv, hQ _ _ W (Go.refl W) k rfl (.int _) h⟩
    | _ => exact h.elim
  | _ => exact h.elim
def oMul : D → D → (D → Prop) → Prop
  | .int i, .int j, q => CMul i j ∧ q (.int (i * j))
  | .str x, .int j, q => 0 ≤ j ∧ x.length * j.toNat ≤ sizeLine ∧ j ≤ 2 ^ 32 ∧ q (.str (List.replicate j.toNat x).flatten)
  | _, _, _ => False
def oRep : D → D → (List D → Prop) → Prop
  | .lst x, .int j, q => -(2 ^ 63) ≤ j ∧ j < 2 ^ 63 ∧ x.length * j.toNat ≤ sizeLine ∧ q (List.replicate j.toNat x).flatten
  | _, _, _ => False
theorem opn_rep : OpN C (binaryOp .Mult) oRep := by
  refine ⟨_, op_rep, fun W x y d e Q q k r1 r2 hQ h => ?_⟩
  cases d with
  | lst a =>
    cases e with
    | int j =>
      obtain ⟨p, vs, rfl, hp, np, ra⟩ := r1.lst_inv k
      exact ⟨p, j, vs, rfl, r2.int_inv, hp, h.1, h.2.1, by rw [ra.length]; exact h.2.2.1, fun l hl => hQ l _ _ (W.new l (.lst _)) (Go.new k hl) (k.new hl) rfl upd_same (k.noF hl) (k.noR hl) hl (ra.flat _) h.2.2.2⟩
    | _ => exact h.elim
  | _ => exact h.elim
/-- ints by ints -/
theorem opd_ii {f : Value → Value → Sem Value} {Cd : Int → Int → Prop} {g : Int → Int → V} {gd : Int → Int → D} (ho : OpR C.X f (rI Cd g)) (hg : ∀ F R i j, Rp C.X.K F R (g i j) (gd i j)) :
    OpD C f (fun d e q => match d, e with | .int i, .int j => Cd i j ∧ q (gd i j) | _, _ => False) := by
  refine ⟨_, ho, fun W x y d e Q q k r1 r2 hQ h => ?_⟩
  cases d with
  | int i =>
    cases e with
    | int j => exact ⟨i, j, r1.int_inv, r2.int_inv, h.1, hQ _ _ W (Go.refl W) k rfl (hg _ _ _ _) h.2⟩
    | _ => exact h.elim
  | _ => exact h.elim
def oDiv : D → D → (D → Prop) → Prop := fun d e q => match d, e with | .int i, .int j => CDiv i j ∧ q (.int (i / j)) | _, _ => False
def oMod : D → D → (D → Prop) → Prop := fun d e q => match d, e with | .int i, .int j => 0 < j ∧ q (.int (i % j)) | _, _ => False
theorem opd_mod : OpD C (binaryOp .Mod) oMod := opd_ii op_mod fun _ _ _ _ => .int _
def oPow : D → D → (D → Prop) → Prop := fun d e q => match d, e with | .int i, .int j => CPow i j ∧ q (.int (i ^ j.toNat)) | _, _ => False
def asI (d : D) (q : Int → Prop) : Prop := match d with
  | .int i => q i
  | _ => False
def oLt : D → D → (D → Prop) → Prop
  | .int i, .int j, q => q (.bl (decide (i < j)))
  | .str x, .str y, q => q (.bl (decide (x < y)))
  | _, _, _ => False
def oLe : D → D → (D → Prop) → Prop
  | .int i, .int j, q => q (.bl (decide (i ≤ j)))
  | .str x, .str y, q => q (.bl (!decide (y < x)))
  | _, _, _ => False
def oGt : D → D → (D → Prop) → Prop
  | .int i, .int j, q => q (.bl (decide (j < i)))
  | .str x, .str y, q => q (.bl (decide (y < x)))
  | _, _, _ => False
def oGe : D → D → (D → Prop) → Prop
  | .int i, .int j, q => q (.bl (decide (j ≤ i)))
  | .str x, .str y, q => q (.bl (!decide (x < y)))
  | _, _, _ => False
theorem opd_is {f : Value → Value → Sem Value} {gi : Int → Int → Bool} {gs : List Nat → List Nat → Bool} (h1 : OpR C.X f (rI0 fun i j => .bl (gi i j)))
    (h2 : OpR C.X f (fun x y H Q => ∃ i j, x = .str i ∧ y = .str j ∧ Q (.bl (gs i.cps.toList j.cps.toList)) H)) :
    OpD C f (fun d e q => match d, e with | .int i, .int j => q (.bl (gi i j)) | .str x, .str y => q (.bl (gs x y)) | _, _ => False) := by
  refine ⟨_, h1.or h2, fun W x y d e Q q k r1 r2 hQ h => ?_⟩
  cases d with
  | int i =>
    cases e with
    | int j => exact .inl ⟨i, j, r1.int_inv, r2.int_inv, hQ _ _ W (Go.refl W) k rfl (.bl _) h⟩
    | _ => exact h.elim
  | str a =>
    cases e with
    | str b =>
      obtain ⟨z, rfl, rfl⟩ := r1.str_inv
      obtain ⟨z2, rfl, rfl⟩ := r2.str_inv
      exact .inr ⟨z, z2, rfl, rfl, hQ _ _ W (Go.refl W) k rfl (.bl _) h⟩
    | _ => exact h.elim
  | _ => exact h.elim
theorem OpD.of_eq {f : Value → Value → Sem Value} {r r' : D → D → (D → Prop) → Prop} (h : OpD C f r) (e : ∀ x y q, r' x y q → r x y q) : OpD C f r' := by
  obtain ⟨rr, h1, h2⟩ := h.run
  exact ⟨rr, h1, fun W x y d e' Q q k r1 r2 hQ hr => h2 W x y d e' Q q k r1 r2 hQ (e _ _ _ hr)⟩
theorem opd_le : OpD C (compareOp .LtE) oLe := (opd_is (gi := fun i j => decide (i ≤ j)) (gs := fun x y => !decide (y < x)) op_le op_le_str).of_eq fun x y q h => by cases x <;> cases y <;> exact h
theorem opd_gt : OpD C (compareOp .Gt) oGt := (opd_is (gi := fun i j => decide (j < i)) (gs := fun x y => decide (y < x)) op_gt op_gt_str).of_eq fun x y q h => by cases x <;> cases y <;> exact h
mutual
def py : D → PyData
  | .non => .none
  | .bl b => .bool b
  | .int i => .int i
  | .str x => .str (S x)
  | .lst xs => .list (pyA xs)
  | .tup xs => .tuple (pyA xs)
  | .dic kvs => .dict (pyK kvs)
  | .ob _ => .none
  | .exn _ _ _ => .none
  | .tx _ => .none
  | .cl _ => .none
def pyA : List D → List PyData
  | [] => []
  | d :: ds => py d :: pyA ds
def pyK : List (Key × D) → List (PyData × PyData)
  | [] => []
  | (k, d) :: r => ((match k with | .inl i => .int i | .inr x => .str x), py d) :: pyK r
end
mutual
def pln : D → Bool
  | .lst xs => plnA xs
  | .tup xs => plnA xs
  | .dic kvs => plnK kvs
  | .ob _ => false
  | .exn _ _ _ => false
  | .tx _ => false
  | .cl _ => false
  | .non => true
  | .bl _ => true
  | .int _ => true
  | .str _ => true
def plnA : List D → Bool
  | [] => true
  | d :: ds => pln d && plnA ds
def plnK : List (Key × D) → Bool
  | [] => true
  | (_, d) :: r => pln d && plnK r
end
section
variable {K : PySem.W.Frag} {F H : Hp} {R : List Addr}
mutual
theorem rp_dp (s : Same F H) : ∀ {v : V} {d : D}, Rp K F R v d → (py d).canLay0 = true → pln d = true → Dp K H v (py d)
  | _, _, .non, _, _ => .non
  | _, _, .bl b, _, _ => .bl b
  | _, _, .int i, _, _ => .int i
  | _, _, .str z x h, _, _ => by subst h; rw [show py (.str z.cps.toList) = .str (S z.cps.toList) from rfl, S_of]; exact .str z
  | _, .lst ds, .lst h q, hc, hp => .lst (.of (s _ _ h)) (rpA_dp s q (by simpa [py, PyData.canLay0] using hc) (by simpa [pln] using hp))
  | _, .tup ds, .tup h q, hc, hp => .tup (same_tup s h) (rpA_dp s q (by simpa [py, PyData.canLay0] using hc) (by simpa [pln] using hp))
  | _, .dic ds, .dic h q, hc, _ => by simp [py, PyData.canLay0] at hc
  | _, .ob k, .ob h, _, hp => by simp [pln] at hp
  | _, .exn _ _ _, .exn0 _ _ _ _, _, hp => by simp [pln] at hp
  | _, .exn _ _ _, .exn _ _ _ _ _ _ _, _, hp => by simp [pln] at hp
  | _, .tx _, .tx _ _ _ _, _, hp => by simp [pln] at hp
  | _, .cl _, .cl _, _, hp => by simp [pln] at hp
theorem rpA_dp (s : Same F H) : ∀ {vs : List V} {ds : List D}, RpA K F R vs ds → PyData.canLayAll0 (pyA ds) = true → plnA ds = true → DpAll K H vs (pyA ds)
  | _, _, .nil, _, _ => .nil
  | _, d :: ds, .cons r t, hc, hp => by
    have h1 : (py d).canLay0 = true ∧ PyData.canLayAll0 (pyA ds) = true := by simpa [pyA, PyData.canLayAll0] using hc
    have h2 : pln d = true ∧ plnA ds = true := by simpa [plnA] using hp
    exact .cons (rp_dp s r h1.1 h2.1) (rpA_dp s t h1.2 h2.2)
end
end
theorem rdp_dp {K : PySem.W.Frag} (k : Wok K W) {v : V} {d : D} (h : RdP K W v d) (hc : (py d).canLay0 = true) (hp : pln d = true) : Dp K W.H v (py d) := by
  rcases h with h | ⟨p, vs, ds, rfl, rfl, h, n, r⟩
  · exact rp_dp k.sub h hc hp
  · exact .lst (.of h) (rpA_dp k.sub r (by simpa [py, PyData.canLay0] using hc) (by simpa [pln] using hp))
/-- == of data -/
def deq (d e : D) : Bool := PyData.eqv (py d) (py e)
def shp (d : D) : Bool := SeqAt.shaped (py d) && pln d
def oEqB (f : Bool → Bool) : D → D → (D → Prop) → Prop
  | .int i, .int j, q => q (.bl (f (decide (i = j))))
  | .str x, .str y, q => q (.bl (f (decide (x = y))))
  | .bl x, .bl y, q => q (.bl (f (decide (x = y))))
  | d, e, q => shp d = true ∧ shp e = true ∧ q (.bl (f (deq d e)))
def oEq := oEqB id
def oNe := oEqB not
theorem str_dec (z z2 : Str) : decide (V.str z = V.str z2) = decide (z.cps.toList = z2.cps.toList) := by
  refine decide_eq_decide.mpr ⟨fun h => by cases h; rfl, fun h => ?_⟩
  obtain ⟨a⟩ := z
  obtain ⟨b⟩ := z2
  rw [show a = b from Array.toList_inj.mp h]
theorem oEqB_cases {f : Bool → Bool} {d e : D} {q : D → Prop} (h : oEqB f d e q) : (∃ i j, d = .int i ∧ e = .int j ∧ q (.bl (f (decide (i = j))))) ∨ (∃ i j, d = .str i ∧ e = .str j ∧ q (.bl (f (decide (i = j))))) ∨ (∃ i j, d = .bl i ∧ e = .bl j ∧ q (.bl (f (decide (i = j))))) ∨
    (shp d = true ∧ shp e = true ∧ q (.bl (f (deq d e)))) := by
  cases d <;> cases e <;> first | exact .inl ⟨_, _, rfl, rfl, h⟩ | exact .inr (.inl ⟨_, _, rfl, rfl, h⟩) | exact .inr (.inr (.inl ⟨_, _, rfl, rfl, h⟩)) | exact .inr (.inr (.inr h))
theorem shp_and {d : D} (h : shp d = true) : SeqAt.shaped (py d) = true ∧ pln d = true := by simpa [shp] using h
theorem opd_eqB {f : Bool → Bool} {g : Value → Value → Sem Value} (h1 : OpR C.X g (fun x y H Q => scal x y = true ∧ Q (.bl (f (decide (x = y)))) H)) (h2 : OpR C.X g (fun x y H Q => ∃ d e, Dp C.X.K H x d ∧ Dp C.X.K H y e ∧ SeqAt.shaped d = true ∧ SeqAt.shaped e = true ∧ Q (.bl (f (PyData.eqv d e))) H)) :
    OpD C g (oEqB f) := by
  refine ⟨_, h1.or h2, fun W x y d e Q q k r1 r2 hQ h => ?_⟩
  rcases oEqB_cases h with ⟨i, j, rfl, rfl, h⟩ | ⟨i, j, rfl, rfl, h⟩ | ⟨i, j, rfl, rfl, h⟩ | ⟨a, b, h⟩
  · have e1 := r1.int_inv
    have e2 := r2.int_inv
    subst e1 e2
    refine .inl ⟨rfl, hQ _ _ W (Go.refl W) k rfl (.bl _) ?_⟩
    rw [dec_int, Bool.beq_eq_decide_eq]
    exact h
  · obtain ⟨z, rfl, rfl⟩ := r1.str_inv
    obtain ⟨z2, rfl, rfl⟩ := r2.str_inv
    refine .inl ⟨rfl, hQ _ _ W (Go.refl W) k rfl (.bl _) ?_⟩
    rw [str_dec]
    exact h
  · have e1 := r1.bl_inv
    have e2 := r2.bl_inv
    subst e1 e2
    refine .inl ⟨rfl, hQ _ _ W (Go.refl W) k rfl (.bl _) ?_⟩
    rw [dec_bl, Bool.beq_eq_decide_eq]
    exact h
  · obtain ⟨a1, a2⟩ := shp_and a
    obtain ⟨b1, b2⟩ := shp_and b
    exact .inr ⟨py d, py e, rdp_dp k r1 (SeqAt.canLay_of_shaped a1) a2, rdp_dp k r2 (SeqAt.canLay_of_shaped b1) b2, a1, b1, hQ _ _ W (Go.refl W) k rfl (.bl _) h⟩
theorem opd_eq (hu : C.X.A.units + 64 < cLine) : OpD C (compareOp .Eq) oEq := opd_eqB op_eq (op_eqD hu)
theorem opd_ne (hu : C.X.A.units + 64 < cLine) : OpD C (compareOp .NotEq) oNe := opd_eqB op_ne (op_neD hu)
/-- is None -/
def isN : D → Bool
  | .non => true
  | _ => false
def oIsN : D → D → (D → Prop) → Prop := fun d e q => match e with | .non => q (.bl (isN d)) | _ => False
def oNotN : D → D → (D → Prop) → Prop := fun d e q => match e with | .non => q (.bl (!isN d)) | _ => False
theorem isN_of {K : PySem.W.Frag} {v : V} {d : D} (r : RdP K W v d) : decide (v = .non) = isN d := by
  rcases r with r | ⟨p, vs, ds, rfl, rfl, _⟩
  · cases r <;> rfl
  · rfl
theorem opd_isN : OpD C (compareOp .Is) oIsN := by
  refine ⟨_, op_isN, fun W x y d e Q q k r1 r2 hQ h => ?_⟩
  cases e with
  | non => exact ⟨r2.non_inv, hQ _ _ W (Go.refl W) k rfl (.bl _) (by rw [isN_of r1]; exact h)⟩
  | _ => exact h.elim
def oIx : D → D → (D → Prop) → Prop
  | .lst ds, .int i, q => ∃ d, atI ds i = some d ∧ q d
  | .tup ds, .int i, q => ∃ d, atI ds i = some d ∧ q d
  | .str x, .int i, q => x.length ≤ sizeLine ∧ ∃ c, atI x i = some c ∧ q (.str [c])
  | _, _, _ => False
theorem atI_get2 {K : PySem.W.Frag} {F : Hp} {R : List Addr} {vs : List V} {ds : List D} {i : Int} {d : D} (r : RpA K F R vs ds) (h : atI ds i = some d) : ∃ v, atI vs i = some v ∧ Rp K F R v d := by
  unfold atI at h ⊢
  rw [← r.length] at h
  cases hj : ixN vs.length i with
  | none => rw [hj] at h; cases h
  | some j =>
    rw [hj] at h
    exact r.get' h
variable {a b : Expr} {wa wb : EW M}
theorem de_ix (ha : DP C a wa) (hb : DP C b wb) (hs : PlainIx b) : DE C (.Subscript a b pos) (wBin oIx wa wb) := ⟨fun σ ρ W Q q S hQ hw =>
  tOf_of (pe_ix ix_seq pe_tOf pe_tOf hs) (two_run (f := fun _ _ => pure .none) ha hb S (fun W1 x y d e g k r1 r2 q1 => by
    cases d with
    | lst ds =>
      cases e with
      | int i =>
        obtain ⟨d, h1, q1⟩ := q1
        obtain ⟨p, vs, rfl, hp, np, ra⟩ := r1.lst_inv k
        obtain ⟨v, h2, h3⟩ := atI_get2 ra h1
        exact .inl ⟨p, vs, i, v, rfl, r2.int_inv, .of hp, h2, hQ v d W1 g k h3 q1⟩
      | _ => exact q1.elim
    | tup ds =>
      cases e with
      | int i =>
        obtain ⟨d, h1, q1⟩ := q1
        obtain ⟨p, vs, rfl, hp, ra⟩ := r1.tup_inv
        obtain ⟨v, h2, h3⟩ := atI_get2 ra h1
        exact .inr (.inl ⟨p, vs, i, v, rfl, r2.int_inv, same_tup k.sub hp, h2, hQ v d W1 g k h3 q1⟩)
      | _ => exact q1.elim
    | str x =>
      cases e with
      | int i =>
        obtain ⟨hz, c, h1, q1⟩ := q1
        obtain ⟨z, rfl, rfl⟩ := r1.str_inv
        exact .inr (.inr ⟨z, i, c, rfl, r2.int_inv, by rw [str_len]; exact hz, h1, hQ _ _ W1 g k (rp_strS _ rfl) q1⟩)
      | _ => exact q1.elim
    | _ => exact q1.elim) hw)⟩
abbrev OW (M : Ghost) := DEnv → M.G → (Option Int → M.G → Prop) → Prop
def oOf (X : Cx) (e : Option Expr) : TO := fun σ H Q => ∀ (pins : List (Addr × Obj)) (s : Shared), Inv X pins σ H s →
  wpAny (model X.prog X.w) X.A (evalPart e X.env) (fun u s' => ∃ o H', Inv X pins σ H' s' ∧ PySem.IsPart u o ∧ Q o H') X.xe s
theorem po_tOf {X : Cx} {e : Option Expr} : PO X e (oOf X e) := ⟨fun pins s _ _ _ I h => h pins s I⟩
structure DO (C : Ct M) (e : Option Expr) (w : OW M) : Prop where
  run : ∀ (σ : L2.St) (ρ : DEnv) (W : Wd M) (Q : Option Int → Hp → Prop) (q : Option Int → M.G → Prop), Sat C σ ρ W → (∀ o W', Go W W' → Wok C.X.K W' → q o W'.g → Q o W'.H) → w ρ W.g q → oOf C.X e σ W.H Q
@[simp] def wONone : OW M := fun _ g q => q none g
@[simp] def wOSome (w : EW M) : OW M := fun ρ g q => w ρ g fun d g' => asI d fun i => q (some i) g'
theorem do_none : DO C none wONone := ⟨fun σ ρ W Q q S hQ hw pins s I => po_none.run pins s σ W.H Q I (hQ none W (Go.refl W) S.ok hw)⟩
theorem do_some (he : DE C e we) : DO C (some e) (wOSome we) := ⟨fun σ ρ W Q q S hQ hw pins s I => (po_some pe_tOf).run pins s σ W.H Q I (he.run σ ρ W _ _ S (fun v d W' g k r q1 => by
  cases d with
  | int i => exact ⟨i, by cases r; rfl, hQ _ W' g k q1⟩
  | _ => exact q1.elim) hw)⟩
def cutL {α : Type} (xs : List α) (lo hi : Option Int) : List α := (xs.drop (HT.sIx xs.length 0 lo)).take (HT.sIx xs.length xs.length hi - HT.sIx xs.length 0 lo)
theorem RpA.cut {K : PySem.W.Frag} {F : Hp} {R : List Addr} {vs : List V} {ds : List D} (r : RpA K F R vs ds) (lo hi : Option Int) : RpA K F R (cutV vs lo hi) (cutL ds lo hi) := by
  unfold cutV cutL
  rw [r.length]
  exact (r.drop _).take _
theorem cut_all {α : Type} {xs : List α} {lo hi : Option Int} (h : HT.sIx xs.length 0 lo = 0 ∧ HT.sIx xs.length xs.length hi = xs.length) : cutL xs lo hi = xs := by
  unfold cutL
  rw [h.1, h.2]
  simp
def oSl : D → Option Int → Option Int → (D → Prop) → Prop
  | .str x, lo, hi, q => x.length ≤ sizeLine ∧ q (.str (cutL x lo hi))
  | .tup ds, lo, hi, q => q (.tup (cutL ds lo hi))
  | .lst ds, lo, hi, q => q (.lst (cutL ds lo hi))
  | _, _, _, _ => False
def oSlN : D → Option Int → Option Int → (List D → Prop) → Prop
  | .lst ds, lo, hi, q => q (cutL ds lo hi)
  | _, _, _, _ => False
@[simp] def wSl (w : EW M) (l h : OW M) : EW M := fun ρ g q => w ρ g fun d g1 => l ρ g1 fun lo g2 => h ρ g2 fun hi g3 => oSl d lo hi fun r => q r g3
@[simp] def wSlN (w : EW M) (l h : OW M) : NW M := fun ρ g q => w ρ g fun d g1 => l ρ g1 fun lo g2 => h ρ g2 fun hi g3 => oSlN d lo hi fun r => q r g3
variable {lo hi : Option Expr} {wl wh : OW M} {p2 : Pos}
theorem sl_run {rr : V → Option Int → Option Int → Hp → VK → Prop} (ha : DP C a wa) (hl : DO C lo wl) (hh : DO C hi wh) {Q : VK} {q : D → Option Int → Option Int → M.G → Prop} (S : Sat C σ ρ W)
    (h : ∀ W1 x d l u, Go W W1 → Wok C.X.K W1 → RdP C.X.K W1 x d → q d l u W1.g → rr x l u W1.H Q) (hw : wa ρ W.g fun d g1 => wl ρ g1 fun l g2 => wh ρ g2 fun u g3 => q d l u g3) :
    tSl rr (tOf C.X a) (oOf C.X lo) (oOf C.X hi) σ W.H Q :=
  ha.run σ ρ W _ _ S (fun v d W1 g1 k1 r1 q1 => hl.run σ ρ W1 _ _ (S.step g1 k1) (fun l W2 g2 k2 q2 => hh.run σ ρ W2 _ _ (S.step (g1.trans g2) k2) (fun u W3 g3 k3 q3 => h W3 v d l u ((g1.trans g2).trans g3) k3 ((r1.step g2).step g3) q3) q2) q1) hw
theorem de_slice (ha : DP C a wa) (hl : DO C lo wl) (hh : DO C hi wh) : DE C (.Subscript a (.Slice lo hi none p2) pos) (wSl wa wl wh) := ⟨fun σ ρ W Q q S hQ hw =>
  tOf_of (pe_slice ((sl_str.or sl_tupA).or sl_list) pe_tOf po_tOf po_tOf) (sl_run ha hl hh S (fun W1 x d l u g k r q1 => by
    cases d with
    | str y =>
      obtain ⟨z, rfl, rfl⟩ := r.str_inv
      refine .inl (.inl ⟨z, rfl, by rw [str_len]; exact q1.1, hQ _ _ W1 g k (rp_strS _ ?_) q1.2⟩)
      unfold cutS cutL
      rw [str_len]
    | tup ds =>
      obtain ⟨p, vs, rfl, hp, ra⟩ := r.tup_inv
      refine .inl (.inr ⟨p, vs, rfl, same_tup k.sub hp, fun hw => ?_, fun _ t ht => ?_⟩)
      · rw [ra.length] at hw
        rw [show oSl (.tup ds) l u (fun r => q r W1.g) = q (.tup (cutL ds l u)) W1.g from rfl, cut_all hw] at q1
        exact hQ _ _ W1 g k (.tup hp ra) q1
      · exact hQ _ _ (W1.lay t (.tup (cutV vs l u))) (g.trans (Go.lay k ht)) (k.lay ht) (.tup (.of upd_same) ((ra.cut l u).mono (same_new (k.noF ht)) fun _ _ z => z)) q1
    | lst ds =>
      obtain ⟨p, vs, rfl, hp, np, ra⟩ := r.lst_inv k
      exact .inr ⟨p, vs, rfl, .of hp, fun t ht => hQ _ _ (W1.lay t (.lst (cutV vs l u))) (g.trans (Go.lay k ht)) (k.lay ht) (.lst upd_same ((ra.cut l u).mono (same_new (k.noF ht)) fun _ _ z => z)) q1⟩
    | _ => exact q1.elim) hw)⟩
theorem nofresh (g : Go W W1) {p : Addr} (h : W1.H p = none) : W.H p = none := by
  cases z : W.H p with
  | none => rfl
  | some o => exact absurd h (g.live p (by rw [z]; simp))
theorem dn_slice (ha : DP C a wa) (hl : DO C lo wl) (hh : DO C hi wh) : DN C (.Subscript a (.Slice lo hi none p2) pos) (wSlN wa wl wh) := ⟨fun σ ρ W Q q S hQ hw =>
  tOf_of (pe_slice sl_list pe_tOf po_tOf po_tOf) (sl_run ha hl hh S (fun W1 x d l u g k r q1 => by
    cases d with
    | lst ds =>
      obtain ⟨p, vs, rfl, hp, np, ra⟩ := r.lst_inv k
      exact ⟨p, vs, rfl, .of hp, fun t ht => hQ t _ _ (W1.new t (.lst (cutV vs l u))) (g.trans (Go.new k ht)) (k.new ht) upd_same (k.noF ht) (k.noR ht) (nofresh g ht) (ra.cut l u) q1⟩
    | _ => exact q1.elim) hw)⟩

structure CallD (C : Ct M) (f : Value) (r : List D → (D → Prop) → Prop) : Prop where
  run : ∃ rr, CallR C.X f rr ∧ ∀ (W : Wd M) (vs : List V) (ds : List D) (Q : VK) (q : D → Prop), Wok C.X.K W → Paired (RdP C.X.K W) vs ds →
    (∀ v d' W', Go W W' → Wok C.X.K W' → W'.g = W.g → Rp C.X.K W'.F W'.R v d' → q d' → Q v W'.H) → r ds q → rr vs W.H Q
structure CallN (C : Ct M) (f : Value) (r : List D → (List D → Prop) → Prop) : Prop where
  run : ∃ rr, CallR C.X f rr ∧ ∀ (W : Wd M) (vs : List V) (ds : List D) (Q : VK) (q : List D → Prop), Wok C.X.K W → Paired (RdP C.X.K W) vs ds →
    (∀ p vs ds W', Go W W' → Wok C.X.K W' → W'.g = W.g → W'.H p = some (.lst vs) → W'.F p = none → p ∉ W'.R → W.H p = none → RpA C.X.K W'.F W'.R vs ds → q ds → Q (.ref p) W'.H) → r ds q → rr vs W.H Q
@[simp] def wCB (r : List D → (D → Prop) → Prop) (wa : AW M) : EW M := fun ρ g q => wa ρ g fun ds g' => r ds fun d => q d g'
@[simp] def wCN (r : List D → (List D → Prop) → Prop) (wa : AW M) : NW M := fun ρ g q => wa ρ g fun ds g' => r ds fun d => q d g'
variable {x : Str} {p : Pos} {id T : String} {r : List D → (D → Prop) → Prop} {rn : List D → (List D → Prop) → Prop} {wA : AW M}
theorem de_callB (hc : CallD C (.builtin id) r) (hg : Gl C.X x) (hm : C.X.mg x = none) (hv : bootBuiltins x = some (.builtin id)) (ha : DAP C (e :: es) wA) (hn : x ≠ "__name__" := by decide) (hdb : (x == ("__debug__" : Str)) = false := by decide)
    (he : starEach (e :: es) C.X.env = (false, eval e C.X.env) :: starEach es C.X.env := by rfl) (hpl : (backTo pos (starEach es C.X.env)).any (·.1) = false := by rfl) : DE C (.Call (.Name x p) (e :: es) [] pos) (wCB r wA) := ⟨fun σ ρ W Q q S hQ hw => by
  obtain ⟨rr, h1, h2⟩ := hc.run
  exact tOf_of (pe_callB h1 hg hm hv pa_tOf hn hdb he hpl) (ha.run σ ρ W _ _ S (fun vs ds W1 g1 k1 r1 q1 => h2 W1 vs ds Q _ k1 r1 (fun v d W2 g2 k2 eg r2 q2 => hQ v d W2 (g1.trans g2) k2 r2 (eg ▸ q2)) q1) hw)⟩
theorem de_callTy (hc : CallD C (.type T) r) (hg : Gl C.X x) (hm : C.X.mg x = none) (hv : bootBuiltins x = some (.type T)) (ha : DAP C (e :: es) wA) (hn : x ≠ "__name__" := by decide) (hdb : (x == ("__debug__" : Str)) = false := by decide)
    (he : starEach (e :: es) C.X.env = (false, eval e C.X.env) :: starEach es C.X.env := by rfl) (hpl : (backTo pos (starEach es C.X.env)).any (·.1) = false := by rfl) : DE C (.Call (.Name x p) (e :: es) [] pos) (wCB r wA) := ⟨fun σ ρ W Q q S hQ hw => by
  obtain ⟨rr, h1, h2⟩ := hc.run
  exact tOf_of (pe_callTy h1 hg hm hv pa_tOf hn hdb he hpl) (ha.run σ ρ W _ _ S (fun vs ds W1 g1 k1 r1 q1 => h2 W1 vs ds Q _ k1 r1 (fun v d W2 g2 k2 eg r2 q2 => hQ v d W2 (g1.trans g2) k2 r2 (eg ▸ q2)) q1) hw)⟩
theorem dn_callB (hc : CallN C (.builtin id) rn) (hg : Gl C.X x) (hm : C.X.mg x = none) (hv : bootBuiltins x = some (.builtin id)) (ha : DAP C (e :: es) wA) (hn : x ≠ "__name__" := by decide) (hdb : (x == ("__debug__" : Str)) = false := by decide)
    (he : starEach (e :: es) C.X.env = (false, eval e C.X.env) :: starEach es C.X.env := by rfl) (hpl : (backTo pos (starEach es C.X.env)).any (·.1) = false := by rfl) : DN C (.Call (.Name x p) (e :: es) [] pos) (wCN rn wA) := ⟨fun σ ρ W Q q S hQ hw => by
  obtain ⟨rr, h1, h2⟩ := hc.run
  exact tOf_of (pe_callB h1 hg hm hv pa_tOf hn hdb he hpl) (ha.run σ ρ W _ _ S (fun vs ds W1 g1 k1 r1 q1 => h2 W1 vs ds Q _ k1 r1 (fun p vs ds W2 g2 k2 eg a1 a2 a3 a4 r2 q2 => hQ p vs ds W2 (g1.trans g2) k2 a1 a2 a3 (nofresh g1 a4) r2 (eg ▸ q2)) q1) hw)⟩
def cLen : List D → (D → Prop) → Prop
  | [.str x], q => x.length ≤ sizeLine ∧ q (.int x.length)
  | [.lst ds], q => q (.int ds.length)
  | [.tup ds], q => q (.int ds.length)
  | _, _ => False
theorem pair1 {α β : Type} {P : α → β → Prop} {xs : List α} {y : β} (h : Paired P xs [y]) : ∃ x, xs = [x] ∧ P x y := by
  cases h with
  | cons a b => cases b; exact ⟨_, rfl, a⟩
theorem pair2 {α β : Type} {P : α → β → Prop} {xs : List α} {y z : β} (h : Paired P xs [y, z]) : ∃ x x', xs = [x, x'] ∧ P x y ∧ P x' z := by
  cases h with
  | cons a b => cases b with
    | cons c d => cases d; exact ⟨_, _, rfl, a, c⟩
theorem one_of {r : List D → (D → Prop) → Prop} {ds : List D} {q : D → Prop} (h : r ds q) (f : ∀ q, ¬ r [] q) (f2 : ∀ a b c q, ¬ r (a :: b :: c) q) : ∃ d, ds = [d] := by
  cases ds with
  | nil => exact absurd h (f q)
  | cons a t =>
    cases t with
    | nil => exact ⟨a, rfl⟩
    | cons b c => exact absurd h (f2 a b c q)
theorem calld_len : CallD C (.builtin "len") cLen := by
  refine ⟨_, call_len, fun W vs ds Q q k r hQ h => ?_⟩
  obtain ⟨d, rfl⟩ := one_of h (fun _ h => h) (fun a _ _ _ h => by cases a <;> exact h)
  obtain ⟨v, rfl, r0⟩ := pair1 r
  cases d with
  | str x =>
    obtain ⟨z, rfl, rfl⟩ := r0.str_inv
    refine ⟨_, z.length, rfl, ⟨by rw [str_len]; exact h.1, rfl⟩, hQ _ _ W (Go.refl W) k rfl (.int _) ?_⟩
    rw [str_len]
    exact h.2
  | lst ds =>
    obtain ⟨p, vs, rfl, hp, np, ra⟩ := r0.lst_inv k
    exact ⟨_, vs.length, rfl, .inl ⟨vs, .of hp, rfl⟩, hQ _ _ W (Go.refl W) k rfl (.int _) (by rw [ra.length]; exact h)⟩
  | tup ds =>
    obtain ⟨p, vs, rfl, hp, ra⟩ := r0.tup_inv
    exact ⟨_, vs.length, rfl, .inr ⟨vs, same_tup k.sub hp, rfl⟩, hQ _ _ W (Go.refl W) k rfl (.int _) (by rw [ra.length]; exact h)⟩
  | _ => exact h.elim
def cTuple : List D → (D → Prop) → Prop
  | [.lst ds], q => q (.tup ds)
  | [.tup ds], q => q (.tup ds)
  | _, _ => False
theorem calld_tuple : CallD C (.type "tuple") cTuple := by
  refine ⟨_, call_tuple_of, fun W vs ds Q q k r hQ h => ?_⟩
  obtain ⟨d, rfl⟩ := one_of h (fun _ h => h) (fun a _ _ _ h => by cases a <;> exact h)
  obtain ⟨v, rfl, r0⟩ := pair1 r
  cases d with
  | lst ds =>
    obtain ⟨p, vs, rfl, hp, np, ra⟩ := r0.lst_inv k
    exact ⟨p, vs, rfl, .inl ⟨.of hp, fun t ht => hQ _ _ (W.lay t (.tup vs)) (Go.lay k ht) (k.lay ht) rfl (.tup (.of upd_same) (ra.mono (same_new (k.noF ht)) fun _ _ z => z)) h⟩⟩
  | tup ds =>
    obtain ⟨p, vs, rfl, hp, ra⟩ := r0.tup_inv
    exact ⟨p, vs, rfl, .inr ⟨same_tup k.sub hp, hQ _ _ W (Go.refl W) k rfl (.tup hp ra) h⟩⟩
  | _ => exact h.elim
def cList : List D → (List D → Prop) → Prop
  | [.lst ds], q => q ds
  | [.tup ds], q => q ds
  | _, _ => False
def cMin2 : List D → (D → Prop) → Prop
  | [.int i, .int j], q => q (.int (if j < i then j else i))
  | _, _ => False
def cMax2 : List D → (D → Prop) → Prop
  | [.int i, .int j], q => q (.int (if j > i then j else i))
  | _, _ => False
theorem cMin2_inv {ds : List D} {q : D → Prop} (h : cMin2 ds q) : ∃ i j, ds = [.int i, .int j] ∧ q (.int (if j < i then j else i)) := by
  unfold cMin2 at h
  split at h
  · exact ⟨_, _, rfl, h⟩
  · exact h.elim
theorem calld_min2 (hc : C.X.calm = true) : CallD C (.builtin "min") cMin2 := by
  refine ⟨_, call_min2 hc, fun W vs ds Q q k r hQ h => ?_⟩
  obtain ⟨i, j, rfl, h⟩ := cMin2_inv h
  obtain ⟨v, v', rfl, r1, r2⟩ := pair2 r
  exact ⟨i, j, by rw [r1.int_inv, r2.int_inv], hQ _ _ W (Go.refl W) k rfl (.int _) h⟩
def jn (sep : List Nat) : List (List Nat) → List Nat := TL.joinL sep
def oJoin (sep : List Nat) (d : D) (q : D → Prop) : Prop := ∃ ds xs, (d = .lst ds ∨ d = .tup ds) ∧ ds = xs.map D.str ∧ (xs.map (·.length)).sum + xs.length * sep.length ≤ 16777216 ∧ q (.str (jn sep xs))
def asS (d : D) (q : List Nat → Prop) : Prop := match d with
  | .str i => q i
  | _ => False
@[simp] def wJoin (wo we : EW M) : EW M := fun ρ g q => wo ρ g fun s g1 => asS s fun sep => we ρ g1 fun d g2 => oJoin sep d fun r => q r g2
theorem join_list (a : Str) (zs : List Str) : (PySem.Txt.join a zs).cps.toList = jn a.cps.toList (zs.map (·.cps.toList)) := by
  rw [TL.join_eq]
  exact TL.tl_join a zs
theorem de_join {o : Expr} {wo : EW M} {apos : Pos} (ho : DE C o wo) (he : DP C e we) (hs : starEach [e] C.X.env = [(false, eval e C.X.env)] := by rfl) (hbase : attributeBase o "join" C.X.env (eval o C.X.env) = eval o C.X.env := by rfl) (hline : (apos.endLine == pos.line) = true := by rfl) :
    DE C (.Call (.Attribute o "join" apos) [e] [] pos) (wJoin wo we) := ⟨fun σ ρ W Q q S hQ hw =>
  tOf_of (pe_join pe_tOf pe_tOf hs hbase hline) (ho.run σ ρ W _ _ S (fun v d W1 g1 k1 r1 q1 => by
    cases d with
    | str sep =>
      cases r1 with
      | str z _ hz =>
        subst hz
        refine ⟨⟨z, rfl⟩, he.run σ ρ W1 _ _ (S.step g1 k1) (fun u d2 W2 g2 k2 r2 q2 => ?_) q1⟩
        obtain ⟨ds, xs, hd, e1, hl, q2⟩ := q2
        subst e1
        have fin : ∀ {vs : List V}, RpA C.X.K W2.F W2.R vs (xs.map D.str) → ∃ zs : List Str, vs = zs.map V.str ∧ (zs.map (·.length)).sum + zs.length * z.length ≤ 16777216 ∧ Q (.str (PySem.Txt.join z zs)) W2.H := fun {vs} r => by
          obtain ⟨zs, e1, e2⟩ := r.strs
          refine ⟨zs, e1, ?_, hQ _ _ W2 (g1.trans g2) k2 (rp_strS _ (by rw [join_list, e2])) q2⟩
          subst e2
          have e3 : (List.map (fun x : Str => x.cps.toList) zs).map (·.length) = zs.map (·.length) := by
            rw [List.map_map]
            exact List.map_congr_left fun x _ => (str_len x).symm
          rw [e3, List.length_map, ← str_len] at hl
          exact hl
        rcases hd with rfl | rfl
        · obtain ⟨p, vs, rfl, hp, np, ra⟩ := r2.lst_inv k2
          obtain ⟨zs, rfl, h1, h2⟩ := fin ra
          exact ⟨z, p, zs, rfl, rfl, .inl (.of hp), h1, h2⟩
        · obtain ⟨p, vs, rfl, hp, ra⟩ := r2.tup_inv
          obtain ⟨zs, rfl, h1, h2⟩ := fin ra
          exact ⟨z, p, zs, rfl, rfl, .inr (same_tup k2.sub hp), h1, h2⟩
    | _ => exact q1.elim) hw)⟩
end
end DL
set_option Elab.async false
set_option linter.all false
set_option maxRecDepth 100000
set_option maxHeartbeats 1000000
namespace DL
open PySem L2
/-- (text, number), in Python's order -/
def leTI (p q : List Nat × Int) : Prop := p.1 < q.1 ∨ (p.1 = q.1 ∧ p.2 ≤ q.2)
theorem perm_map_inv {α β : Type} {f : α → β} : ∀ {l l2 : List β}, l.Perm l2 → ∀ rs : List α, l2 = rs.map f → ∃ rs' : List α, rs'.Perm rs ∧ l = rs'.map f := by
  intro l l2 h
  induction h with
  | nil =>
    intro rs e
    cases rs with
    | nil => exact ⟨[], .refl _, rfl⟩
    | cons a r => cases e
  | cons x h ih =>
    intro rs e
    cases rs with
    | nil => cases e
    | cons a r =>
      injection e with e1 e2
      obtain ⟨rs', p, e3⟩ := ih r e2
      exact ⟨a :: rs', p.cons a, by rw [e1, e3]; rfl⟩
  | swap x y l =>
    intro rs e
    cases rs with
    | nil => cases e
    | cons a r =>
      cases r with
      | nil => cases e
      | cons b r =>
        injection e with e1 e2
        injection e2 with e2 e3
        exact ⟨b :: a :: r, List.Perm.swap a b r, by rw [e1, e2, e3]; rfl⟩
  | trans h1 h2 ih1 ih2 =>
    intro rs e
    obtain ⟨r1, p1, e1⟩ := ih2 rs e
    obtain ⟨r2, p2, e2⟩ := ih1 r1 e1
    exact ⟨r2, p2.trans p1, e2⟩
abbrev RTI := Addr × Str × Int
def keyTI (r : RTI) : List (Int ⊕ List Nat) := [.inr r.2.1.cps.toList, .inl r.2.2]
def rSortedTI (K : PySem.W.Frag) : List V → Hp → VK → Prop := fun vs H Q => ∃ (a : Addr) (rs : List (Addr × Str × Int)), vs = [.ref a] ∧ SqL K H a (rs.map fun r => V.ref r.1) ∧ (∀ r ∈ rs, SqT K H r.1 [.str r.2.1, .int r.2.2]) ∧
  ∀ (rs' : List (Addr × Str × Int)) (p : Addr), rs'.Perm rs → rs'.Pairwise (fun r q => leTI (r.2.1.cps.toList, r.2.2) (q.2.1.cps.toList, q.2.2)) → H p = none → Q (.ref p) (upd H p (.lst (rs'.map fun r => V.ref r.1)))
theorem vals_refs : ∀ {rs : List RTI} {us : List Value}, Vals (rs.map fun r => V.ref r.1) us → us = rs.map fun r => Value.ref r.1
  | [], _, .nil => rfl
  | r :: rs, _, .cons a t => by
    have e : _ = Value.ref r.1 := a
    rw [e, vals_refs t]
    rfl
theorem refs_vals : ∀ rs : List RTI, Vals (rs.map fun r => V.ref r.1) (rs.map fun r => Value.ref r.1)
  | [] => .nil
  | r :: rs => .cons rfl (refs_vals rs)
theorem zip_refs : ∀ rs : List RTI, (rs.map fun r => Value.ref r.1).zip (rs.map fun r => Value.ref r.1) = rs.map fun r => (Value.ref r.1, Value.ref r.1)
  | [] => rfl
  | r :: rs => by rw [List.map_cons, List.map_cons, List.zip_cons_cons, zip_refs rs]
theorem kle_TI {r q : RTI} (h : (PyProof.Rows.G.tupKindC hp sh).kle (keyTI r) (keyTI q)) : leTI (r.2.1.cps.toList, r.2.2) (q.2.1.cps.toList, q.2.2) := by
  have h' : (decide (q.2.1.cps.toList < r.2.1.cps.toList) || (!decide (r.2.1.cps.toList < q.2.1.cps.toList) && (decide (q.2.2 < r.2.2) || (!decide (r.2.2 < q.2.2) && false)))) = false := h
  simp only [Bool.or_eq_false_iff, Bool.and_eq_false_iff, decide_eq_false_iff_not, Bool.not_eq_false', decide_eq_true_eq, Bool.and_false, Bool.or_false] at h'
  obtain ⟨h1, h2⟩ := h'
  by_cases h3 : r.2.1.cps.toList < q.2.1.cps.toList
  · exact .inl h3
  · refine .inr ⟨List.le_antisymm (List.not_lt.mp h1) (List.not_lt.mp h3), ?_⟩
    rcases h2 with h2 | h2
    · exact absurd h2 h3
    · show r.2.2 ≤ q.2.2
      simp at h2
      omega
theorem cr_sortedTI {X : Cx} : CallR X (.builtin "sorted") (rSortedTI X.K) := by
  intro pins s σ H vs us Q I r h
  obtain ⟨a, rs, rfl, hs, ht, q⟩ := h
  obtain ⟨its, rv, hl, hz⟩ := I.list hs
  obtain ⟨u, rfl, ru⟩ := vals1 r
  obtain rfl : u = Value.ref a := ru
  have eits := vals_refs rv
  subst eits
  -- each item, in the heap
  have at_ : ∀ r ∈ rs, ∃ o t1 t2 n, s.heap.get? r.1 = some o ∧ o.cls = .type "tuple" ∧ o.data = .seq #[.str r.2.1 t1, .int r.2.2 t2] n := fun r hr => by
    obtain ⟨its2, r2, ⟨o, ho, hc, n, hd⟩, _⟩ := I.tuple (ht r hr)
    obtain ⟨u1, u2, rfl, ⟨t1, rfl⟩, ⟨t2, rfl⟩⟩ := vals2 r2
    exact ⟨o, t1, t2, n, ho, hc, hd⟩
  have key : ∀ r ∈ rs, PyProof.Rows.G.tupKeyC s.heap (fun i => i == 0) (.ref r.1) = some (keyTI r) := fun r hr => by
    obtain ⟨o, t1, t2, n, ho, hc, hd⟩ := at_ r hr
    simp [PyProof.Rows.G.tupKeyC, PyProof.Rows.G.isTupObj, PyProof.Rows.tupKey, ho, hc, hd, PyProof.Rows.tupItems, keyTI]
  have tups : ∀ l : List RTI, (∀ r ∈ l, r ∈ rs) → ∃ fs, PyProof.Rows.TupsOf s.heap (fun i => i == 0) (l.map fun r => Value.ref r.1) fs := fun l => by
    induction l with
    | nil => exact fun _ => ⟨[], .nil⟩
    | cons r l ih =>
      intro hm
      obtain ⟨fs, hf⟩ := ih fun x hx => hm x (List.mem_cons_of_mem _ hx)
      obtain ⟨o, t1, t2, n, ho, hc, hd⟩ := at_ r (hm r List.mem_cons_self)
      exact ⟨.str r.2.1 t1 :: fs, .cons ⟨r.1, o, _, n, rfl, ho, hc, hd, rfl, fun z => by simp at z, fun _ => ⟨_, _, rfl⟩⟩ hf⟩
  obtain ⟨fs, hf⟩ := tups rs fun _ h => h
  have hlen : (rs.map fun r => Value.ref r.1).length ≤ sizeLine := by
    rw [List.length_map] at hz ⊢
    exact hz
  refine PyProof.Rows.G.sorted_tups hl.isList hf (fun v hv => ?_) hlen fun st' hp hsd _ => ?_
  · obtain ⟨r, hr, rfl⟩ := List.mem_map.mp hv
    exact ⟨_, key r hr⟩
  · obtain ⟨ep, he'⟩ := PyProof.Rows.sortedAll_at s.heap (rs.map fun r => Value.ref r.1) ((PyProof.Rows.arrOf st').map (·.2))
    have hp' : (PyProof.Rows.arrOf st').toList.Perm (rs.map fun r => (Value.ref r.1, Value.ref r.1)) := by
      have e : (PyProof.Rows.pairsOf (rs.map fun r => Value.ref r.1)).toList = rs.map fun r => (Value.ref r.1, Value.ref r.1) := by
        rw [PyProof.Rows.pairsOf_toList]
        exact zip_refs rs
      rw [← e]
      exact Array.perm_iff_toList_perm.mp hp
    obtain ⟨rs', p2, e2⟩ := perm_map_inv (f := fun r : RTI => (Value.ref r.1, Value.ref r.1)) hp' rs rfl
    have eo : ((PyProof.Rows.arrOf st').map (·.2)).toList = rs'.map fun r => Value.ref r.1 := by
      rw [Array.toList_map, e2, List.map_map]
      rfl
    have hin : ∀ r ∈ rs', r ∈ rs := fun r hr => p2.mem_iff.mp hr
    have kk : ∀ (i : Nat) r, rs'[i]? = some r → PyProof.Rows.KK (PyProof.Rows.G.tupKindC s.heap (fun i => i == 0)) (PyProof.Rows.arrOf st') i = keyTI r := fun i r e => by
      have h1 : (PyProof.Rows.arrOf st')[i]? = some (Value.ref r.1, Value.ref r.1) := by
        rw [← Array.getElem?_toList, e2, List.getElem?_map, e]
        rfl
      unfold PyProof.Rows.KK
      rw [h1]
      show (PyProof.Rows.G.tupKeyC s.heap (fun i => i == 0) (.ref r.1)).getD _ = _
      rw [key r (hin r (List.mem_of_getElem? e))]
      rfl
    have srt : rs'.Pairwise (fun r q => leTI (r.2.1.cps.toList, r.2.2) (q.2.1.cps.toList, q.2.2)) := by
      rw [List.pairwise_iff_getElem]
      intro i j hi hj hij
      have hjs : j < (PyProof.Rows.pairsOf (rs.map fun r => Value.ref r.1)).size := by
        rw [PyProof.Rows.pairsOf_size, List.length_map, ← p2.length_eq]
        exact hj
      have := hsd i j (Nat.le_of_lt hij) hjs
      rw [kk i _ (List.getElem?_eq_getElem hi), kk j _ (List.getElem?_eq_getElem hj)] at this
      exact kle_TI this
    refine ⟨.ref (s.heap.objs.size + 1), upd H (s.heap.objs.size + 1) (.lst (rs'.map fun r => V.ref r.1)), I.laid (t' := s.toks) (fun _ _ => PyProof.Rows.sortedAll_old) (Nat.le_succ _) ⟨?_, rs'.map fun r => Value.ref r.1, ep, refs_vals rs', ?_⟩, rfl,
      q rs' _ p2 srt (I.hok.fresh (Nat.le_succ _))⟩
    · rw [List.length_map, p2.length_eq, ← List.length_map (f := fun r : RTI => V.ref r.1)]
      exact hz
    · rw [he', ← eo]
section
variable {M : Ghost} {C : Ct M} {W W1 W2 W' : Wd M} {σ : L2.St} {ρ : DEnv} {e : Expr} {es : List Expr} {we : EW M} {pos : Pos}
def pairTI (p : List Nat × Int) : D := .tup [.str p.1, .int p.2]
/-- sorted of pairs (text, number) -/
def cSortedTI (ds : List D) (q : List D → Prop) : Prop := ∃ xs : List (List Nat × Int), ds = [.lst (xs.map pairTI)] ∧ ∀ ys : List (List Nat × Int), ys.Perm xs → ys.Pairwise leTI → q (ys.map pairTI)
theorem rpa_TI {K : PySem.W.Frag} {F : Hp} {R : List Addr} : ∀ {vs : List V} {xs : List (List Nat × Int)}, RpA K F R vs (xs.map pairTI) → ∃ rs : List RTI, vs = rs.map (fun r => V.ref r.1) ∧ xs = rs.map (fun r => (r.2.1.cps.toList, r.2.2)) ∧ ∀ r ∈ rs, SqT K F r.1 [.str r.2.1, .int r.2.2]
  | _, [], .nil => ⟨[], rfl, rfl, fun _ h => by cases h⟩
  | _, (x, i) :: xs, h => by
    have h' : RpA K F R _ (D.tup [.str x, .int i] :: xs.map pairTI) := h
    cases h' with
    | cons a t =>
      cases a with
      | tup hs b =>
        cases b with
        | cons b1 b2 =>
          cases b1 with
          | str z _ hz =>
            cases b2 with
            | cons b3 b4 =>
              cases b3
              cases b4
              obtain ⟨rs, e1, e2, h2⟩ := rpa_TI t
              refine ⟨(_, z, i) :: rs, by rw [e1]; rfl, by rw [e2, List.map_cons, hz], fun r hr => ?_⟩
              rcases List.mem_cons.mp hr with rfl | hr
              · exact hs
              · exact h2 r hr
theorem TI_rpa {K : PySem.W.Frag} {F : Hp} {R : List Addr} : ∀ {rs : List RTI}, (∀ r ∈ rs, SqT K F r.1 [.str r.2.1, .int r.2.2]) → RpA K F R (rs.map fun r => V.ref r.1) ((rs.map (fun r => (r.2.1.cps.toList, r.2.2))).map pairTI)
  | [], _ => .nil
  | r :: rs, h => .cons (.tup (h r List.mem_cons_self) (.cons (rp_str _) (.cons (.int _) .nil))) (TI_rpa fun x hx => h x (List.mem_cons_of_mem _ hx))
theorem calln_sortedTI : CallN C (.builtin "sorted") cSortedTI := by
  refine ⟨_, cr_sortedTI, fun W vs ds Q q k r hQ h => ?_⟩
  obtain ⟨xs, rfl, h⟩ := h
  obtain ⟨v, rfl, r0⟩ := pair1 r
  obtain ⟨p, vs, rfl, hp, np, ra⟩ := r0.lst_inv k
  obtain ⟨rs, rfl, rfl, hs⟩ := rpa_TI ra
  refine ⟨p, rs, rfl, .of hp, fun r hr => same_tup k.sub (hs r hr), fun rs' t p2 srt ht => ?_⟩
  refine hQ t _ _ (W.new t (.lst _)) (Go.new k ht) (k.new ht) rfl upd_same (k.noF ht) (k.noR ht) ht (TI_rpa fun r hr => hs r (p2.mem_iff.mp hr)) (h (rs'.map fun r => (r.2.1.cps.toList, r.2.2)) (p2.map _) ?_)
  rw [List.pairwise_map]
  exact srt

def repOk (d : D) : Prop := (py d).showable = true ∧ pln d = true ∧ (py d).depth ≤ 60 ∧ (py d).shown.length ≤ sizeLine
end
end DL
set_option Elab.async false
set_option linter.all false
set_option maxRecDepth 100000
set_option maxHeartbeats 1000000
namespace DL
open PySem L2
/-- the stream: its list at R[0], the large cells' list at R[1], all cells frozen; at most n numbers were mixed -/
def StrOk (K : PySem.W.Frag) (n : Nat) (R : List Addr) (F H : Hp) : Prop := ∃ (a b c : Addr) (L cs : List Int) (m : Int), R[0]? = some a ∧ R[1]? = some b ∧ a ≠ b ∧ H a = some (.lst [.ref b, .ref c, .int m]) ∧ H b = some (.lst (L.map V.int)) ∧
  F c = some (.lst (cs.map V.int)) ∧ 0 ≤ m ∧ m ≤ n ∧ cs ≠ []
@[reducible] def stg : Ghost where
  G := Nat
  ok := fun K n R F H => R.length = 2 ∧ (n ≤ 2 ^ 60 → StrOk K n R F H)
  keep := fun {K g R F H F' H'} h s k => ⟨h.1, fun hn => by
    obtain ⟨a, b, c, L, cs, m, h1, h2, h3, h4, h5, h6, h7⟩ := h.2 hn
    exact ⟨a, b, c, L, cs, m, h1, h2, h3, by rw [k a (List.mem_of_getElem? h1)]; exact h4, by rw [k b (List.mem_of_getElem? h2)]; exact h5, s _ _ h6, h7⟩⟩
/-- a thing of the region, written -/
abbrev Wd.reg {M : Ghost} (W : Wd M) (p : Addr) (o : HO) (g : M.G) : Wd M := { W with H := upd W.H p o, g := g }
section
variable {M : Ghost} {K : PySem.W.Frag} {W : Wd M} {p : Addr} {o : HO} {g : M.G}
theorem Go.reg' (h : p ∈ W.R) : Go W (W.reg p o g) := by
  refine ⟨Same.refl _, fun a x e n => ?_, fun a e => ?_, fun _ z => .inl z, [], by simp, by simp⟩
  · show upd W.H p o a = some x
    rw [upd_ne (show a ≠ p from fun z => n (z ▸ h))]
    exact e
  · show upd W.H p o a ≠ none
    by_cases z : a = p
    · subst z; rw [upd_same]; simp
    · rw [upd_ne z]; exact e
theorem Wok.reg (k : Wok K W) (h : p ∈ W.R) (gh : M.ok K g W.R W.F (upd W.H p o)) : Wok K (W.reg p o g) := by
  refine ⟨fun a x e => ?_, gh, k.rf, fun a ha => ?_⟩
  · show upd W.H p o a = some x
    rw [upd_ne (show a ≠ p from fun z => by subst z; rw [k.rf _ h] at e; cases e)]
    exact k.sub _ _ e
  · show upd W.H p o a ≠ none
    by_cases z : a = p
    · subst z; rw [upd_same]; simp
    · rw [upd_ne z]; exact k.rh a ha
end
/-- a draw below many -/
def dDraw : DSp stg := fun ds g q _ => ∃ many : Int, ds = [.ob 0, .int many] ∧ 0 < many ∧ many < 1152921504606846976 ∧ g + 1 ≤ 2 ^ 60 ∧ ∀ v : Int, 0 ≤ v → v < many → q (.int v) (g + 1)
theorem map_int_get {L : List Int} {i : Nat} {x : V} (h : (L.map V.int)[i]? = some x) : ∃ j, x = .int j ∧ L[i]? = some j := by
  rw [List.getElem?_map] at h
  cases q : L[i]? with
  | none => rw [q] at h; cases h
  | some j => rw [q] at h; cases h; exact ⟨j, rfl, rfl⟩
/-- the stream is made -/
def spStream (K : PySem.W.Frag) : Sp := fun vs H Q _ => ∃ (a : Addr) (ns : List Int), vs = [.ref a] ∧ SqL K H a (ns.map V.int) ∧ ns.length ≤ 63 ∧
  ∀ (H' : Hp) (p b c : Addr) (L cs : List Int), Same H H' → H p = none → H b = none → H c = none → p ≠ b → p ≠ c → b ≠ c → H' p = some (.lst [.ref b, .ref c, .int 0]) → H' b = some (.lst (L.map V.int)) → H' c = some (.lst (cs.map V.int)) → cs ≠ [] → Q (.ref p) H'
/-- what the rest of a draw needs of the state -/
structure DrawAt (K : PySem.W.Frag) (W W1 : Wd stg) (a b c : Addr) (L cs : List Int) (m : Int) : Prop where
  go : Go W W1
  ok : Wok K W1
  g : W1.g = W.g
  r0 : W1.R[0]? = some a
  r1 : W1.R[1]? = some b
  ne : a ≠ b
  ha : W1.H a = some (.lst [.ref b, .ref c, .int m])
  hb : W1.H b = some (.lst (L.map V.int))
  hc : W1.F c = some (.lst (cs.map V.int))
  m0 : 0 ≤ m
  mn : m ≤ W.g
  cs0 : cs ≠ []
section
variable {K : PySem.W.Frag} {W W1 W2 : Wd stg} {a b c : Addr} {L cs : List Int} {m : Int}
theorem DrawAt.new (d : DrawAt K W W1 a b c L cs m) {p : Addr} {o : HO} (h : W1.H p = none) : DrawAt K W (W1.new p o) a b c L cs m := by
  have na : a ≠ p := ne_of_none d.ha h
  have nb : b ≠ p := ne_of_none d.hb h
  exact ⟨d.go.trans (Go.new d.ok h), d.ok.new h, d.g, d.r0, d.r1, d.ne, (upd_ne na).trans d.ha, (upd_ne nb).trans d.hb, d.hc, d.m0, d.mn, d.cs0⟩
theorem DrawAt.setB (d : DrawAt K W W1 a b c L cs m) (L' : List Int) : DrawAt K W (W1.reg b (.lst (L'.map V.int)) W1.g) a b c L' cs m := by
  have hb := List.mem_of_getElem? d.r1
  have ok' : Wok K (W1.reg b (.lst (L'.map V.int)) W1.g) := d.ok.reg hb ⟨d.ok.gh.1, fun hn => ⟨a, b, c, L', cs, m, d.r0, d.r1, d.ne, (upd_ne d.ne).trans d.ha, upd_same, d.hc, d.m0, by rw [show ((W1.g : Nat) : Int) = ((W.g : Nat) : Int) from congrArg Int.ofNat d.g]; exact d.mn, d.cs0⟩⟩
  exact ⟨d.go.trans (Go.reg' hb), ok', d.g, d.r0, d.r1, d.ne, (upd_ne d.ne).trans d.ha, upd_same, d.hc, d.m0, d.mn, d.cs0⟩
end

theorem wok_more {K : PySem.W.Frag} {W : Wd stg} (k : Wok K W) {n : Nat} (h : W.g ≤ n) : Wok K ({ W with g := n } : Wd stg) := by
  refine ⟨k.sub, ⟨k.gh.1, fun hn => ?_⟩, k.rf, k.rh⟩
  obtain ⟨a, b, c, L, cs, m, h1, h2, h3, h4, h5, h6, h7, h8, h9⟩ := k.gh.2 (Nat.le_trans h hn)
  refine ⟨a, b, c, L, cs, m, h1, h2, h3, h4, h5, h6, h7, ?_, h9⟩
  exact Int.le_trans h8 (Int.ofNat_le.mpr h)
theorem go_more {W : Wd stg} {n : Nat} : Go W ({ W with g := n } : Wd stg) := ⟨Same.refl _, fun _ _ h _ => h, fun _ h => h, fun _ h => .inl h, [], by simp, by simp⟩

section
variable {M : Ghost} {C : Ct M} {W W1 W2 W' : Wd M} {σ : L2.St} {ρ : DEnv} {e e2 : Expr} {we wi : EW M} {pos apos cpos p1 : Pos}
@[simp] def wStore (i : Nat) (we wi : EW M) : SW M := fun k ρ g => ∃ ds, ρ[i]? = some (.own ds) ∧ we ρ g fun d g1 => wi ρ g1 fun x g2 => asI x fun j => ∃ m, ixN ds.length j = some m ∧ k.nx (ρ.set i (.own (ds.set m d))) g2
/-- x[e2] = e, x a list of one's own -/
theorem ds_store {i : Nat} {x : Str} {spos : Pos} (hv : PE C.X (.Name x p1) (tVar i)) (he : DE C e we) (hi : DE C e2 wi)
    (ha : ∀ v, assign (.Subscript (.Name x p1) e2 spos) C.X.env v = (do
      let ov ← holding [v] (eval (.Name x p1) C.X.env)
      let iv ← holding [v, ov] (eval e2 C.X.env)
      standAt spos
      holding [v, ov, iv] (setItem ov iv v)
      release [v, ov, iv] []) := by intro _; rfl)
    (hs : swapsWithSole [.Subscript (.Name x p1) e2 spos] e pos.line C.X.env = pure false := by rfl) (hw : swappedStores [.Subscript (.Name x p1) e2 spos] e C.X.env = pure none := by rfl)
    (h1 : (assignEach [.Subscript (.Name x p1) e2 spos] C.X.env).map (·.2) = [assign (.Subscript (.Name x p1) e2 spos) C.X.env] := by rfl) :
    DS C (.Assign [.Subscript (.Name x p1) e2 spos] e pos) (wStore i we wi) := ⟨fun σ ρ W k E S l h => by
  obtain ⟨ds, e0, h⟩ := h
  obtain ⟨o, h1', p, vs, h2, h3, h4, h5, h6, r⟩ := S.sl i _ e0
  subst h2
  refine tsOf_of (ps_asg pe_tOf (pg_sub hv pe_tOf set_list ha) hs hw h1) ?_
  refine he.run σ ρ W _ _ S (fun v d W1 g1 k1 r1 q1 => ⟨.ref p, h1', ?_⟩) h
  refine hi.run σ ρ W1 _ _ (S.step g1 k1) (fun u x W2 g2 k2 r2 q2 => ?_) q1
  cases x with
  | int j =>
    obtain ⟨m, hm, q2⟩ := q2
    have S2 := S.step (g1.trans g2) k2
    obtain ⟨o2, a1, p2, vs2, a2, a3, a4, a5, a6, r3⟩ := S2.sl i _ e0
    subst a2
    rw [h1'] at a1
    cases a1
    obtain ⟨S3, g3⟩ := S2.write e0 h1' (r3.set (r1.step g2) m)
    exact ⟨p, vs2, j, m, rfl, by cases r2; rfl, a3, by rw [r3.length]; exact hm, l.nx _ _ _ ((g1.trans g2).s.trans g3) S3 q2⟩
  | _ => exact q2.elim⟩
end
end DL
set_option Elab.async false
set_option linter.all false
set_option maxRecDepth 100000
set_option maxHeartbeats 1000000
namespace DL
open PySem PySem.Spec PyProof.Rows L2
/-- the tracked heap of a law's entry: the script alone, or nothing where the script is the module's own -/
def hp0 (K : PySem.W.Frag) (a : Addr) (ob : Obj) (ns : List Int) : Hp := fun b => if b = a ∧ K.lookup a = none then some (.frz ob (.lst (ns.map V.int))) else none
theorem hp0_some {K : PySem.W.Frag} {a b : Addr} {ob : Obj} {ns : List Int} {u : HO} (h : hp0 K a ob ns b = some u) : b = a ∧ K.lookup a = none ∧ u = .frz ob (.lst (ns.map V.int)) := by
  unfold hp0 at h
  split at h
  · rename_i q
    exact ⟨q.1, q.2, (Option.some.inj h).symm⟩
  · cases h
theorem law_callG {P : Program} {w : World} {K : PySem.W.Frag} {mg mb : Str → Option Value} {k : Nat} {fa a : Addr} {fd : FuncData} {x : Str} {sp : Sp} {s1 : Shared} {vs : List Value} {ns : List Int}
    (kin : K.In s1.heap) (nsG : s1.heap.Ns mainGlobals mg) (nsB : s1.heap.Ns builtinsNs mb) (boot : ∀ x : Str, x ≠ "__name__" → mb x = bootBuiltins x) (lim : s1.heap.NoLimit) (gens : s1.gens = #[])
    (ha : s1.heap.get? a = some { cls := .type "list", data := .seq vs.toArray }) (hi : IntsAre vs ns) (hl : ns.length ≤ sizeLine) (room : Room k callerA) (mods : ∃ mm, s1.heap.Ns sysModules mm)
    (F : ∀ base : Heap, K.In base → base.Ns mainGlobals mg → SmB base → FnG P w K mg base k fa fd [x] sp) (hbind : ∀ (s : Shared) (u : Value), BindsTo s fd ⟨[u], []⟩ [(x, u)])
    (want : ∀ H : Hp, SqL K H a (ns.map V.int) → sp [.ref a] H (fun v _ => v = .bl true) fun _ _ _ => False) :
    codeAny (model P w) callerA (.call (.ref fa) ⟨[.ref a], []⟩) (fun r s' => r = .ok (.ret (.bool true)) ∧ OldK s1.heap s'.heap ∧ s'.os = s1.os ∧ AllBare s'.gens) s1 := by
  have rel := vals_ints hi
  generalize hob : ({ cls := .type "list", data := .seq vs.toArray } : Obj) = ob at ha
  -- the script is read in it
  have seq : SqL K (hp0 K a ob ns) a (ns.map V.int) := by
    cases q : K.lookup a with
    | none => exact .inl (.inr ⟨ob, by unfold hp0; rw [if_pos ⟨rfl, q⟩]⟩)
    | some o =>
      have e := kin a o q
      rw [ha] at e
      cases e
      subst hob
      exact .inr ⟨_, vs.toArray, _, q, rfl, rfl, rfl, by rw [List.size_toArray, hi.length]; exact hl, by simpa using rel⟩
  have held : HOk P w (hp0 K a ob ns) s1.heap := fun b u e => by
    obtain ⟨rfl, _, rfl⟩ := hp0_some e
    subst hob
    exact ⟨ha, by rw [List.length_map]; exact hl, vs, _, rel, ha⟩
  -- what is not the script stands in the base
  have keep : ∀ {b : Addr} {o : Obj}, s1.heap.get? b = some o → hp0 K a ob ns b = none → (hidT s1.heap (hp0 K a ob ns)).get? b = some o := fun e n => hidT_get e n
  have dict : ∀ {b : Addr} {m : Str → Option Value}, s1.heap.Ns b m → (hidT s1.heap (hp0 K a ob ns)).Ns b m := fun {b m} ⟨o, es, ep, e, d, r⟩ => by
    refine ⟨o, es, ep, keep e ?_, d, r⟩
    cases q : hp0 K a ob ns b with
    | none => rfl
    | some u =>
      obtain ⟨rfl, _, _⟩ := hp0_some q
      rw [ha] at e
      cases e
      subst hob
      cases d
  have kin' : K.In (hidT s1.heap (hp0 K a ob ns)) := fun b o e => keep (kin b o e) (by
    cases q : hp0 K a ob ns b with
    | none => rfl
    | some u =>
      obtain ⟨rfl, z, _⟩ := hp0_some q
      rw [z] at e
      cases e)
  have modl : Mod K mg (hidT s1.heap (hp0 K a ob ns)) := ⟨kin', dict nsG, ⟨mb, dict nsB, boot⟩, let ⟨mc, q1, q2⟩ := lim; ⟨mc, dict q1, q2⟩⟩
  have entry : Env0 P w K mg (hidT s1.heap (hp0 K a ob ns)) callerA [] s1 (hp0 K a ob ns) :=
    ⟨rfl, modl, fun b o e => of_hidT e, Nat.le_of_eq (hidT_size _ _), trivial, (fun b hb => by cases hb), held, .of_eq gens⟩
  have smb : SmB (hidT s1.heap (hp0 K a ob ns)) := by
    obtain ⟨mm, hm⟩ := mods
    obtain ⟨o, es, ep, e, _⟩ := dict hm
    exact ⟨o, e⟩
  have run := (F _ kin' (dict nsG) smb).run callerA [] s1 (hp0 K a ob ns) ⟨[.ref a], []⟩ [.ref a] [.ref a] _ _ room rfl entry (hbind s1 (.ref a)) (.cons rfl .nil) (want _ seq)
  refine codeAny_mono run fun r s2 h => ?_
  match r, h with
  | .error e, h =>
    obtain ⟨_, _, _, _, _, _, _, _, _, _, _, _, z⟩ := h
    exact z.elim
  | .ok (.ret u), ⟨v, H2, os, bare, un, held2, ru, q⟩ =>
    have q' : v = .bl true := q
    subst q'
    obtain rfl : u = Value.bool true := ru
    refine ⟨rfl, OldK.of_keep fun b o e => ?_, os, bare⟩
    cases z : hp0 K a ob ns b with
    | none => exact un.keep b o e z (by intro y; cases y) (by simp)
    | some u =>
      obtain ⟨_, _, rfl⟩ := hp0_some z
      obtain ⟨e1, _⟩ := held b _ z
      obtain ⟨e2, _⟩ := held2 b _ (un.frzs b ob _ z)
      rw [e] at e1
      cases e1
      exact e2
/-- the goal that k_head leaves, from the law's promise -/
theorem walkG {l : PySem.W.OpenLaw} {n k : Nat} {q : Program} {loose : List Str} {XP : (Str → Option Value) → Heap → Prop} {YP : World → Heap → Prop} {d : DefRec} {K : Params → PySem.W.Frag} {sp : World → Sp} {x : Str}
    (hn : l.most = some n) (hi : importsNone q = true) (hn2 : n ≤ sizeLine) (hdf : d.params.defaults = []) (room : Room k callerA) (hY : ∀ (w : World) (h : Heap), YP w h → (K w.params).In h)
    (F : ∀ (w : World) (mg : Str → Option Value) (fa : Addr) (h : Heap), (K w.params).In h → h.Ns mainGlobals mg → mg d.name = some (.ref fa) →
      ∃ fd : FuncData, (∀ (s : Shared) (u : Value), BindsTo s fd ⟨[u], []⟩ [(x, u)]) ∧ ∀ base : Heap, (K w.params).In base → base.Ns mainGlobals mg → SmB base → FnG l.prog w (K w.params) mg base k fa fd [x] (sp w))
    (want : ∀ (w : World) (H : Hp) (a : Addr) (ns : List Int), ns.length ≤ n → SqL (K w.params) H a (ns.map V.int) → sp w [.ref a] H (fun v _ => v = .bl true) fun _ _ _ => False) :
    PySem.W.WalkO q loose XP YP l.row.toRowW d [] (fun f vs => PySem.call f vs) :=
  Att.attach_call hn hdf fun w s0 s1 mg mb fa o pm cd doc a vs ns G Y ho hd hcd hmg hobj hints hlen hg => by
    obtain ⟨fd, hb, hF⟩ := F w mg fa _ (hY w _ Y) G.T.g hmg
    exact law_callG (hY w _ Y) G.T.g G.T.b G.T.builtins G.T.nolimit hg hobj hints (Nat.le_trans hlen hn2) room (let ⟨mm, h, _⟩ := (G.T.seer hi).mods; ⟨mm, h⟩) hF hb fun H hS => want w H a ns hlen hS
/-- a law whose first statement makes the stream; the rest by data -/
def spLaw (K : PySem.W.Frag) : Sp := fun vs H Q _ => ∃ (a : Addr) (ns : List Int), vs = [.ref a] ∧ SqL K H a (ns.map V.int) ∧ ns.length ≤ 63 ∧ ∀ H', Q (.bl true) H'
@[simp] def kLaw : K3 stg := { nx := fun _ _ => False, rt := fun d _ => d = .bl true, bk := fun _ _ => False, ct := fun _ _ => False }
/-- the slots at the law's first step: the script is not looked at any more -/
@[simp] def rhoLaw (n i : Nat) : DEnv := (List.replicate n Sl.no).set i (.im (.ob 0))
theorem takes_none {M : Ghost} {X : Cx} {W0 B : Wd M} : TakesD (M := M) ⟨X, W0, xno, B⟩ := fun u s' x => by
  obtain ⟨_, _, _, _, _, _, _, _, _, _, _, _, _, _, _, _, z⟩ := x
  obtain ⟨_, _, _, _, _, _, y⟩ := z
  exact y.elim
theorem law_of {P : Program} {w : World} {K : PySem.W.Frag} {mg : Str → Option Value} {base : Heap} {x qual scr : Str} {st st0 : Stmt} {rest : List Stmt} {f : Addr} {fd : FuncData} {N : List Str} {k i : Nat} {wr : SW stg} (F : Fun K x qual st f fd) (Sc : FnScope N [scr] (defScope st)) (hi : 0 < i)
    (hst : defBody st = st0 :: rest)
    (h0 : ∀ (cdv : Value) (A : Around) (outer : List Env) (s : Shared) (H : Hp) (E : XK), Room k (A.deeper (envOfC qual (defScope st) s.heap.objs.size f cdv)) → A.guards = some [] →
      PS (cxOf (L2N.CX P w) P w K mg base N qual (defScope st) f cdv A outer s H E) st0 (tAsg (tCallG (spStream K) (fun _ => E0) (tCons (tVar 0) tNil)) (gName i)))
    (hbody : ∀ (cdv : Value) (A : Around) (outer : List Env) (s : Shared) (H : Hp) (E : XK) (W0 : Wd stg), Room k (A.deeper (envOfC qual (defScope st) s.heap.objs.size f cdv)) → A.guards = some [] →
      TakesD (M := stg) ⟨cxOf (L2N.CX P w) P w K mg base N qual (defScope st) f cdv A outer s H E, W0, xno, W0⟩ → DSs (M := stg) ⟨cxOf (L2N.CX P w) P w K mg base N qual (defScope st) f cdv A outer s H E, W0, xno, W0⟩ rest wr)
    (hpure : wr kLaw (rhoLaw N.length i) 0) : FnG P w K mg base (k + 1) f fd [scr] (spLaw K) := by
  refine fng_of F Sc (fun vs H Q E h => ?_) (fun cdv A outer s H vs Q E hr hgd h => ?_)
  · obtain ⟨a, ns, rfl, _⟩ := h
    rfl
  · obtain ⟨a, ns, rfl, hS, hlen, hQ⟩ := h
    rw [hst]
    refine ⟨_, pss_cons (h0 cdv A outer s H E hr hgd) pss_tOf, ?_⟩
    have hN : 0 < N.length := by
      have := congrArg List.length Sc.pre
      rw [List.length_take] at this
      simp at this
      omega
    refine ⟨.ref a, ?_, a, ns, rfl, hS, hlen, fun H1 p b c L cs sm np nb nc pb pc bc hp hb hc hcs => ?_⟩
    · unfold L2.start
      rw [List.map_cons, List.cons_append]
      rfl
    have none1 : ∀ {q r : Addr} {o : HO}, q ≠ r → upd (fun _ => none) r o q = none := fun h => upd_ne h
    have sub1 : Same (upd (fun _ => none) c (.lst (cs.map V.int))) H1 := fun q o e => by
      by_cases z : q = c
      · subst z; rw [upd_same] at e; cases e; exact hc
      · rw [none1 z] at e; cases e
    generalize hW1 : ({ F := upd (fun _ => none) c (.lst (cs.map V.int)), H := H1, R := [p, b], g := (0 : Nat) } : Wd stg) = W1
    have ok1 : Wok K W1 := by
      subst hW1
      refine ⟨sub1, ⟨rfl, fun _ => ⟨p, b, c, L, cs, 0, rfl, rfl, pb, hp, hb, upd_same (H := fun _ => none) (a := c) (o := .lst (cs.map V.int)), Int.le_refl _, Int.le_refl _, hcs⟩⟩, fun q hq => ?_, fun q hq => ?_⟩
      · rcases List.mem_cons.mp hq with rfl | hq
        · exact none1 pc
        · rw [List.mem_singleton.mp hq]; exact none1 bc
      · rcases List.mem_cons.mp hq with rfl | hq
        · show H1 q ≠ none; rw [hp]; simp
        · rw [List.mem_singleton.mp hq]; show H1 b ≠ none; rw [hb]; simp
    have eH : W1.H = H1 := by subst hW1; rfl
    have eg : W1.g = (0 : Nat) := by subst hW1; rfl
    have eR : W1.R = [p, b] := by subst hW1; rfl
    have sat : Sat (M := stg) ⟨cxOf (L2N.CX P w) P w K mg base N qual (defScope st) f cdv A outer s H E, W1, xno, W1⟩ ((L2.start N [.ref a]).set i (some (.ref p))) (rhoLaw N.length i) W1 := by
      refine ⟨ok1, Go.refl _, ?_, fun j t e => ?_, fun j l s1 s2 q e1 _ w1 _ _ _ => ?_, Gs.refl _⟩
      · unfold rhoLaw L2.start
        simp
        omega
      · unfold rhoLaw at e
        have hj : j < N.length := by
          have := (List.getElem?_eq_some_iff.mp e).1
          simpa using this
        have hs : (L2.start N [.ref a]).length = N.length := by
          unfold L2.start
          simp
          omega
        by_cases z : i = j
        · subst z
          rw [List.getElem?_set_self (by simpa using hj)] at e
          cases e
          exact ⟨_, List.getElem?_set_self (by rw [hs]; exact hj), .ref p, rfl, .ob (by rw [eR]; rfl)⟩
        · rw [List.getElem?_set_ne z, List.getElem?_replicate, if_pos hj] at e
          cases e
          exact ⟨_, List.getElem?_eq_getElem (by rw [List.length_set, hs]; exact hj), trivial⟩
      · unfold rhoLaw at e1
        by_cases z : i = j
        · subst z
          have hj := (List.getElem?_eq_some_iff.mp e1).1
          rw [List.length_set] at hj
          rw [List.getElem?_set_self hj] at e1
          cases e1
          cases w1
        · rw [List.getElem?_set_ne z, List.getElem?_replicate] at e1
          split at e1 <;> cases e1
          cases w1
    show tssOf _ rest _ _ H1
    rw [← eH]
    refine (hbody cdv A outer s H E W1 hr hgd takes_none).run _ _ W1 kLaw _ sat ⟨fun _ _ _ _ _ z => z.elim, fun v d W' _ _ r z => ?_, fun _ _ _ _ _ z => z.elim, fun _ _ _ _ _ z => z.elim⟩ (by rw [eg]; exact hpure)
    have z' : d = .bl true := z
    subst z'
    rw [r.bl_inv]
    exact hQ _
theorem passLN {X : Cx} : L2.Passes (L2N.CX X.prog X.w) X E0 := fun pins σ H s e s' I c => by
  obtain ⟨a, B, H', cls, d, _, _, _, _, _, _, _, z⟩ := c
  exact z.elim
end DL
set_option Elab.async false
set_option linter.all false
set_option maxRecDepth 100000
set_option maxHeartbeats 1000000
namespace DL
open PySem L2
/-- a def of the text that keeps a promise by data: called by its name -/
structure FnB (P : Program) (w : World) (K : PySem.W.Frag) (mg : Str → Option Value) (base : Heap) (k : Nat) (x : Str) (ps : List Str) (sp : Sp) : Prop where
  ex : ∃ (f : Addr) (fd : FuncData), FnG P w K mg base k f fd ps sp ∧ mg x = some (.ref f) ∧ PySem.W.keepIn K (.ref f) = true ∧ Binds K fd ps []
section
variable {M : Ghost} {C : Ct M} {W W1 W2 W' : Wd M} {σ : L2.St} {ρ : DEnv} {e : Expr} {es : List Expr} {we : EW M} {pos p : Pos} {wa : AW M}
@[simp] def wCallB (n : Nat) (sp : DSp M) (wa : AW M) (EX : Exn → DEnv → M.G → Prop) : EW M := fun ρ g q => wa ρ g fun ds g' => ds.length = n ∧ sp ds g' q fun x g2 => EX x ρ g2
theorem de_callF {k : Nat} {ps : List Str} {n : Nat} {sp : DSp M} {x : Str} (F : FnB C.X.prog C.X.w C.X.K C.X.mg C.X.base k x ps (liftSp C.X.K C.X.mg n sp)) (hgd : C.X.A.guards = some []) (hr : Room k C.X.A) (tk : TakesD C) (ha : DA C (e :: es) wa)
    (hg : Gl C.X x := by rfl) (hdb : (x == ("__debug__" : Str)) = false := by decide) (he : starEach (e :: es) C.X.env = (false, eval e C.X.env) :: starEach es C.X.env := by rfl) (hpl : (backTo pos (starEach es C.X.env)).any (·.1) = false := by rfl) :
    DE C (.Call (.Name x p) (e :: es) [] pos) (wCallB n sp wa C.EX) := ⟨fun σ ρ W Q q S hQ hw => by
  obtain ⟨f, fd, F, hm, hk, hb⟩ := F.ex
  exact tOf_of (pe_callG (E := fun σ => EXs C σ) F hgd hr hg hm hk hb (fun σ => L2N.passAt tk σ) pa_tOf hdb he hpl) (ha.run σ ρ W _ _ S (fun vs ds W1 g1 k1 r1 q1 =>
    ⟨W1, ds, q, fun x g => C.EX x ρ g, rfl, k1, r1, q1.1, q1.2, fun v d W2 g2 k2 r2 q2 => hQ v d W2 (g1.trans g2) k2 r2 q2, fun cls d H' h => exs_of (S.step g1 k1) (fun _ _ z => z) h⟩) hw)⟩
/-- .. that may be called where an exception is handled -/
structure FnQB (P : Program) (w : World) (K : PySem.W.Frag) (mg : Str → Option Value) (base : Heap) (k : Nat) (x : Str) (ps : List Str) (sp : Around → Sp) : Prop where
  ex : ∃ (f : Addr) (fd : FuncData), FnQ P w K mg base k f fd ps sp ∧ mg x = some (.ref f) ∧ PySem.W.keepIn K (.ref f) = true ∧ Binds K fd ps []
theorem lift_hot {M : Ghost} {K : PySem.W.Frag} {mg : Str → Option Value} {n : Nat} {sp : DSp M} {A : Around} {xs : List V} {H : Hp} {Q : VK} {E : XK} (hd : A.handled = none) (h : liftSp K mg n sp xs H Q E) : liftSpH K mg n sp A xs H Q E := by
  obtain ⟨W, ds, q, ex, h1, h2, h3, h4, h5, h6⟩ := h
  exact ⟨W, ds, q, ex, h1, h2, h3, h4, h5, h6, .inl hd⟩
theorem lift_len {M : Ghost} {K : PySem.W.Frag} {mg : Str → Option Value} {n : Nat} {sp : DSp M} {xs : List V} {H : Hp} {Q : VK} {E : XK} (h : liftSp K mg n sp xs H Q E) : xs.length = n := by
  obtain ⟨W, ds, q, ex, h1, h2, h3, h4, _⟩ := h
  rw [h3.length, h4]
theorem FnQB.b {M : Ghost} {P : Program} {w : World} {K : PySem.W.Frag} {mg : Str → Option Value} {base : Heap} {k n : Nat} {x : Str} {ps : List Str} {sp : DSp M} (F : FnQB P w K mg base k x ps (liftSpH K mg n sp)) (hn : n = ps.length := by rfl) : FnB P w K mg base k x ps (liftSp K mg n sp) := by
  subst hn
  obtain ⟨f, fd, F, h⟩ := F.ex
  exact ⟨f, fd, F.g (fun _ _ _ _ => lift_len) (fun _ _ _ _ _ hd => lift_hot hd), h⟩
theorem fnB_of {P : Program} {w : World} {K : PySem.W.Frag} {mg : Str → Option Value} {base : Heap} {x qual : Str} {st : Stmt} {f : Addr} {fd : FuncData} {k : Nat} {ps : List Str} {sp : Sp} (F : Fun K x qual st f fd) (g : mg x = some (.ref f)) (G : FnG P w K mg base k f fd ps sp) (b : Binds K fd ps []) : FnB P w K mg base k x ps sp :=
  ⟨f, fd, G, g, F.kp, b⟩

/-- the end of a def over the stream: the bound may be given greater -/
@[simp] def kEndS (q : D → Nat → Prop) : K3 stg := { nx := fun _ (g : Nat) => ∃ n : Nat, g ≤ n ∧ q .non n, rt := fun d (g : Nat) => ∃ n : Nat, g ≤ n ∧ q d n, bk := fun _ _ => False, ct := fun _ _ => False }
theorem fnS_of {P : Program} {w : World} {K : PySem.W.Frag} {mg : Str → Option Value} {base : Heap} {x qual : Str} {st : Stmt} {f : Addr} {fd : FuncData} {N ps : List Str} {k : Nat} {sp : DSp stg} {wb : (Exn → stg.G → Prop) → SW stg} (F : Fun K x qual st f fd) (Sc : FnScope N ps (defScope st))
    (hbody : ∀ (cdv : Value) (A : Around) (outer : List Env) (s : Shared) (H : Hp) (E : XK) (W0 : Wd stg) (EX : Exn → stg.G → Prop), Room k (A.deeper (PyProof.Rows.envOfC qual (defScope st) s.heap.objs.size f cdv)) → A.guards = some [] →
      TakesD (M := stg) ⟨cxOf (L2N.CX P w) P w K mg base N qual (defScope st) f cdv A outer s H E, W0, xk EX, W0⟩ → DSs (M := stg) ⟨cxOf (L2N.CX P w) P w K mg base N qual (defScope st) f cdv A outer s H E, W0, xk EX, W0⟩ (defBody st) (wb EX))
    (hpure : ∀ (ds : List D) (g : Nat) (q : D → Nat → Prop) (ex : Exn → Nat → Prop), ds.length = ps.length → sp ds g q ex → wb ex (kEndS q) (startD N ds) g) :
    FnG P w K mg base (k + 1) f fd ps (liftSp K mg ps.length sp) := by
  refine fng_of F Sc (fun vs H Q E h => ?_) (fun cdv A outer s H vs Q E hr hgd h => ?_)
  · obtain ⟨W, ds, q, ex, _, _, r, hl, _⟩ := h
    rw [r.length, hl]
  · obtain ⟨W, ds, q, ex, rfl, ok, r, hl, hsp, hQ, hE⟩ := h
    have tk : TakesD (M := stg) ⟨cxOf (L2N.CX P w) P w K mg base N qual (defScope st) f cdv A outer s W.H E, W, xk ex, W⟩ := fun u s' x =>
      L2N.takes_of (X := cxOf (L2N.CX P w) P w K mg base N qual (defScope st) f cdv A outer s W.H E) rfl rfl rfl rfl u s' (by
        obtain ⟨a, B, sI, pins, σ, H, cls, d, e, I, nb, up, sky, na, os, ag, x, ρ, W', z1, z2, z3, z4⟩ := x
        exact ⟨a, B, sI, pins, σ, H, cls, d, e, I, nb, up, sky, na, os, ag, hE _ _ _ ⟨x, W', z1, z2.go, z2.ok, z3, z4⟩⟩)
    refine ⟨_, pss_tOf, ?_⟩
    refine (hbody cdv A outer s W.H E W ex hr hgd tk).run _ _ W (kEndS q) _ (sat_start ok rfl rfl r) ⟨fun σ' ρ' W' g S' h => ?_, fun v d W' g k r h => ?_, fun _ _ _ _ _ h => h.elim, fun _ _ _ _ _ h => h.elim⟩ (hpure ds W.g q ex hl hsp)
    · obtain ⟨n, hn, h⟩ := h
      exact hQ .non .non ({ W' with g := n } : Wd stg) (S'.go.trans (go_more (n := n))) (wok_more S'.ok hn) .non h
    · obtain ⟨n, hn, h⟩ := h
      exact hQ v d ({ W' with g := n } : Wd stg) (g.trans (go_more (n := n))) (wok_more k hn) r h
theorem wk_rng {K : PySem.W.Frag} (lo : Int) (n : Nat) : WK K W (Itr lo n) ((List.range n).map fun (i : Nat) => D.int (lo + i)) where
  go := fun i W1 d g k e => by
    rw [List.getElem?_map] at e
    by_cases hi : i < n
    · rw [List.getElem?_range hi] at e
      cases e
      refine ⟨hi, fun x H' y => ?_⟩
      obtain ⟨rfl, rfl⟩ := y
      exact ⟨W1, rfl, Go.refl _, k, rfl, .int _⟩
    · rw [List.getElem?_eq_none (by simpa using hi)] at e
      cases e
  stop := fun i W1 g k e => by
    have := List.getElem?_eq_none_iff.mp e
    rw [List.length_map, List.length_range] at this
    exact this
def rngL (lo hi : Int) : List D := (List.range (hi - lo).toNat).map fun (i : Nat) => D.int (lo + i)
@[simp] def wRng1 (wa : EW M) : IW M := fun ρ g q => wa ρ g fun d g' => asI d fun j => -(2 ^ 62) ≤ j ∧ j < 2 ^ 62 ∧ q (rngL 0 j) g'
theorem di_range1 {tg a : Expr} {wa : EW M} (hm : C.X.mg "range" = none) (ha : DE C a wa) (hg : Gl C.X "range" := by rfl) (hs : starEach [a] C.X.env = [(false, eval a C.X.env)] := by rfl) (hs2 : starEach [a] C.X.env = (false, eval a C.X.env) :: starEach [] C.X.env := by rfl) :
    DI C tg (.Call (.Name "range" p) [a] [] pos) (wRng1 wa) := ⟨fun σ ρ W R q S hR hw => iOf_of (pi_range1 hg hm (pa_cons pe_tOf pa_nil hs2) hs) (ha.run σ ρ W _ _ S (fun v d W1 g1 k1 r1 q1 => by
  cases d with
  | int j =>
    cases r1
    refine ⟨j, rfl, q1.1, q1.2.1, ?_⟩
    have e : rngL 0 j = (List.range j.toNat).map fun (i : Nat) => D.int (0 + i) := by unfold rngL; rw [Int.sub_zero]
    exact hR _ _ W1 g1 k1 (e ▸ wk_rng 0 j.toNat) q1.2.2
  | _ => exact q1.elim) hw)⟩
/-- a, b = x, y with two plain local names -/
@[simp] def wPar (i j : Nat) (wx wy : VW M) : SW M := fun k ρ g => wx ρ g fun s g1 => wy ρ g1 fun t g2 => k.nx ((ρ.set i s).set j t) g2
theorem ds_par {i j : Nat} {x y : Str} {a b : Expr} {wx wy : VW M} {px py pt : Pos} {kt k2 : Nat} {pt2 : Pos} (hc : C.X.calm = true) (hN : C.X.N.Nodup) (hi : C.X.N[i]? = some x) (hj : C.X.N[j]? = some y) (hij : i ≠ j)
    (hx : C.X.env.scope.names.lookup x = some .local) (hy : C.X.env.scope.names.lookup y = some .local) (ha : DV C a wx) (hb : DV C b wy)
    (hw : swappedStores [.Tuple [.Name x px, .Name y py] kt pt] (.Tuple [a, b] k2 pt2) C.X.env = pure (some [x, y]) := by rfl) (hs : swapsWithSole [.Tuple [.Name x px, .Name y py] kt pt] (.Tuple [a, b] k2 pt2) pos.line C.X.env = pure false := by rfl)
    (h1 : starEach [a, b] C.X.env = (false, eval a C.X.env) :: starEach [b] C.X.env := by rfl) (h2 : starEach [b] C.X.env = (false, eval b C.X.env) :: starEach [] C.X.env := by rfl) :
    DS C (.Assign [.Tuple [.Name x px, .Name y py] kt pt] (.Tuple [a, b] k2 pt2) pos) (wPar i j wx wy) := ⟨fun σ ρ W k E S l h => by
  refine tsOf_of (ps_par hc hN hi hj hij hx hy (pa_cons pe_tOf (pa_cons pe_tOf pa_nil h2) h1) hw hs) ?_
  refine ha.run σ ρ W _ _ S (fun v s W1 g1 k1 f1 q1 => ?_) h
  refine hb.run σ ρ W1 _ _ (S.step g1 k1) (fun u t W2 g2 k2 f2 q2 => ?_) q1
  refine ⟨v, u, rfl, ?_⟩
  have S2 := S.step (g1.trans g2) k2
  have o1 : SlOk C W2 s (some v) := (slOk_fresh S g1 f1).step g2
  have o2 : SlOk C W2 t (some u) := slOk_fresh (S.step g1 k1) g2 f2
  have T1 := S2.puts o1 i fun p w1 e1 m t' w2 _ a1 a2 => own_live S w2 a1 a2 (fresh_dead f1 w1 e1)
  have T2 := T1.puts o2 j fun p w1 e1 m t' w2 _ a1 a2 => by
    have dead := fresh_dead f2 w1 e1
    by_cases hm : i = m
    · subst hm
      have hlt : i < ρ.length := by
        have := (List.getElem?_eq_some_iff.mp a1).1
        rwa [List.length_set] at this
      rw [List.getElem?_set_self hlt] at a1
      rw [List.getElem?_set_self (by rw [S.len]; exact hlt)] at a2
      cases a1
      cases a2
      exact fresh_live f1 w2 rfl dead
    · rw [List.getElem?_set_ne hm] at a1 a2
      exact g1.live _ (own_live S w2 a1 a2) dead
  exact l.nx _ _ W2 (g1.trans g2).s T2 q2⟩
end
end DL
set_option Elab.async false
set_option linter.all false
set_option maxRecDepth 100000
set_option maxHeartbeats 1000000
namespace DL
open PySem
section
variable {prog : Program} {w : World} {A : Around} {E : Value → Shared → Prop} {s : Shared}
def Slot0 (v : Value) : Prop := v = .none ∨ ∃ T : Nat, v = rawInt T
abbrev enObj (s0 : Value) (f : Bool) (it : Addr) (i : Int) (old : Value) : Obj := { cls := .type "enumerate", dict := none, data := .fields #[s0, .bool f, .ref it, rawInt i, .none, old], slots := #[] }
abbrev ziObj (s0 : Value) (f : Bool) (TI TO : Addr) : Obj := { cls := .type "zip", dict := none, data := .fields #[s0, .bool f, .bool false, .ref TI, .ref TO], slots := #[] }
def EnA (h : Heap) (e it : Addr) (i : Int) : Prop := ∃ s0 f old, Slot0 s0 ∧ h.get? e = some (enObj s0 f it i old)
def ZiA (h : Heap) (z TI TO : Addr) : Prop := ∃ s0 f, Slot0 s0 ∧ h.get? z = some (ziObj s0 f TI TO)
theorem alive_any {a : Addr} {Q : Option Obj → Shared → Prop} (h : Q (s.heap.get? a) s) : wpAny (model prog w) A (loadIfAlive a) Q E s := fun _ _ _ => h
theorem free_en {e it : Addr} {s0 old : Value} {f : Bool} {i : Int} {Q : Bool → Shared → Prop} (he : s.heap.get? e = some (enObj s0 f it i old)) (hs : Slot0 s0) (h1 : Q true s)
    (h2 : ∀ h' f', h'.get? e = some (enObj s0 f' it i old) → Heap.SameBut e s.heap h' → Q false { s with heap := h' }) : wpAny (model prog w) A (Builtin.SmallTypes.ownedTupleIsFree (.ref e)) Q E s := by
  unfold Builtin.SmallTypes.ownedTupleIsFree
  refine wpAny_bind (wpAny_field he rfl (x := s0) rfl ?_)
  rcases hs with rfl | ⟨T, rfl⟩
  · exact wpAny_pure h1
  · show wpAny _ _ (loadIfAlive ((T : Int).toNat) >>= _) _ _ _
    rw [Int.toNat_natCast]
    refine wpAny_bind (alive_any ?_)
    cases s.heap.get? T with
    | none => exact wpAny_pure h1
    | some oT =>
      simp only [Option.isNone_some, Bool.false_eq_true, if_false]
      refine wpAny_bind (wpAny_field he rfl (x := .bool f) rfl ?_)
      cases f with
      | true =>
        rw [if_neg (show ¬ ((Value.bool true != Value.bool true) = true) from Bool.false_ne_true)]
        exact wpAny_pure (h2 s.heap true he (Heap.SameBut.refl _ _))
      | false =>
        rw [if_pos (show (Value.bool false != Value.bool true) = true from rfl)]
        exact wpAny_bind (wpAny_setField_rec he (by simp) fun h₁ hz₁ hs₁ => wpAny_pure (h2 h₁ true hz₁ hs₁))
/-- what the draws of an iterator are, which may lay new things -/
structure Dr (prog : Program) (w : World) (A : Around) (it : Addr) (fp wr : List Addr) (n : Nat) (P : Nat → Value → Nat → Nat → Heap → Prop) (St : Nat → Heap → Prop) : Prop where
  sub : ∀ b ∈ wr, b ∈ fp
  mem : it ∈ wr
  live : ∀ i h, St i h → ∀ b ∈ wr, ∃ o, h.get? b = some o
  frame : ∀ i h h', St i h → (∀ b ∈ fp, ∀ o, h.get? b = some o → h'.get? b = some o) → St i h'
  grow : ∀ i x N Z h h', P i x N Z h → (∀ b o, N ≤ b → h.get? b = some o → h'.get? b = some o) → P i x N Z h'
  item : ∀ i (s : Shared) (Q : Value → Shared → Prop) (E : Value → Shared → Prop), i < n → St i s.heap →
    (∀ x h' tk, P i x s.heap.objs.size h'.objs.size h' → St (i + 1) h' → s.heap.objs.size ≤ h'.objs.size → (∀ b o, b ∉ wr → s.heap.get? b = some o → h'.get? b = some o) → Q x { s with heap := h', toks := tk }) →
    wpAny (model prog w) A (Builtin.SmallTypes.nextOf (.ref it)) Q E s
  done : ∀ (s : Shared) (Q : Value → Shared → Prop) (E : Value → Shared → Prop), St n s.heap →
    (∀ h' tk e, (∀ b o, b ∉ wr → s.heap.get? b = some o → h'.get? b = some o) → (∃ o, h'.get? e = some o ∧ o.cls = .type "StopIteration") → E (.ref e) { s with heap := h', toks := tk }) →
    wpAny (model prog w) A (Builtin.SmallTypes.nextOf (.ref it)) Q E s
theorem Dr.of {it : Addr} {fp : List Addr} {n : Nat} {P : Nat → Value → Prop} {St : Nat → Heap → Prop} (D : Draws prog w A it fp n P St) (hm : it ∈ fp) : Dr prog w A it fp [it] n (fun i x _ _ _ => P i x) St where
  sub := fun b hb => by rw [List.mem_singleton.mp hb]; exact hm
  mem := List.mem_singleton_self _
  live := fun i h st b hb => by rw [List.mem_singleton.mp hb]; exact D.live i h st
  frame := D.frame
  grow := fun _ _ _ _ _ _ h _ => h
  item := fun i s Q E hi st hQ => D.item i s Q E hi st fun x h' tk p st' sb => hQ x h' tk p st' (by rw [sb.1]; exact Nat.le_refl _) fun b o hb e => sb.extBut b o (fun q => hb (by simp [q])) e
  done := fun s Q E st hE => D.done s Q E st fun h' e k he => hE h' s.toks e (fun b o hb x => k b o (fun q => hb (by simp [q])) x) he

theorem en_item {e it : Addr} {fp wr : List Addr} {n i : Nat} {P : Nat → Value → Nat → Nat → Heap → Prop} {St : Nat → Heap → Prop} {Q : Value → Shared → Prop}
    (D : Dr prog w A it fp wr n P St) (he : EnA s.heap e it (i : Nat)) (hst : St i s.heap) (hlt : i < n) (hef : e ∉ fp)
    (hQ : ∀ x h' tk T t Z, P i x s.heap.objs.size Z h' → s.heap.objs.size ≤ Z → Z ≤ T → T < h'.objs.size → EnA h' e it ((i + 1 : Nat) : Int) → St (i + 1) h' →
      h'.get? T = some { cls := .type "tuple", data := .seq #[.int (i : Nat) t, x] } →
      (∀ b o, b ≠ e → b ∉ wr → s.heap.get? b = some o → h'.get? b = some o) → Q (.ref T) { s with heap := h', toks := tk }) :
    wpAny (model prog w) A (Builtin.«enumerate.__next__» ⟨[.ref e], []⟩) (fun fin s' => ∃ v, fin = .done (.ret v) ∧ Q v s') E s := by
  have hew : e ∉ wr := fun q => hef (D.sub e q)
  obtain ⟨s0, f, old, hs0, he⟩ := he
  obtain ⟨hp, g, d, tk₀, os⟩ := s
  show wpAny _ _ (field (.ref e) 2 >>= _) _ _ _
  refine wpAny_bind (wpAny_field he rfl (x := .ref it) rfl ?_)
  refine wpAny_bind (D.item i _ _ _ hlt hst fun x h₁ tk hPx hit₁ hle₁ hk₁ => ?_)
  replace hk₁ : ∀ b o, b ∉ wr → hp.get? b = some o → h₁.get? b = some o := hk₁
  replace hle₁ : hp.objs.size ≤ h₁.objs.size := hle₁
  have he₁ : h₁.get? e = some (enObj s0 f it i old) := hk₁ e _ hew he
  show wpAny _ _ (field (.ref e) 3 >>= _) _ _ ⟨h₁, g, d, tk, os⟩
  refine wpAny_bind (wpAny_field he₁ rfl (x := rawInt i) rfl ?_)
  show wpAny _ _ (field (.ref e) 4 >>= _) _ _ ⟨h₁, g, d, tk, os⟩
  refine wpAny_bind (wpAny_field he₁ rfl (x := .none) rfl ?_)
  show wpAny _ _ (mkInt i >>= _) _ _ ⟨h₁, g, d, tk, os⟩
  refine wpAny_bind (wpAny_mkInt ?_)
  show wpAny _ _ (setField (.ref e) 3 (rawInt ((i : Int) + 1)) >>= _) _ _ ⟨h₁, g, d, tk + 1, os⟩
  refine wpAny_bind (wpAny_setField_rec he₁ (by simp) fun h₂ he₂ hs₂ => ?_)
  replace hs₂ : Heap.SameBut e h₁ h₂ := hs₂
  replace he₂ : h₂.get? e = some (enObj s0 f it ((i : Int) + 1) old) := he₂
  show wpAny _ _ (setField (.ref e) 4 .none >>= _) _ _ ⟨h₂, g, d, tk + 1, os⟩
  refine wpAny_bind (wpAny_setField_rec he₂ (by simp) fun h₃ he₃ hs₃ => ?_)
  replace hs₃ : Heap.SameBut e h₂ h₃ := hs₃
  replace he₃ : h₃.get? e = some (enObj s0 f it ((i : Int) + 1) old) := he₃
  show wpAny _ _ (newTuple [.int i tk, x] >>= _) _ _ ⟨h₃, g, d, tk + 1, os⟩
  refine wpAny_bind (wpAny_newTuple ?_)
  have he₄ : (h₃.push { cls := .type "tuple", data := .seq #[.int i tk, x] }).get? e = some (enObj s0 f it ((i : Int) + 1) old) := Heap.get?_push_of_some _ he₃
  have hsz : h₃.objs.size = h₁.objs.size := by rw [hs₃.1, hs₂.1]
  have hel : e < h₁.objs.size := Heap.lt_size he₁
  have help : e < hp.objs.size := Heap.lt_size he
  have e1 : ((i + 1 : Nat) : Int) = (i : Int) + 1 := by omega
  generalize hh₄ : h₃.push { cls := .type "tuple", data := .seq #[.int i tk, x] } = h₄ at he₄
  have ht₄ : h₄.get? h₁.objs.size = some { cls := .type "tuple", data := .seq #[.int i tk, x] } := by rw [← hh₄, ← hsz]; exact Heap.get?_push_size _ rfl
  have hz₄ : h₄.objs.size = h₁.objs.size + 1 := by rw [← hh₄, Heap.size_push, hsz]
  have hk₄ : ∀ b o, b ≠ e → h₁.get? b = some o → h₄.get? b = some o := fun b o hbe hb => by
    rw [← hh₄]; exact Heap.get?_push_of_some _ (hs₃.extBut b o hbe (hs₂.extBut b o hbe hb))
  have fin : ∀ h₅ (tk5 : Nat), EnA h₅ e it ((i : Int) + 1) → h₅.objs.size = h₄.objs.size → (∀ b o, b ≠ e → h₄.get? b = some o → h₅.get? b = some o) → Q (.ref h₁.objs.size) ⟨h₅, g, d, tk5, os⟩ := fun h₅ tk5 en z5 k5 => by
    refine hQ x h₅ tk5 h₁.objs.size tk h₁.objs.size ?_ hle₁ (Nat.le_refl _) (by rw [z5, hz₄]; exact Nat.lt_succ_self _) (by rw [e1]; exact en) ?_ (k5 _ _ (Nat.ne_of_gt hel) ht₄) ?_
    · exact D.grow _ _ _ _ _ _ hPx fun b o hb q => k5 b o (fun z => absurd (z ▸ hb) (Nat.not_le_of_lt help)) (hk₄ b o (fun z => absurd (z ▸ hb) (Nat.not_le_of_lt help)) q)
    · exact D.frame _ _ _ hit₁ fun b hb o y => k5 b o (fun q => hef (q ▸ hb)) (hk₄ b o (fun q => hef (q ▸ hb)) y)
    · exact fun b o hbe hbw y => k5 b o hbe (hk₄ b o hbe (hk₁ b o hbw y))
  show wpAny _ _ (Builtin.SmallTypes.ownedTupleIsFree (.ref e) >>= _) _ _ ⟨h₄, g, d, tk + 1, os⟩
  rw [hsz]
  refine wpAny_bind (free_en (s := ⟨h₄, g, d, tk + 1, os⟩) he₄ hs0 ?_ fun h₅ f' he₅ hs₅ => ?_)
  · simp only [if_true]
    refine wpAny_bind (wpAny_rule ?_)
    refine wpAny_bind (wpAny_field he₄ rfl (x := old) rfl ?_)
    refine wpAny_bind (wpAny_setField_rec he₄ (by simp) fun h₅ he₅ hs₅ => ?_)
    replace hs₅ : Heap.SameBut e h₄ h₅ := hs₅
    replace he₅ : h₅.get? e = some (enObj s0 f it ((i : Int) + 1) x) := he₅
    show wpAny _ _ (Builtin.SmallTypes.ownedTupleHandOut (.ref e) (.ref h₁.objs.size) >>= _) _ _ ⟨h₅, g, d, tk + 1, os⟩
    refine wpAny_bind ?_
    unfold Builtin.SmallTypes.ownedTupleHandOut
    refine wpAny_bind (wpAny_setField_rec he₅ (by simp) fun h₆ he₆ hs₆ => ?_)
    replace hs₆ : Heap.SameBut e h₅ h₆ := hs₆
    replace he₆ : h₆.get? e = some (enObj (rawInt h₁.objs.size) f it ((i : Int) + 1) x) := he₆
    refine wpAny_setField_rec he₆ (by simp) fun h₇ he₇ hs₇ => ?_
    replace hs₇ : Heap.SameBut e h₆ h₇ := hs₇
    replace he₇ : h₇.get? e = some (enObj (rawInt h₁.objs.size) false it ((i : Int) + 1) x) := he₇
    refine wpAny_bind (wpAny_letGo (wpAny_pure ⟨_, rfl, fin h₇ (tk + 1) ⟨_, _, _, .inr ⟨_, rfl⟩, he₇⟩ (by rw [hs₇.1, hs₆.1, hs₅.1]) fun b o hbe hb => hs₇.extBut b o hbe (hs₆.extBut b o hbe (hs₅.extBut b o hbe hb))⟩))
  · simp only [Bool.false_eq_true, if_false]
    exact wpAny_pure ⟨_, rfl, fin h₅ (tk + 1) ⟨_, _, _, hs0, he₅⟩ hs₅.1 fun b o hbe hb => hs₅.extBut b o hbe hb⟩
theorem en_pyNext_item {e it : Addr} {fp wr : List Addr} {n i : Nat} {P : Nat → Value → Nat → Nat → Heap → Prop} {St : Nat → Heap → Prop} {Q : Option Value → Shared → Prop}
    (D : Dr prog w A.in1 it fp wr n P St) (he : EnA s.heap e it (i : Nat)) (hst : St i s.heap) (hlt : i < n) (hef : e ∉ fp)
    (hQ : ∀ x h' tk T t Z, P i x s.heap.objs.size Z h' → s.heap.objs.size ≤ Z → Z ≤ T → T < h'.objs.size → EnA h' e it ((i + 1 : Nat) : Int) → St (i + 1) h' →
      h'.get? T = some { cls := .type "tuple", data := .seq #[.int (i : Nat) t, x] } →
      (∀ b o, b ≠ e → b ∉ wr → s.heap.get? b = some o → h'.get? b = some o) → Q (some (.ref T)) { s with heap := h', toks := tk }) :
    wpAny (model prog w) A (pyNext (.ref e)) Q E s := by
  have hT : s.TypeIs (.ref e) "enumerate" := by obtain ⟨_, _, _, _, q⟩ := he; exact ⟨_, q, rfl⟩
  unfold pyNext
  exact wpAny_bind (wpAny_attempt (wpAny_callSpecial?_slot (name := Str.ofString "__next__") hT F.slot_enumerate_next
    (wpAny_call_entry F.slot_enumerate_next hT F.entry_enumerate_next
      (en_item D he hst hlt hef fun x h' tk T t Z a1 a2 a3 a4 a5 a6 a7 a8 => wpAny_pure (hQ x h' tk T t Z a1 a2 a3 a4 a5 a6 a7 a8)) (F.args_enumerate_next_1 _))))
theorem en_pyNext_end {e it : Addr} {fp wr : List Addr} {n : Nat} {P : Nat → Value → Nat → Nat → Heap → Prop} {St : Nat → Heap → Prop} {i : Int} {Q : Option Value → Shared → Prop}
    (D : Dr prog w A.in1 it fp wr n P St) (he : EnA s.heap e it i) (hst : St n s.heap)
    (hQ : ∀ h' tk, (∀ b o, b ∉ wr → s.heap.get? b = some o → h'.get? b = some o) → Q none { s with heap := h', toks := tk }) : wpAny (model prog w) A (pyNext (.ref e)) Q E s := by
  obtain ⟨s0, f, old, hs0, he⟩ := he
  have hT : s.TypeIs (.ref e) "enumerate" := ⟨_, he, rfl⟩
  unfold pyNext
  refine wpAny_bind (wpAny_attempt (wpAny_callSpecial?_slot (name := Str.ofString "__next__") hT F.slot_enumerate_next
    (wpAny_call_entry F.slot_enumerate_next hT F.entry_enumerate_next ?_ (F.args_enumerate_next_1 _))))
  show wpAny _ _ (field (.ref e) 2 >>= _) _ _ _
  refine wpAny_bind (wpAny_field he rfl (x := .ref it) rfl ?_)
  refine wpAny_bind (D.done _ _ _ hst fun h' tk x he' hx' => ?_)
  obtain ⟨o, ho, hc⟩ := hx'
  refine wpAny_bind (wpAny_isInstance (T := "StopIteration") (b := true) ⟨o, ho, hc⟩ isSubtype_stop ?_)
  exact wpAny_pure (hQ _ _ he')
theorem en_go {tg : Expr} {e it : Addr} {u : Value} {i : Int} {Q : Unit → Shared → Prop} (he : EnA s.heap e it i)
    (hQ : ∀ h', EnA h' e it i → Heap.SameBut e s.heap h' → Q () { s with heap := h' }) : wpAny (model prog w) A (letOwnedTupleGo tg (.ref e) u) Q E s := by
  have hk : Q () s := hQ s.heap he (Heap.SameBut.refl _ _)
  obtain ⟨s0, f, old, hs0, he⟩ := he
  have go : ∀ a : Addr, wpAny (model prog w) A (do
      let o ← load e
      match o.cls, o.data with
      | .type n, .fields vs =>
        if ["enumerate", "zip", "dict_itemiterator", "dict_reverseitemiterator", "odict_iterator", "itertools.zip_longest", "itertools.pairwise"].contains n && vs[0]? == some (rawInt a) then
          rule "for.unpacks-the-owned-tuple"
          updateField e 0 .none
      | _, _ => pure ()) Q E s := by
    intro a
    refine wpAny_bind (wpAny_load he ?_)
    show wpAny _ A (if (_ && (some s0 == some (rawInt a))) = true then _ else _) Q E s
    split
    · refine wpAny_bind (wpAny_rule ?_)
      show wpAny _ A (setField (.ref e) 0 .none) Q E s
      exact wpAny_setField_rec he (by simp) fun h' he' hs' => hQ h' ⟨_, _, _, .inl rfl, he'⟩ hs'
    · exact wpAny_pure hk
  unfold letOwnedTupleGo
  cases tg <;> first | exact wpAny_pure hk | (cases u <;> first | exact wpAny_pure hk | exact go _)
end
section
variable {prog : Program} {w : World} {A : Around} {E : Value → Shared → Prop} {s : Shared} {z TI TO i1 i2 : Addr} {fp1 fp2 : List Addr} {n1 n2 i : Nat} {P1 P2 : Nat → Value → Prop} {St1 St2 : Nat → Heap → Prop} {a1 a2 : Value}
def OutZ (h : Heap) (TO : Addr) : Prop := ∃ a1 a2, IsTupOf2 h TO a1 a2
end
end DL
set_option Elab.async false
set_option linter.all false
set_option maxRecDepth 100000
set_option maxHeartbeats 1000000
namespace DL
open PySem PySem.Spec PyProof.Rows L2
theorem vals_rev : ∀ {xs : List V} {us : List Value} {i : Nat} {u : Value}, Vals xs us → us[i]? = some u → ∃ x, xs[i]? = some x ∧ RelV x u
  | _, _, _, _, .nil, e => by simp at e
  | _, _, 0, _, .cons r _, e => by simp at e; subst e; exact ⟨_, rfl, r⟩
  | _, _, i + 1, u, .cons _ t, e => by
    obtain ⟨x, h1, h2⟩ := vals_rev (i := i) (u := u) t (by simpa using e)
    exact ⟨x, by simpa using h1, h2⟩
theorem iter_en {prog : Program} {w : World} {A : Around} {E : Value → Shared → Prop} {s : Shared} {e it : Addr} {i : Int} {Q : Value → Shared → Prop} (he : EnA s.heap e it i) (h : Q (.ref e) s) : wpAny (model prog w) A (pyIter (.ref e)) Q E s := by
  obtain ⟨_, _, _, _, q⟩ := he
  have hT : s.TypeIs (.ref e) "enumerate" := ⟨_, q, rfl⟩
  refine wpAny_pyIter_slot hT F.slot_enumerate_iter (wpAny_call_entry F.slot_enumerate_iter hT F.entry_enumerate_iter ?_ (F.args_enumerate_iter_1 _))
  show wpAny _ _ (ret (.ref e)) _ _ s
  exact wpAny_pure ⟨_, rfl, "enumerate", _, hT, F.slot_enumerate_next.lookup, h⟩
/-- what each draw does, with the store known -/
structure Pull (P : Program) (w : World) (K : PySem.W.Frag) (J : It) (fp : List Addr) (it : Addr) (tn : Nat → Heap → Prop) : Prop where
  mem : it ∈ fp
  obj : ∀ i h, tn i h → ∀ b ∈ fp, ∃ o, h.get? b = some o ∧ ∀ v, o.data ≠ .cell v
  keep : ∀ i h h', tn i h → (∀ b ∈ fp, ∀ o, h.get? b = some o → h'.get? b = some o) → tn i h'
  item : ∀ (X : Cx), X.prog = P → X.w = w → X.K = K → ∀ (A : Around), A.handled = none → ∀ (i : Nat) (pins : List (Addr × Obj)) (s : Shared) (σ : L2.St) (H : Hp) (E : Value → Shared → Prop), Inv X pins σ H s → (∀ b ∈ fp, FpOk X pins H b) → tn i s.heap → J.go i H →
    wpAny (model P w) A (pyNext (.ref it)) (fun r s1 => ∃ u, r = some u ∧ ∃ x H', Inv X pins σ H' s1 ∧ RelV x u ∧ J.yld i H x H' ∧ tn (i + 1) s1.heap ∧ ∀ b ∈ fp, H' b = none) E s
  done : ∀ (X : Cx), X.prog = P → X.w = w → X.K = K → ∀ (A : Around), A.handled = none → ∀ (i : Nat) (pins : List (Addr × Obj)) (s : Shared) (σ : L2.St) (H : Hp) (E : Value → Shared → Prop), Inv X pins σ H s → (∀ b ∈ fp, FpOk X pins H b) → tn i s.heap → J.stop i H →
    wpAny (model P w) A (pyNext (.ref it)) (fun r s1 => r = none ∧ Inv X pins σ H s1) E s
theorem turn_of {P : Program} {w : World} {K : PySem.W.Frag} {tg : Expr} {J : It} {fp : List Addr} {it : Addr} {tn : Nat → Heap → Prop} (p : Pull P w K J fp it tn)
    (go : ∀ (A : Around) (i : Nat) (s : Shared) (u : Value) (Q : Unit → Shared → Prop) (E : Value → Shared → Prop), tn i s.heap → (∀ h', tn i h' → Heap.SameBut it s.heap h' → Q () { s with heap := h' }) → wpAny (model P w) A (letOwnedTupleGo tg (.ref it) u) Q E s)
    (self : ∀ (A : Around) (i : Nat) (s : Shared) (Q : Value → Shared → Prop) (E : Value → Shared → Prop), tn i s.heap → Q (.ref it) s → wpAny (model P w) A (pyIter (.ref it)) Q E s) : Turn P w K tg J fp it tn where
  mem := p.mem
  obj := p.obj
  keep := p.keep
  item := by
    intro X hP hw hK hc i pins s σ H E I hf st hg
    refine thn (p.item X hP hw hK X.A (I.ok.hd hc) i pins s σ H E I hf st hg) fun r s1 ⟨u, hr, x, H', I', rel, y, st', fn⟩ => ⟨u, hr, go _ _ _ _ _ _ st' fun h' st2 sb => ⟨x, H', ?_, rel, y, st2, fn⟩⟩
    exact I'.turnedL (t' := s1.toks) (ch := [it]) (fun b o hb q => (sb.2 b (fun z => hb (by simp [z]))).trans q) fun b hb => by rw [List.mem_singleton.mp hb]; exact ⟨fn it p.mem, (hf it p.mem).2⟩
  done := fun X hP hw hK hc i pins s σ H E I hf st hg => p.done X hP hw hK X.A (I.ok.hd hc) i pins s σ H E I hf st hg
  self := self
inductive Sq | lst (a : Addr) | tup (a : Addr) | str (z : Str)
namespace Sq
def v : Sq → V
  | lst a => .ref a
  | tup a => .ref a
  | str z => .str z
def val (t : Tok) : Sq → Value
  | lst a => .ref a
  | tup a => .ref a
  | str z => .str z t
def its (K : PySem.W.Frag) (H : Hp) (xs : List V) : Sq → Prop
  | lst a => SqL K H a xs
  | tup a => SqT K H a xs
  | str z => xs = z.cps.toList.map fun c => V.str ⟨#[c]⟩
def st (t : Tok) (it : Addr) (i : Nat) (h : Heap) : Sq → Prop
  | lst a => h.IsListIter it a i
  | tup a => h.IsTupleIter it a i
  | str z => h.IsStrIter it (strIterType z) z t i
def addr : Sq → List Addr
  | lst a => [a]
  | tup a => [a]
  | str z => []
theorem rel {S : Sq} {u : Value} (r : RelV S.v u) : ∃ t, u = S.val t := by
  cases S with
  | lst a => exact ⟨0, r⟩
  | tup a => exact ⟨0, r⟩
  | str z => exact r
theorem inj {X : Cx} {pins : List (Addr × Obj)} {σ : L2.St} {H : Hp} {s : Shared} (I : Inv X pins σ H s) {S : Sq} {xs ys : List V} (h : S.its X.K H xs) (h' : S.its X.K H ys) : xs = ys := by
  cases S with
  | lst a => exact I.list_inj h h'
  | tup a => exact I.tuple_inj h h'
  | str z => exact (show xs = _ from h).trans (show ys = _ from h').symm
theorem stLive {S : Sq} {t : Tok} {it : Addr} {i : Nat} {h : Heap} (q : S.st t it i h) : ∃ o, h.get? it = some o ∧ ∃ vs, o.data = .fields vs := by
  cases S with
  | lst a => obtain ⟨o, e, _, d⟩ := q; exact ⟨o, e, _, d⟩
  | tup a => obtain ⟨o, e, _, d⟩ := q; exact ⟨o, e, _, d⟩
  | str z => obtain ⟨o, e, _, d⟩ := q; exact ⟨o, e, _, d⟩
theorem stAt {S : Sq} {t : Tok} {it : Addr} {i : Nat} {h h' : Heap} (q : S.st t it i h) (k : ∀ o, h.get? it = some o → h'.get? it = some o) : S.st t it i h' := by
  cases S with
  | lst a => obtain ⟨o, e, r⟩ := q; exact ⟨o, k o e, r⟩
  | tup a => obtain ⟨o, e, r⟩ := q; exact ⟨o, k o e, r⟩
  | str z => obtain ⟨o, e, r⟩ := q; exact ⟨o, k o e, r⟩
/-- the draws of its iterator, as things stand -/
theorem draws {X : Cx} {pins : List (Addr × Obj)} {σ : L2.St} {H : Hp} {s : Shared} (I : Inv X pins σ H s) {S : Sq} {xs : List V} (h : S.its X.K H xs) {t : Tok} {it : Addr} (hn : it ∉ S.addr) (A : Around) (hh : A.handled = none) :
    ∃ (fp : List Addr) (P : Nat → Value → Prop) (St : Nat → Heap → Prop), Draws X.prog X.w A it (it :: fp) xs.length P St ∧ (∀ b ∈ fp, b ∈ S.addr) ∧ (∀ i, S.st t it i s.heap → St i s.heap) ∧ (∀ i h, St i h → S.st t it i h) ∧ ∀ i u, P i u → ∃ x, xs[i]? = some x ∧ RelV x u := by
  cases S with
  | lst a =>
    obtain ⟨its, rv, p, hz⟩ := I.list h
    have e : its.toArray.size = xs.length := by rw [List.size_toArray, rv.length]
    refine ⟨[a], _, _, e ▸ Draws.list hh it a (fun q => hn (by rw [q]; exact List.mem_singleton_self _)) its.toArray, fun b hb => hb, fun i q => ⟨q, p.isList⟩, fun i h q => q.1, fun i u q => ?_⟩
    exact vals_rev rv (by simpa using q)
  | tup a =>
    obtain ⟨its, rv, p, hz⟩ := I.tuple h
    have e : its.toArray.size = xs.length := by rw [List.size_toArray, rv.length]
    refine ⟨[a], _, _, e ▸ Draws.tuple hh it a (fun q => hn (by rw [q]; exact List.mem_singleton_self _)) its.toArray, fun b hb => hb, fun i q => ⟨q, p⟩, fun i h q => q.1, fun i u q => ?_⟩
    exact vals_rev rv (by simpa using q)
  | str z =>
    have h' : xs = z.cps.toList.map fun c => V.str ⟨#[c]⟩ := h
    subst h'
    have e : z.cps.size = (z.cps.toList.map fun c => V.str ⟨#[c]⟩).length := by simp
    refine ⟨[], _, _, e ▸ Draws.text hh it z t, fun b hb => hb, fun i q => q, fun i h q => q, fun i u q => ?_⟩
    obtain ⟨c, u, hc, rfl⟩ := q
    exact ⟨.str ⟨#[c]⟩, by simp [hc], u, rfl⟩
def obj (t : Tok) : Sq → Obj
  | lst a => { cls := .type "list_iterator", data := .fields #[.ref a, .int 0 0] }
  | tup a => { cls := .type "tuple_iterator", data := .fields #[.ref a, .int 0 0] }
  | str z => { cls := .type (strIterType z), data := .fields #[.str z t, .int 0 0] }
theorem begins {X : Cx} {pins : List (Addr × Obj)} {σ : L2.St} {H : Hp} {s : Shared} (I : Inv X pins σ H s) {S : Sq} {xs : List V} (h : S.its X.K H xs) (t : Tok) : ∃ Hp, Begins (S.val t) (S.obj t) Hp ∧ Hp s.heap := by
  cases S with
  | lst a =>
    obtain ⟨its, rv, p, hz⟩ := I.list h
    exact ⟨_, begins_list a its.toArray, p.isList⟩
  | tup a =>
    obtain ⟨its, rv, p, hz⟩ := I.tuple h
    exact ⟨_, begins_tuple a its.toArray, p⟩
  | str z => exact ⟨_, begins_text z t, trivial⟩
theorem st0 {S : Sq} {t : Tok} {it : Addr} {h : Heap} (e : h.get? it = some (S.obj t)) : S.st t it 0 h := by
  cases S with
  | lst a => exact ⟨_, e, rfl, rfl⟩
  | tup a => exact ⟨_, e, rfl, rfl⟩
  | str z => exact ⟨_, e, rfl, rfl⟩
theorem addr_lt {X : Cx} {pins : List (Addr × Obj)} {σ : L2.St} {H : Hp} {s : Shared} (I : Inv X pins σ H s) {S : Sq} {xs : List V} (h : S.its X.K H xs) : ∀ b ∈ S.addr, b < s.heap.objs.size := by
  cases S with
  | lst a =>
    obtain ⟨its, rv, ⟨o, n, e, _⟩, hz⟩ := I.list h
    intro b hb
    rw [List.mem_singleton.mp hb]
    exact Heap.lt_size e
  | tup a =>
    obtain ⟨its, rv, ⟨o, e, _⟩, hz⟩ := I.tuple h
    intro b hb
    rw [List.mem_singleton.mp hb]
    exact Heap.lt_size e
  | str z => intro b hb; cases hb
end Sq
theorem tup_ok {P : Program} {w : World} {H : Hp} {h : Heap} {T : Addr} {xs : List V} {us : List Value} (hl : xs.length ≤ sizeLine) (r : Vals xs us) (hT : h.get? T = some { cls := .type "tuple", data := .seq us.toArray }) : ObjOk P w H h T (.tup xs) :=
  ⟨hl, us, r, ⟨_, hT, rfl, _, rfl⟩⟩

def Jen (K : PySem.W.Frag) (S : Sq) (n : Nat) : It :=
  ⟨fun i H => i < n ∧ ∃ xs, S.its K H xs ∧ xs.length = n, fun i H v H' => ∃ T x, v = .ref T ∧ H T = none ∧ H' = upd H T (.tup [.int (i : Nat), x]) ∧ ∀ xs, S.its K H xs → xs[i]? = some x, fun i H => n ≤ i ∧ ∃ xs, S.its K H xs ∧ xs.length = n⟩
theorem pull_en {P : Program} {w : World} {K : PySem.W.Frag} (S : Sq) (t : Tok) (e it : Addr) (n : Nat) (hne : e ≠ it) (h1 : e ∉ S.addr) (h2 : it ∉ S.addr) :
    Pull P w K (Jen K S n) [e, it] e (fun i h => i ≤ n ∧ EnA h e it (i : Nat) ∧ S.st t it i h) where
  mem := by simp
  obj := fun i h st b hb => by
    obtain ⟨_, ⟨_, _, _, _, he⟩, hs⟩ := st
    have e' : b = e ∨ b = it := by simpa using hb
    rcases e' with z | z
    · rw [z]; exact ⟨_, he, fun v q => nomatch q⟩
    · rw [z]
      obtain ⟨o, ho, vs, hd⟩ := Sq.stLive hs
      exact ⟨o, ho, fun v q => by rw [hd] at q; cases q⟩
  keep := fun i h h' st k => by
    obtain ⟨hi, ⟨s0, f, old, h0, he⟩, hs⟩ := st
    exact ⟨hi, ⟨s0, f, old, h0, k e (by simp) _ he⟩, Sq.stAt hs fun o q => k it (by simp) o q⟩
  item := by
    intro X hP hw hK A hh i pins s σ H E I hf st hg
    subst hP hw hK
    obtain ⟨hle, hen, hs⟩ := st
    obtain ⟨hi, xs, hq, hl⟩ := hg
    obtain ⟨fp, Pv, St, D, hfp, up, down, val⟩ := Sq.draws I hq (t := t) h2 A.in1 hh
    refine en_pyNext_item (Dr.of D (by simp)) hen (up i hs) (by omega) (fun q => ?_) fun x h' tk T t' Z p hN hZ hT hen' hs' hTup hk => ?_
    · rcases List.mem_cons.mp q with q | q
      · exact hne q
      · exact h1 (hfp _ q)
    · obtain ⟨xv, hx, rx⟩ := val i x p
      have hTl : s.heap.objs.size ≤ T := Nat.le_trans hN hZ
      have hel : e < s.heap.objs.size := by obtain ⟨_, _, _, _, q⟩ := hen; exact Heap.lt_size q
      have hil : it < s.heap.objs.size := by obtain ⟨o, q, _⟩ := Sq.stLive hs; exact Heap.lt_size q
      have I1 : Inv X pins σ (upd H T (.tup [.int (i : Nat), xv])) { s with heap := h', toks := tk } :=
        I.turnedNew (ch := [e, it]) (fun b ob hb q => hk b ob (fun z => hb (by simp [z])) (fun z => hb (by simp at z; simp [z])) q) hf hTl (tup_ok (by show 2 ≤ sizeLine; decide) (.cons ⟨_, rfl⟩ (.cons rx .nil)) hTup)
      refine ⟨_, rfl, .ref T, _, I1, rfl, ⟨T, xv, rfl, I.hok.fresh hTl, rfl, fun ys hy => by rw [Sq.inj I hy hq]; exact hx⟩, ⟨by omega, hen', down _ _ hs'⟩, fun b hb => ?_⟩
      have hb' : b < s.heap.objs.size := by
        have e' : b = e ∨ b = it := by simpa using hb
        rcases e' with z | z
        · rw [z]; exact hel
        · rw [z]; exact hil
      rw [upd_ne (Nat.ne_of_lt (Nat.lt_of_lt_of_le hb' hTl))]
      exact (hf b hb).1
  done := by
    intro X hP hw hK A hh i pins s σ H E I hf st hg
    subst hP hw hK
    obtain ⟨hle, hen, hs⟩ := st
    obtain ⟨hi, xs, hq, hl⟩ := hg
    obtain ⟨fp, Pv, St, D, hfp, up, down, val⟩ := Sq.draws I hq (t := t) h2 A.in1 hh
    have e1 : i = xs.length := by omega
    exact en_pyNext_end (Dr.of D (by simp)) hen (by rw [← e1]; exact up i hs) fun h' tk k => ⟨rfl, I.turnedL (ch := [e, it]) (fun b o hb q => k b o (fun z => hb (by simp at z; simp [z])) q) hf⟩
theorem turn_en {P : Program} {w : World} {K : PySem.W.Frag} {tg : Expr} (S : Sq) (t : Tok) (e it : Addr) (n : Nat) (hne : e ≠ it) (h1 : e ∉ S.addr) (h2 : it ∉ S.addr) :
    Turn P w K tg (Jen K S n) [e, it] e (fun i h => i ≤ n ∧ EnA h e it (i : Nat) ∧ S.st t it i h) :=
  turn_of (pull_en S t e it n hne h1 h2) (fun A i s u Q E st hQ => en_go st.2.1 fun h' q sb => hQ h' ⟨st.1, q, Sq.stAt st.2.2 fun o q => (sb.2 it (Ne.symm hne)).trans q⟩ sb) fun A i s Q E st h => iter_en st.2.1 h

/-- the cells of a zip: apart, and apart from what it goes over -/
structure ZiAp (S1 S2 : Sq) (z TI TO i1 i2 : Addr) : Prop where
  TIz : TI ≠ z
  TOz : TO ≠ z
  TITO : TI ≠ TO
  TIi1 : TI ≠ i1
  TIi2 : TI ≠ i2
  zi1 : z ≠ i1
  zi2 : z ≠ i2
  TOi1 : TO ≠ i1
  TOi2 : TO ≠ i2
  i12 : i1 ≠ i2
  out : ∀ b, b ∈ S1.addr ∨ b ∈ S2.addr → b ≠ z ∧ b ≠ TI ∧ b ≠ TO ∧ b ≠ i1 ∧ b ≠ i2
section
variable {S1 S2 : Sq} {z TI TO i1 i2 : Addr}
theorem ZiAp.sep (D : ZiAp S1 S2 z TI TO i1 i2) {fp1 fp2 : List Addr} (h1 : ∀ b ∈ fp1, b ∈ S1.addr) (h2 : ∀ b ∈ fp2, b ∈ S2.addr) : ZipSep2 z TI TO i1 i2 (i1 :: fp1) (i2 :: fp2) := by
  have o1 : ∀ b ∈ fp1, b ≠ z ∧ b ≠ TI ∧ b ≠ TO ∧ b ≠ i1 ∧ b ≠ i2 := fun b hb => D.out b (.inl (h1 b hb))
  have o2 : ∀ b ∈ fp2, b ≠ z ∧ b ≠ TI ∧ b ≠ TO ∧ b ≠ i1 ∧ b ≠ i2 := fun b hb => D.out b (.inr (h2 b hb))
  refine ⟨D.TIz, D.TOz, D.TITO, D.TIi1, List.mem_cons_self, ?_, ?_, D.TIi2, List.mem_cons_self, ?_, ?_, ?_, ?_⟩
  · intro q; rcases List.mem_cons.mp q with q | q
    · exact D.zi1 q
    · exact (o1 _ q).1 rfl
  · intro q; rcases List.mem_cons.mp q with q | q
    · exact D.TOi1 q
    · exact (o1 _ q).2.2.1 rfl
  · intro q; rcases List.mem_cons.mp q with q | q
    · exact D.zi2 q
    · exact (o2 _ q).1 rfl
  · intro q; rcases List.mem_cons.mp q with q | q
    · exact D.TOi2 q
    · exact (o2 _ q).2.2.1 rfl
  · intro q; rcases List.mem_cons.mp q with q | q
    · exact D.i12 q
    · exact (o2 _ q).2.2.2.1 rfl
  · intro q; rcases List.mem_cons.mp q with q | q
    · exact D.i12 q.symm
    · exact (o1 _ q).2.2.2.2 rfl
def ZiSt (S1 S2 : Sq) (t1 t2 : Tok) (z TI TO i1 i2 : Addr) (i : Nat) (h : Heap) : Prop := ZiA h z TI TO ∧ IsTupOf2 h TI (.ref i1) (.ref i2) ∧ OutZ h TO ∧ S1.st t1 i1 i h ∧ S2.st t2 i2 i h
theorem ZiSt.keep {t1 t2 : Tok} {i : Nat} {h h' : Heap} (st : ZiSt S1 S2 t1 t2 z TI TO i1 i2 i h) (k : ∀ b ∈ [z, TI, TO, i1, i2], ∀ o, h.get? b = some o → h'.get? b = some o) : ZiSt S1 S2 t1 t2 z TI TO i1 i2 i h' := by
  obtain ⟨⟨_, _, h0, hz⟩, hTI, ⟨_, _, hTO⟩, s1, s2⟩ := st
  exact ⟨⟨_, _, h0, k z (by simp) _ hz⟩, k TI (by simp) _ hTI, ⟨_, _, k TO (by simp) _ hTO⟩, Sq.stAt s1 fun o q => k i1 (by simp) o q, Sq.stAt s2 fun o q => k i2 (by simp) o q⟩
theorem ZiSt.obj {t1 t2 : Tok} {i : Nat} {h : Heap} (st : ZiSt S1 S2 t1 t2 z TI TO i1 i2 i h) : ∀ b ∈ [z, TI, TO, i1, i2], ∃ o, h.get? b = some o ∧ ∀ v, o.data ≠ .cell v := by
  obtain ⟨⟨_, _, h0, hz⟩, hTI, ⟨_, _, hTO⟩, s1, s2⟩ := st
  intro b hb
  have e' : b = z ∨ b = TI ∨ b = TO ∨ b = i1 ∨ b = i2 := by simpa using hb
  rcases e' with q | q | q | q | q
  · rw [q]; exact ⟨_, hz, fun v q => nomatch q⟩
  · rw [q]; exact ⟨_, hTI, fun v q => nomatch q⟩
  · rw [q]; exact ⟨_, hTO, fun v q => nomatch q⟩
  · rw [q]; obtain ⟨o, ho, vs, hd⟩ := Sq.stLive s1; exact ⟨o, ho, fun v q => by rw [hd] at q; cases q⟩
  · rw [q]; obtain ⟨o, ho, vs, hd⟩ := Sq.stLive s2; exact ⟨o, ho, fun v q => by rw [hd] at q; cases q⟩
end
end DL
set_option Elab.async false
set_option linter.all false
set_option maxRecDepth 100000
set_option maxHeartbeats 1000000
namespace DL
open PySem
open Sem (wp)
set_option maxHeartbeats 2000000 in
theorem meets_en1 {v : Value} {H : Heap → Prop} {itA : Heap → Addr} {grow : Heap → Heap} (B : ∀ (prog : Program) (w : World) (A : Around) (E : Value → Shared → Prop) (s : Shared) (Q : Value → Shared → Prop), H s.heap → Q (.ref (itA s.heap)) { s with heap := grow s.heap } → wpAny (model prog w) A (pyIter v) Q E s) :
    Meets (Builtin.«enumerate.__new__» ⟨[.type "enumerate", v], []⟩) (fun _ R s => H s.heap ∧
      R (.ok (.ret (.ref (grow s.heap).objs.size))) { s with heap := (grow s.heap).push { cls := .type "enumerate", data := .fields #[.none, .bool false, .ref (itA s.heap), rawInt 0, .none, .none] } }) :=
  .of_wp fun prog w A R s h => by
    obtain ⟨hp, g, d, tk, os⟩ := s; obtain ⟨h1, h⟩ := h
    have hsub := sub_enumerate
    have q1 : ∀ {A' : Around} {E : Value → Shared → Prop} {Q : Value → Shared → Prop}, Q (.ref (itA hp)) ⟨grow hp, g, d, tk, os⟩ → wpAny (model prog w) A' (pyIter v) Q E ⟨hp, g, d, tk, os⟩ :=
      fun q => B prog w _ _ ⟨hp, g, d, tk, os⟩ _ h1 q
    wp_walk using q1
    refine wpAny_stack_any fun st => wpAny_pure ?_
    split
    · rename_i c _ _ _ _ _
      cases (c == Value.type "enumerate")
      · wp_walk using q1
        exact ⟨_, rfl, h⟩
      · wp_walk using q1
        exact ⟨_, rfl, h⟩
    · wp_walk using q1
      exact ⟨_, rfl, h⟩
section
variable {prog : Program} {w : World} {A : Around} {E : Value → Shared → Prop} {s : Shared}
theorem en_begins {v : Value} {H : Heap → Prop} {itA : Heap → Addr} {grow : Heap → Heap} {Q : Value → Shared → Prop} (B : ∀ (prog : Program) (w : World) (A : Around) (E : Value → Shared → Prop) (s : Shared) (Q : Value → Shared → Prop), H s.heap → Q (.ref (itA s.heap)) { s with heap := grow s.heap } → wpAny (model prog w) A (pyIter v) Q E s) (h1 : H s.heap)
    (h : ∀ h', EnA h' (grow s.heap).objs.size (itA s.heap) ((0 : Nat) : Int) → h'.objs.size = (grow s.heap).objs.size + 1 →
      (∀ b o, (grow s.heap).get? b = some o → h'.get? b = some o) → Q (.ref (grow s.heap).objs.size) { s with heap := h' }) :
    wpAny (model prog w) A (call (.type "enumerate") [v]) Q E s := by
  refine callType_new F.called_enumerate (by decide) (F.typeCall_enumerate_1 _) (F.newCall_enumerate_1 _) (fun obj => F.args_object_init_2 obj _) F.entry_enumerate_new (meets_en1 B) ⟨h1, ?_⟩
  have he : ((grow s.heap).push { cls := .type "enumerate", data := .fields #[.none, .bool false, .ref (itA s.heap), rawInt 0, .none, .none] }).get? (grow s.heap).objs.size = some (enObj .none false (itA s.heap) 0 .none) := Heap.get?_push_size _ rfl
  show _ ∧ _
  exact ⟨⟨_, he, rfl⟩, h _ ⟨_, _, _, .inl rfl, he⟩ (by rw [Heap.size_push]) fun b o x => Heap.get?_push_of_some _ x⟩
end
open PySem.Spec PyProof.Rows L2
def iEn (K : PySem.W.Frag) (ta : TA) : TI := fun σ H R => ta σ H fun vs H1 => ∃ (S : Sq) (xs : List V), vs = [S.v] ∧ S.its K H1 xs ∧ R (Jen K S xs.length) H1
theorem pi_en {X : Cx} {tg e : Expr} {ta : TA} {p pos : Pos} (hg : Gl X "enumerate") (hm : X.mg "enumerate" = none) (ha : PA X [e] ta) (hs : starEach [e] X.env = [(false, eval e X.env)] := by rfl) :
    PI X tg (.Call (.Name "enumerate" p) [e] [] pos) (iEn X.K ta) := by
  refine ⟨fun pins s σ H R I h => ?_⟩
  refine Call_ (ld_blt I hg hm boot_enumerate (PyProof.Rows.callWith_type1 (thn (ha.run pos pins s σ H _ I h) fun us s1 ⟨vs, H1, I1, r1, q1⟩ => ?_) hs rfl))
  obtain ⟨S, xs, rfl, hq, q⟩ := q1
  obtain ⟨u, rfl, ru⟩ := vals1 r1
  obtain ⟨t, rfl⟩ := Sq.rel ru
  obtain ⟨Hp, B, hHp⟩ := Sq.begins I1 hq t
  have lt := Sq.addr_lt I1 hq
  refine en_begins (itA := fun h => h.objs.size) (grow := fun h => h.push (S.obj t)) (fun prog w A E s Q h q => B.iter prog w A E s Q h q) hHp fun h' he hsz hk => ?_
  have hz : (s1.heap.push (S.obj t)).objs.size = s1.heap.objs.size + 1 := Heap.size_push ..
  simp only [hz] at he hsz hk ⊢
  refine iter_en he ?_
  have I2 : Inv X pins σ H1 { s1 with heap := h' } := I1.kept (t' := s1.toks) fun b o e => hk b o (Heap.get?_push_of_some _ e)
  refine ⟨s1.heap.objs.size + 1, [s1.heap.objs.size + 1, s1.heap.objs.size], _, _, H1, rfl, I2, turn_en S t (s1.heap.objs.size + 1) s1.heap.objs.size xs.length (Nat.succ_ne_self _) (fun z => ?_) (fun z => ?_), ⟨Nat.zero_le _, he, Sq.st0 (hk _ _ (Heap.get?_push_size _ B.free))⟩, fun b hb => ?_, q⟩
  · have := lt _ z
    exact absurd this (Nat.not_lt_of_le (Nat.le_succ _))
  · exact absurd (lt _ z) (Nat.lt_irrefl _)
  · have e' : b = s1.heap.objs.size + 1 ∨ b = s1.heap.objs.size := by simpa using hb
    have hle : s1.heap.objs.size ≤ b := by
      rcases e' with z | z
      · rw [z]; exact Nat.le_add_right _ _
      · rw [z]; exact Nat.le_refl _
    exact I1.fpOk hle (I1.hok.fresh hle)
section
variable {M : Ghost} {C : Ct M} {W W1 W2 W' : Wd M} {σ : L2.St} {ρ : DEnv} {e : Expr} {we : EW M} {pos p : Pos}
/-- a sequence as a source, for good -/
structure SqD (K : PySem.W.Frag) (W : Wd M) (S : Sq) (vs : List V) (ds : List D) : Prop where
  its : ∀ W', Gs W W' → Wok K W' → S.its K W'.H vs
  rd : RpA K W.F W.R vs ds
theorem sqd_of {K : PySem.W.Frag} {v : V} {d : D} {ds : List D} (k : Wok K W) (r : Rp K W.F W.R v d) (h : itemsOf d = some ds) : ∃ S vs, v = Sq.v S ∧ SqD K W S vs ds := by
  cases d with
  | lst ds' =>
    cases h
    cases r with
    | lst h r2 => exact ⟨.lst _, _, rfl, fun W' g k' => .of (k'.sub _ _ (g.sub _ _ h)), r2⟩
  | tup ds' =>
    cases h
    cases r with
    | tup h r2 => exact ⟨.tup _, _, rfl, fun W' g k' => same_tup k'.sub (same_tup g.sub h), r2⟩
  | str x =>
    cases h
    cases r with
    | str z _ h =>
      subst h
      refine ⟨.str z, z.cps.toList.map fun c => V.str ⟨#[c]⟩, rfl, fun W' g k' => rfl, ?_⟩
      have : ∀ l : List Nat, RpA K W.F W.R (l.map fun c => V.str ⟨#[c]⟩) (l.map fun c => D.str [c]) := fun l => by
        induction l with
        | nil => exact .nil
        | cons c l ih => exact .cons (.str _ _ rfl) ih
      exact this _
  | _ => cases h
theorem SqD.step {K : PySem.W.Frag} {S : Sq} {vs : List V} {ds : List D} (h : SqD K W S vs ds) (g : Go W W1) : SqD K W1 S vs ds := ⟨fun W' g' k' => h.its W' (g.s.trans g') k', h.rd.step g⟩
theorem idx_inj {K : PySem.W.Frag} {S : Sq} {vs : List V} {ds : List D} (h : SqD K W S vs ds) (g : Gs W W1) (k : Wok K W1) {i : Nat} {x : V} {d : D} (hd : ds[i]? = some d) (hx : ∀ xs, S.its K W1.H xs → xs[i]? = some x) : Rp K W1.F W1.R x d := by
  obtain ⟨v, h1, h2⟩ := (h.rd.gs g).get' hd
  have := hx _ (h.its W1 g k)
  rw [h1] at this
  cases this
  exact h2
def enL : Nat → List D → List D
  | _, [] => []
  | n, d :: ds => .tup [.int (n : Nat), d] :: enL (n + 1) ds
theorem enL_get : ∀ (ds : List D) (n i : Nat), (enL n ds)[i]? = (ds[i]?).map fun d => .tup [.int ((n + i : Nat) : Int), d]
  | [], _, _ => by simp [enL]
  | d :: ds, n, 0 => by simp [enL]
  | d :: ds, n, i + 1 => by
    show (enL (n + 1) ds)[i]? = _
    rw [enL_get ds (n + 1) i, show n + 1 + i = n + (i + 1) by omega]
    simp
theorem wk_en {K : PySem.W.Frag} {S : Sq} {vs : List V} {ds : List D} (k0 : Wok K W) (h : SqD K W S vs ds) : WK K W (Jen K S vs.length) (enL 0 ds) where
  go := fun i W1 d g k e => by
    rw [enL_get, Nat.zero_add] at e
    cases hd : ds[i]? with
    | none => rw [hd] at e; cases e
    | some d0 =>
      rw [hd] at e
      cases e
      have hl : i < vs.length := by rw [h.rd.length]; exact (List.getElem?_eq_some_iff.mp hd).1
      refine ⟨⟨hl, vs, h.its W1 g k, rfl⟩, fun x H' y => ?_⟩
      obtain ⟨T, x, rfl, hT, rfl, hx⟩ := y
      have r := idx_inj h g k hd hx
      exact ⟨W1.lay T (.tup [.int (i : Nat), x]), rfl, Go.lay k hT, k.lay hT, rfl, .tup (.of upd_same) (.cons (.int _) (.cons (r.mono (same_new (k.noF hT)) fun _ _ z => z) .nil))⟩
  stop := fun i W1 g k e => by
    rw [enL_get, Nat.zero_add] at e
    refine ⟨?_, vs, h.its W1 g k, rfl⟩
    rw [h.rd.length]
    cases hd : ds[i]? with
    | none => exact List.getElem?_eq_none_iff.mp hd
    | some d0 => rw [hd] at e; cases e
@[simp] def wEnum (w : EW M) : IW M := fun ρ g q => w ρ g fun d g' => ∃ ds, itemsOf d = some ds ∧ q (enL 0 ds) g'
theorem di_enum {tg : Expr} (hm : C.X.mg "enumerate" = none) (he : DE C e we) (hg : Gl C.X "enumerate" := by rfl) (hs : starEach [e] C.X.env = [(false, eval e C.X.env)] := by rfl) (hs2 : starEach [e] C.X.env = (false, eval e C.X.env) :: starEach [] C.X.env := by rfl) :
    DI C tg (.Call (.Name "enumerate" p) [e] [] pos) (wEnum we) := ⟨fun σ ρ W R q S hR hw => iOf_of (pi_en hg hm (pa_cons pe_tOf pa_nil hs2) hs) (he.run σ ρ W _ _ S (fun v d W1 g1 k1 r1 q1 => by
  obtain ⟨ds, hd, q1⟩ := q1
  obtain ⟨S', vs, rfl, sq⟩ := sqd_of k1 r1 hd
  exact ⟨S', vs, rfl, sq.its W1 (Gs.refl _) k1, hR _ _ W1 g1 k1 (wk_en k1 sq) q1⟩) hw)⟩
variable {a b : Expr} {wa wb : EW M} {p2 pos2 : Pos}
end
end DL
set_option Elab.async false
set_option linter.all false
set_option maxRecDepth 100000
set_option maxHeartbeats 1000000
namespace DL
open PySem PySem.Spec PyProof.Rows L2
section
variable {X : Cx} {pins : List (Addr × Obj)} {σ : L2.St}
end
section
variable {M : Ghost} {C : Ct M} {W W1 W2 W' : Wd M} {σ : L2.St} {ρ : DEnv} {e : Expr} {we : EW M} {pos p : Pos}
variable {a b : Expr} {wa wb : EW M} {p2 pos2 : Pos}
end
end DL
set_option Elab.async false
set_option linter.all false
set_option maxRecDepth 100000
set_option maxHeartbeats 1000000
namespace DL
open PySem L2 StX
section
variable {M : Ghost} {C : Ct M} {W W1 W2 W' : Wd M} {σ : L2.St} {ρ : DEnv} {e : Expr} {es : List Expr} {we : EW M} {pos p : Pos} {wa : AW M}

def tyN : D → Option String
  | .non => some "NoneType"
  | .bl _ => some "bool"
  | .int _ => some "int"
  | .str _ => some "str"
  | .lst _ => some "list"
  | .tup _ => some "tuple"
  | .dic _ => some "dict"
  | .ob _ => none
  | .exn _ _ _ => none
  | .tx _ => none
  | .cl _ => none
def isTyp (t T : String) : Bool := t == T || (t == "bool" && T == "int")
/-- the answers of isinstance for the class T -/
structure KitTab (K : PySem.W.Frag) (T : String) : Prop where
  ok : ∀ t ∈ ["NoneType", "bool", "int", "str", "list", "tuple", "dict"], PySem.W.kitOne K (.type t) (.type T) = some (isTyp t T)
theorem tyN_mem {d : D} {t : String} (h : tyN d = some t) : t ∈ ["NoneType", "bool", "int", "str", "list", "tuple", "dict"] := by
  cases d <;> cases h <;> decide
theorem tyx_of {K : PySem.W.Frag} {v : V} {d : D} {t : String} (k : Wok K W) (r : RdP K W v d) (h : tyN d = some t) : TyX K W.H v (.type t) := by
  rcases r with r | ⟨p, vs, es, rfl, rfl, hp, np, ra⟩
  · cases r with
    | non => cases h; exact .base .non
    | bl b => cases h; exact .base (.bl b)
    | int i => cases h; exact .base (.int i)
    | str z x hz => cases h; exact .base (.str z)
    | lst hq r => cases h; exact .base (.lst (k.sub _ _ hq))
    | tup hq r =>
      cases h
      rcases hq with (hq | ⟨o, hq⟩) | ⟨o, its, n, hq, hc, _⟩
      · exact .base (.tup (k.sub _ _ hq))
      · exact .fTuple (k.sub _ _ hq)
      · exact .kTuple hq hc
    | dic hq r => cases h; exact .base (.dK (k.sub _ _ hq))
    | ob hq => cases h
    | exn0 => cases h
    | exn => cases h
    | tx => cases h
    | cl => cases h
  · cases h
    exact .base (.lst hp)
def isiD (T : String) (d : D) (q : D → Prop) : Prop := ∃ t, tyN d = some t ∧ q (.bl (isTyp t T))
@[simp] def wIsi (T : String) (we : EW M) : EW M := fun ρ g q => we ρ g fun d g' => isiD T d fun r => q r g'
theorem de_isi {x : Str} {T : String} {pT : Pos} (kt : KitTab C.X.K T) (he : DP C e we) (hm : C.X.mg "isinstance" = none) (hmT : C.X.mg x = none) (hv : bootBuiltins x = some (.type T)) (hnT : x ≠ "__name__" := by decide) (hdT : (x == ("__debug__" : Str)) = false := by decide) (hg : Gl C.X "isinstance" := by rfl) (hgT : Gl C.X x := by rfl)
    (h1 : starEach [e, .Name x pT] C.X.env = (false, eval e C.X.env) :: starEach [.Name x pT] C.X.env := by rfl) (h2 : starEach [.Name x pT] C.X.env = (false, eval (.Name x pT) C.X.env) :: starEach [] C.X.env := by rfl) (hpl : (backTo pos (starEach [.Name x pT] C.X.env)).any (·.1) = false := by rfl) :
    DE C (.Call (.Name "isinstance" p) [e, .Name x pT] [] pos) (wIsi T we) := ⟨fun σ ρ W Q q S hQ hw =>
  tOf_of (pe_callB call_isi hg hm PyProof.Rows.boot_isinstance (pa_cons pe_tOf (pa_cons (pe_bltn (v := .ty T) hgT hmT hv rfl hnT hdT) pa_nil h2) h1) (by decide) (by decide) h1 hpl)
    (he.run σ ρ W _ _ S (fun v d W1 g1 k1 r1 q1 => by
      obtain ⟨t, ht, q1⟩ := q1
      exact ⟨v, .ty T, .type t, .type T, isTyp t T, rfl, .ty T, tyx_of k1 r1 ht, kt.ok t (tyN_mem ht), hQ _ _ W1 g1 k1 (.bl _) q1⟩) hw)⟩
theorem kit_int {K : PySem.W.Frag} : KitTab K "int" := ⟨fun t h => by
  simp only [List.mem_cons, List.not_mem_nil, or_false] at h
  rcases h with rfl | rfl | rfl | rfl | rfl | rfl | rfl <;> rfl⟩
theorem kit_bool {K : PySem.W.Frag} : KitTab K "bool" := ⟨fun t h => by
  simp only [List.mem_cons, List.not_mem_nil, or_false] at h
  rcases h with rfl | rfl | rfl | rfl | rfl | rfl | rfl <;> rfl⟩
theorem kit_tuple {K : PySem.W.Frag} : KitTab K "tuple" := ⟨fun t h => by
  simp only [List.mem_cons, List.not_mem_nil, or_false] at h
  rcases h with rfl | rfl | rfl | rfl | rfl | rfl | rfl <;> rfl⟩
@[simp] def wAStar (w : EW M) (u : AW M) : AW M := fun ρ g q => w ρ g fun d g1 => ∃ ds, (d = .lst ds ∨ d = .tup ds) ∧ u ρ g1 fun es g2 => q (ds ++ es) g2
theorem da_star (he : DP C e we) (hr : DA C es wa) (hs : starEach (.Starred e p :: es) C.X.env = (true, eval e C.X.env) :: starEach es C.X.env := by rfl) : DA C (.Starred e p :: es) (wAStar we wa) := ⟨fun σ ρ W Q q S hQ hw =>
  aOf_of (pa_star pe_tOf pa_tOf hs) (he.run σ ρ W _ _ S (fun v d W1 g1 k1 r1 q1 => by
    obtain ⟨ds, hd, q1⟩ := q1
    have fr : ∃ (a : Addr) (vs : List V), v = .ref a ∧ (SqT C.X.K W1.H a vs ∨ SqL C.X.K W1.H a vs) ∧ RpA C.X.K W1.F W1.R vs ds := by
      rcases hd with rfl | rfl
      · obtain ⟨a, vs, rfl, hp, np, ra⟩ := r1.lst_inv k1
        exact ⟨a, vs, rfl, .inr (.of hp), ra⟩
      · obtain ⟨a, vs, rfl, hp, ra⟩ := r1.tup_inv
        exact ⟨a, vs, rfl, .inl (same_tup k1.sub hp), ra⟩
    obtain ⟨a, vs, rfl, hq, ra⟩ := fr
    exact ⟨a, vs, rfl, hq, hr.run σ ρ W1 _ _ (S.step g1 k1) (fun us es W2 g2 k2 r2 q2 => hQ (vs ++ us) (ds ++ es) W2 (g1.trans g2) k2 ((ra.step g2).append r2) q2) q1⟩) hw)⟩

def cInt : List D → (D → Prop) → Prop
  | [.int i], q => q (.int i)
  | [.bl b], q => q (.int (if b then 1 else 0))
  | [.str x], q => ∃ n, PySem.intText? (S x) = some n ∧ x.length ≤ 640 ∧ q (.int n)
  | _, _ => False
/-- the signs of a number -/
def dec (i : Int) : List Nat := (Str.ofString (toString i)).cps.toList
def cStr : List D → (D → Prop) → Prop
  | [.int i], q => i.natAbs.log2 < 1920 ∧ q (.str (dec i))
  | _, _ => False
def flatD : D → Bool
  | .non => true
  | .bl _ => true
  | .int _ => true
  | .str _ => true
  | _ => false
def eqF : D → D → Bool
  | .non, .non => true
  | .bl a, .bl b => a == b
  | .bl a, .int b => (if a then 1 else 0) == b
  | .int a, .bl b => a == (if b then 1 else 0)
  | .int a, .int b => a == b
  | .str a, .str b => a == b
  | _, _ => false
theorem str_beq (z z2 : Str) : (z == z2) = (z.cps.toList == z2.cps.toList) := by
  have : (z == z2) = decide (z = z2) := by
    cases h : decide (z = z2) with
    | true => exact (by simpa using h)
    | false => exact (by simpa using h)
  rw [this, Bool.beq_eq_decide_eq]
  refine decide_eq_decide.mpr ⟨fun h => by rw [h], fun h => ?_⟩
  obtain ⟨a⟩ := z
  obtain ⟨b⟩ := z2
  rw [show a = b from Array.toList_inj.mp h]
def oInB (f : Bool → Bool) : D → D → (D → Prop) → Prop
  | .str [c], .str z, q => q (.bl (f (decide (c ∈ z))))
  | d, .lst ds, q => flatD d = true ∧ ds.all flatD = true ∧ q (.bl (f (ds.any fun y => eqF y d)))
  | d, .tup ds, q => flatD d = true ∧ ds.all flatD = true ∧ q (.bl (f (ds.any fun y => eqF y d)))
  | _, _, _ => False
def oIn := oInB id
def oNotIn := oInB not
variable {a b c : Expr} {wx wy wz : EW M} {r r' : D → D → (D → Prop) → Prop}
@[simp] def wChain (r r' : D → D → (D → Prop) → Prop) (wx wy wz : EW M) : EW M := fun ρ g q => wx ρ g fun x g1 => wy ρ g1 fun y g2 => r x y fun t => isB t fun k => if k = true then wz ρ g2 fun z g3 => r' y z fun d => q d g3 else q (.bl false) g2
theorem chain_run {op op' : CmpOp} {r1 r2 : R2} (h1 : ∀ (W : Wd M) (x y : V) (d e : D) (Q : VK) (q : D → Prop), Wok C.X.K W → RdP C.X.K W x d → RdP C.X.K W y e → (∀ v d' W', Go W W' → Wok C.X.K W' → W'.g = W.g → Rp C.X.K W'.F W'.R v d' → q d' → Q v W'.H) → r d e q → r1 x y W.H Q)
    (h2 : ∀ (W : Wd M) (x y : V) (d e : D) (Q : VK) (q : D → Prop), Wok C.X.K W → RdP C.X.K W x d → RdP C.X.K W y e → (∀ v d' W', Go W W' → Wok C.X.K W' → W'.g = W.g → Rp C.X.K W'.F W'.R v d' → q d' → Q v W'.H) → r' d e q → r2 x y W.H Q)
    (ha : DP C a wx) (hb : DP C b wy) (hc : DP C c wz) {Q : VK} {q : D → M.G → Prop} (S : Sat C σ ρ W) (hQ : ∀ v d W', Go W W' → Wok C.X.K W' → Rp C.X.K W'.F W'.R v d → q d W'.g → Q v W'.H) (hw : wChain r r' wx wy wz ρ W.g q) :
    tChain r1 r2 (tOf C.X a) (tOf C.X b) (tOf C.X c) σ W.H Q :=
  ha.run σ ρ W _ _ S (fun v d W1 g1 k1 ra q1 => hb.run σ ρ W1 _ _ (S.step g1 k1) (fun u e W2 g2 k2 rb q2 => h1 W2 v u d e _ _ k2 (ra.step g2) rb (fun t dt W3 g3 k3 eg rt q3 => by
    obtain ⟨k, rfl, q3⟩ := isB_elim q3
    refine ⟨k, rt.bl_inv, ?_⟩
    have eg' : W2.g = W3.g := eg.symm
    cases k with
    | true =>
      replace q3 : wz ρ W2.g fun z g3 => r' e z fun d => q d g3 := q3
      rw [eg'] at q3
      refine iteT ?_
      exact hc.run σ ρ W3 _ _ ((S.step (g1.trans g2) k2).step g3 k3) (fun z f W4 g4 k4 rc q4 => h2 W4 u z e f _ _ k4 ((rb.step g3).step g4) rc (fun v' d' W5 g5 k5 eg5 r5 q5 => hQ v' d' W5 ((((g1.trans g2).trans g3).trans g4).trans g5) k5 r5 (eg5 ▸ q5)) q4) q3
    | false =>
      replace q3 : q (.bl false) W2.g := q3
      rw [eg'] at q3
      refine iteF ?_
      exact hQ _ _ W3 ((g1.trans g2).trans g3) k3 (.bl _) q3) q2) q1) hw
theorem de_chain {op op' : CmpOp} (ho : OpD C (compareOp op) r) (ho' : OpD C (compareOp op') r') (ha : DP C a wx) (hb : DP C b wy) (hc : DP C c wz) (hm : lastMarks [op, op'] [b, c] = false := by with_unfolding_all rfl) :
    DE C (.Compare a [op, op'] [b, c] pos) (wChain r r' wx wy wz) := ⟨fun σ ρ W Q q S hQ hw => by
  obtain ⟨rr, h1, h2⟩ := ho.run
  obtain ⟨rr', h1', h2'⟩ := ho'.run
  exact tOf_of (pe_chain h1 h1' pe_tOf pe_tOf pe_tOf hm) (chain_run (op := op) (op' := op') h2 h2' ha hb hc S hQ hw)⟩
theorem dt_chain {op op' : CmpOp} (ho : OpD C (compareOp op) r) (ho' : OpD C (compareOp op') r') (ha : DP C a wx) (hb : DP C b wy) (hc : DP C c wz) (hm : lastMarks [op, op'] [b, c] = false := by with_unfolding_all rfl) :
    DT C (.Compare a [op, op'] [b, c] pos) (wB (wChain r r' wx wy wz)) := ⟨fun σ ρ W Q q S hQ hw => by
  obtain ⟨rr, h1, h2⟩ := ho.run
  obtain ⟨rr', h1', h2'⟩ := ho'.run
  exact ttOf_of (pt_chain h1 h1' pe_tOf pe_tOf pe_tOf hm) (chain_run (op := op) (op' := op') h2 h2' ha hb hc S (fun v d W' g k rv q1 => by
    obtain ⟨t, rfl, q2⟩ := isB_elim q1
    exact ⟨t, rv.bl_inv, hQ t W' g k q2⟩) hw)⟩

variable {e2 : Expr} {apos cpos p1 : Pos}
@[simp] def wExt (i : Nat) (we : EW M) : SW M := fun k ρ g => ∃ ds, ρ[i]? = some (.own ds) ∧ we ρ g fun d g' => ∃ es, d = .lst es ∧ ds.length + es.length ≤ sizeLine ∧ k.nx (ρ.set i (.own (ds ++ es))) g'
theorem ds_extend {i : Nat} {x : Str} (hv : PE C.X (.Name x p1) (tVar i)) (he : DE C e we) (hline : (apos.endLine == cpos.line) = true := by rfl)
    (hs : swapsWith (.Call (.Attribute (.Name x p1) "extend" apos) [e] [] cpos) none pos.line C.X.env = pure false := by rfl)
    (hst : starEach [e] C.X.env = (false, eval e C.X.env) :: starEach [] C.X.env := by rfl) (hbase : attributeBase (.Name x p1) "extend" C.X.env (eval (.Name x p1) C.X.env) = eval (.Name x p1) C.X.env := by rfl)
    (hpl : (backTo cpos (starEach [] C.X.env)).any (·.1) = false := by rfl)
    (hfew : ((backTo cpos (starEach [e] C.X.env)).all (fun x => !x.1) && (backToKw cpos (keywordEach [] C.X.env)).all (fun x => x.1.isSome) && decide ([e].length + ([] : List Keyword).length + (if ([] : List Keyword).isEmpty then 0 else 1) < 30)) = true := by rfl) :
    DS C (.Expr (.Call (.Attribute (.Name x p1) "extend" apos) [e] [] cpos) pos) (wExt i we) := ⟨fun σ ρ W k E S l h => by
  obtain ⟨ds, e0, h⟩ := h
  obtain ⟨o, h1, p, vs, h2, h3, h4, h5, h6, r⟩ := S.sl i _ e0
  subst h2
  refine tsOf_of (ps_expr (pe_bm PySem.F.plainAttrs_list PySem.F.slot_list_extend PySem.F.type_list_extend mt_extend hv (pa_cons pe_tOf pa_nil hst) hbase hfew hline hst hpl) hs) ⟨.ref p, h1, .inl ⟨rfl, vs, .of h3⟩, ?_⟩
  refine he.run σ ρ W _ _ S (fun v d W1 g1 k1 r1 q1 => ?_) h
  obtain ⟨es, rfl, hz, q1⟩ := q1
  have S1 := S.step g1 k1
  obtain ⟨o2, a1, p2, vs2, a2, a3, a4, a5, a6, r2⟩ := S1.sl i _ e0
  subst a2
  rw [h1] at a1
  cases a1
  have ev : vs2 = vs := by
    have := g1.keep _ _ h3 h5
    rw [a3] at this
    cases this
    rfl
  subst ev
  cases r1 with
  | lst hb rb =>
    rename_i ab ub
    obtain ⟨S2, g2⟩ := S1.write e0 h1 (r2.append rb)
    exact ⟨p, ab, vs2, ub, rfl, rfl, a3, k1.sub _ _ hb, by rw [r2.length, rb.length]; exact hz, l.nx _ _ _ (g1.s.trans g2) S2 q1⟩⟩

theorem de_glob {x : Str} {v : V} {d : D} {u : Value} (hm : C.X.mg x = some u) (rv : RelV v u) (r : ∀ F R, Rp C.X.K F R v d) (hg : Gl C.X x := by rfl) (hd : (x == ("__debug__" : Str)) = false := by decide) : DE C (.Name x pos) (wC d) := de_c (pe_glob hg hm rv hd) r
end
end DL
set_option Elab.async false
set_option linter.all false
set_option maxRecDepth 100000
set_option maxHeartbeats 1000000
namespace DL
open PySem PySem.Spec PyProof.Rows L2
section
variable {prog : Program} {w : World} {A : Around} {E : Value → Shared → Prop} {s : Shared}
end
section
variable {M : Ghost} {C : Ct M} {W W1 W2 W' : Wd M} {σ : L2.St} {ρ : DEnv} {e : Expr} {es : List Expr} {we : EW M} {pos p : Pos} {wa : AW M}
def oRev (d : D) (q : D → Prop) : Prop := match d with
  | .lst ds => q (.lst ds.reverse)
  | .tup ds => q (.tup ds.reverse)
  | _ => False
def oRevN (d : D) (q : List D → Prop) : Prop := match d with
  | .lst ds => q ds.reverse
  | _ => False
variable {k1 : Nat} {p1 p2 p3 : Pos}
def GlI (o : Option Value) (i : Int) : Prop := ∃ t, o = some (.int i t)
theorem de_glI {x : Str} {i : Int} (h : GlI (C.X.mg x) i) (hg : Gl C.X x := by rfl) (hd : (x == ("__debug__" : Str)) = false := by decide) : DE C (.Name x pos) (wC (.int i)) := by
  obtain ⟨t, h⟩ := h
  exact de_glob h (v := .int i) ⟨t, rfl⟩ (fun _ _ => .int i) hg hd
variable {a b : Expr} {wx wy : EW M} {p4 pos2 : Pos}
end
section
variable {M : Ghost} {C : Ct M} {W W1 W2 W' : Wd M} {σ : L2.St} {ρ : DEnv}
variable {pos : Pos}
end
end DL
set_option Elab.async false
set_option linter.all false
set_option maxRecDepth 100000
set_option maxHeartbeats 1000000
namespace DL
open PySem L2
section
variable {K : PySem.W.Frag}
/-- the class that a name of the text tells -/
inductive CN (K : PySem.W.Frag) : Str → Value → Prop
  | own {x : Str} {C : Addr} : PySem.W.nsIn K mainGlobals x = some (some (.ref C)) → CN K x (.ref C)
  | ty {x : Str} {T : String} : PySem.W.nsIn K mainGlobals x = some none → bootBuiltins x = some (.type T) → x ≠ "__name__" → CN K x (.type T)
end
section
variable {X : Cx} {pos : Pos}
/-- a class as a value -/
def clsV : Value → V
  | .ref C => .ref C
  | .type T => .ty T
  | _ => .non
theorem CN.rel {K : PySem.W.Frag} {x : Str} {c : Value} (h : CN K x c) : RelV (clsV c) c ∧ ClsV (clsV c) c := by
  cases h with
  | own => exact ⟨rfl, .own _⟩
  | ty => exact ⟨rfl, .ty _⟩
theorem CN.names {x : Str} {c : Value} (h : CN X.K x c) {pins : List (Addr × Obj)} {σ : L2.St} {H : Hp} {s : Shared} (I : Inv X pins σ H s) : X.mg x = some c ∨ (X.mg x = none ∧ bootBuiltins x = some c ∧ x ≠ "__name__") := by
  cases h with
  | own e => exact .inl (PySem.W.mg_of I.mod.kin I.mod.glob e)
  | ty e b n => exact .inr ⟨PySem.W.mg_none_of I.mod.kin I.mod.glob e, b, n⟩
end
section
variable {M : Ghost} {C : Ct M} {W W1 W2 W' : Wd M} {σ : L2.St} {ρ : DEnv} {e : Expr} {es : List Expr} {we : EW M} {pos p : Pos} {wa : AW M}
end
end DL
set_option Elab.async false
set_option linter.all false
set_option maxRecDepth 100000
set_option maxHeartbeats 4000000
namespace DL
open PySem L2 PySem.W PySem.Calls PyProof.Rows PySem.HandSPX Builtin Builtin.ObjectAttr
def xA (f : Str) (p1 p2 : Pos) : Arguments := { posonlyargs := [], args := [{ arg := "self", annotation := none, pos := p1 }, { arg := f, annotation := none, pos := p2 }], vararg := none, kwonlyargs := [], kw_defaults := [], kwarg := none, defaults := [] }
def xB (f : Str) (q1 q2 q3 q4 : Pos) : List Stmt := [.Assign [.Attribute (.Name "self" q1) f q2] (.Name f q3) q4]
def xS (f : Str) : Scope := { kind := .function, names := [(PySem.Str.ofString "self", .local), (f, .local)], isGenerator := false, isCoroutine := false, more := [] }
abbrev fldNames : List Str := ["value", "index", "name", "error", "limit", "place"]
/-- what the written part says of such a class -/
structure RaiseT (K : Frag) (n f : Str) (B newId initId : String) (bmB : List Value) (C fI : Addr) (q : Str) : Prop where
  nm : nsIn K mainGlobals n = some (some (.ref C))
  xi : excInitIn K C bmB newId = true
  ov : excOver K C bmB = true
  sa : findIn K (.ref C) "__setattr__" = some (some (.builtin "object.__setattr__"))
  tk : takerIn K C f = some none
  hd : hasDictIn K C = true
  iC : findIn K (.ref C) "__init__" = some (some (.ref fI))
  tI : typeIn K (.ref fI) = some (.type "function")
  kC : keepIn K (.ref C) = true
  exC : subIn K (.ref C) (.type "BaseException") = some true
  tyC : typeIn K (.ref C) = some (.type "type")
  hf : f ∈ fldNames
  fn : ∃ (oc : Value) (od : Option Addr) (doc pm : Value) (an : Option Addr) (cdv ct : Value) (osl : Array (Option Value)) (p1 p2 q1 q2 q3 q4 : Pos),
    K.lookup fI = some ⟨oc, od, .func (fnOf "__init__" q (xA f p1 p2) (xB f q1 q2 q3 q4) (xS f) .none .none doc pm an cdv ct), osl⟩ ∧ codeIn K cdv q = true
  bf : ExcBaseFacts B newId initId bmB
  sf : StoreFacts B bmB "object.__setattr__" "object"
/-- .. of the class with that name -/
structure RaisesF (K : Frag) (n f : Str) : Prop where
  ex : ∃ (B newId initId : String) (bmB : List Value) (C fI : Addr) (q : Str), RaiseT K n f B newId initId bmB C fI q
theorem one_line (v : Value) : [v].length ≤ sizeLine := by rw [sizeLine_eq]; exact (by decide : 1 ≤ 16777216)
theorem ldX {M : Model} {s : Shared} {name : Str} {scope : Scope} {L a : Addr} {cd : Value} {m : Str → Option Value} {x : Str} {pos : Pos} {v : Value} {Q : Value → Shared → Prop} {A : Around} {E : Value → Shared → Prop} (hn : s.heap.Ns L m) (hv : m x = some v) (h : Q v s)
    (hk : scope.kind = .function := by rfl) (hl : (envOfC name scope L a cd).kindOf x = some .local := by rfl) (hd : (x == ("__debug__" : Str)) = false := by decide) :
    wpAny M A (eval (.Name x pos) (envOfC name scope L a cd)) Q E s := wpAny_Name (wpAny_loadName_local hk hl hn hv h) hd
/-- self.f = v on a new exception, whatever built-in class it derives from -/
theorem store_exc {prog : Program} {w : World} {A : Around} {R : Result → Shared → Prop} {hp : Heap} {g : Array GenState} {d : Drawn} {t : Nat} {os : OsState} {K : Frag} {B : String} {bmB : List Value} {name : Str} {tk : Tok} {v : Value} {x C t0 : Addr} (SF : StoreFacts B bmB "object.__setattr__" "object")
    (X : K.In hp) (hx : hp.get? x = some (excO C t0)) (ov : excOver K C bmB = true) (ht : takerIn K C name = some none) (hd : hasDictIn K C = true)
    (hq : ∀ h' tk' dx, (∀ b o, b ≠ x → hp.get? b = some o → h'.get? b = some o) → hp.objs.size ≤ dx → dx ≠ x → h'.get? x = some { cls := .ref C, dict := some dx, data := .fields #[.ref t0, .none, .none, .none, .bool false, .none] } →
      h'.Ns1 dx (fun y => if y = name then some v else none) → R (.ok (.ret .none)) ⟨h', g, d, tk', os⟩) :
    codeAny (model prog w) A (.call (.builtin "object.__setattr__") ⟨[.ref x, .str name tk, v], []⟩) R ⟨hp, g, d, t, os⟩ := by
  refine osa_openX (s := ⟨hp, g, d, t, os⟩) (od := none) SF X ⟨hx, rfl, rfl, trivial⟩ ov ht fun b => ?_
  obtain ⟨cd, hc, hh⟩ := any_some hd
  have xs : x ≠ hp.objs.size := Nat.ne_of_lt (Heap.lt_size hx)
  refine wpAny_bind (wpAny_pure (wpAny_bind (instanceDict_exc (s := ⟨hp, g, d, t, os⟩) hx (looks_clsIn X hc) hh ?_)))
  show wpAny _ _ (storeInDict hp.objs.size (.str name tk) name v) _ _ _
  have old : ∀ c u, c ≠ x → hp.get? c = some u → ((hp.push (dictOf [] 0)).update x fun o => { o with dict := some hp.objs.size }).get? c = some u := fun c u hc e =>
    (Heap.get?_update_ne _ _ _ _ hc).trans (Heap.get?_push_of_some _ e)
  refine store_in_new ?_ fun h' tk' n' hs => hq h' tk' hp.objs.size (fun c u hc e => ?_) (Nat.le_refl _) xs.symm ?_ n'
  · refine ⟨_, #[], 0, (Heap.get?_update_ne _ _ _ _ xs.symm).trans (Heap.get?_push_at rfl rfl), rfl, fun e he => absurd he (by simp), fun _ => rfl⟩
  · exact (hs.2 c (Nat.ne_of_lt (Heap.lt_size e))).trans (old c u hc e)
  · exact (hs.2 x xs).trans (Heap.get?_update_self _ (Heap.get?_push_of_some _ hx) rfl)
/-- what is left of a new exception at x -/
structure XInit (h h' : Heap) (x C dx t1 : Addr) (f : Str) (v : Value) : Prop where
  keep : ∀ b o, b ≠ x → h.get? b = some o → h'.get? b = some o
  obj : h'.get? x = some { cls := .ref C, dict := some dx, data := .fields #[.ref t1, .none, .none, .none, .bool false, .none] }
  dbig : h.objs.size ≤ dx
  dne : dx ≠ x
  ns : h'.Ns1 dx (fun y => if y = f then some v else none)
structure XMade (h h' : Heap) (e C d : Addr) (f : Str) (v : Value) : Prop where
  keep : ∀ b o, h.get? b = some o → h'.get? b = some o
  new : h.objs.size ≤ e
  obj : ∃ oe vs, h'.get? e = some oe ∧ oe.cls = .ref C ∧ oe.dict = some d ∧ oe.data = .fields vs ∧ vs[1]? = some .none ∧ vs[2]? = some .none
  dbig : h.objs.size ≤ d
  dne : d ≠ e
  ns : h'.Ns1 d (fun y => if y = f then some v else none)
section
variable {prog : Program} {w : World} {A : Around} {E : Value → Shared → Prop} {R : Result → Shared → Prop} {s : Shared} {K : Frag} {n f : Str} {B newId initId : String} {bmB : List Value} {C fI : Addr} {q : Str}
theorem x_init (T : RaiseT K n f B newId initId bmB C fI q) {x t0 : Addr} {v : Value} (X : K.In s.heap) (hlim : s.heap.NoLimit) (hx : s.heap.get? x = some (excO C t0)) (hroom : A.depth < recursionLimit)
    (hq : ∀ h' tk dx, XInit s.heap h' x C dx t0 f v → R (.ok (.ret .none)) { s with heap := h', toks := tk }) :
    codeAny (model prog w) A (.call (.ref fI) ⟨[.ref x, v], []⟩) R s := by
  obtain ⟨oc, od, doc, pm, an, cdv, ct, osl, p1, p2, q1, q2, q3, q4, ho, hcd⟩ := T.fn
  have hf := T.hf
  simp only [List.mem_cons, List.not_mem_nil, or_false] at hf
  have body : ∀ (g : Str), g = f → (g == ("__debug__" : Str)) = false → (envOfC q (xS f) s.heap.objs.size fI cdv).kindOf g = some .local → (bindL (envOfC q (xS f) s.heap.objs.size fI cdv).kindOf [("self", .ref x), (f, v)] fun _ => none) g = some v →
      (bindL (envOfC q (xS f) s.heap.objs.size fI cdv).kindOf [("self", .ref x), (f, v)] fun _ => none) "self" = some (.ref x) →
      BindsTo s (fnOf "__init__" q (xA f p1 p2) (xB f q1 q2 q3 q4) (xS f) .none .none doc pm an cdv ct) ⟨[.ref x, v], []⟩ [("self", .ref x), (f, v)] →
      (([("self", .ref x), (f, v)] : List (Str × Value)).all fun y => (xS f).names.lookup y.1 == some .local || (xS f).names.lookup y.1 == some .cell) = true →
      codeAny (model prog w) A (.call (.ref fI) ⟨[.ref x, v], []⟩) R s := by
    rintro g rfl hdb hkd hv hself bd hall
    refine Att.call_fn (binds := [("self", .ref x), (g, v)]) X hlim ho hcd hroom bd hall (fun s₁ IC => ?_) rfl rfl rfl
    obtain ⟨h₁, tk₁, rfl⟩ := IC.toInCall.same
    have k : ∀ b o, s.heap.get? b = some o → h₁.get? b = some o := IC.toInCall.keep
    have hn := IC.toInCall.ns
    have hxL : s.heap.objs.size ≠ x := Nat.ne_of_gt (Heap.lt_size hx)
    have X₁ : K.In h₁ := X.keeps k
    have hx₁ := k _ _ hx
    show wpAny _ _ (execs _ _) _ _ _
    refine wpAny_execs_cons (plainObj_wpAny_Assign_Attribute ?_)
    refine ldX (v := v) hn hv (ldX (v := .ref x) hn hself ?_) rfl hkd hdb
    refine set_plain X₁ (ox := excO C t0) (od := none) ⟨hx₁, rfl, rfl, trivial⟩ T.sa ?_
    refine store_exc T.sf X₁ hx₁ T.ov T.tk T.hd (fun h₃ tk₃ dx k₃ dn dne hx₃ hn₃ => ?_)
    show wpAny _ _ (execs _ _) _ _ _
    have z : s.heap.objs.size < h₁.objs.size := hn.lt
    exact wpAny_execs_nil (hq h₃ tk₃ dx ⟨fun b o hb e => k₃ b o hb (k b o e), hx₃, Nat.le_of_lt (Nat.lt_of_lt_of_le z dn), dne, hn₃⟩)
  rcases hf with rfl | rfl | rfl | rfl | rfl | rfl <;> exact body _ rfl (by decide) rfl (by first | rfl | with_unfolding_all rfl) (by first | rfl | with_unfolding_all rfl) (BindsTo.of_eq (by first | rfl | with_unfolding_all rfl)) (by first | rfl | decide | with_unfolding_all rfl)
theorem x_made (T : RaiseT K n f B newId initId bmB C fI q) {v : Value} (X : K.In s.heap) (hlim : s.heap.NoLimit) (hroom : A.depth + 1 < recursionLimit)
    (hq : ∀ h' tk e d, XMade s.heap h' e C d f v → R (.ok (.ret (.ref e))) { s with heap := h', toks := tk }) :
    codeAny (model prog w) A (.call (.ref C) ⟨[v], []⟩) R s := by
  obtain ⟨nm, N', qn, bs, bm, hdct, sn, sub, ab, col, dd, k0, k1, k2, k3, k5, hC, hT⟩ := excInit_of X T.xi
  obtain ⟨hp, g, dr, tk, os⟩ := s
  have k : ∀ b o, hp.get? b = some o → ((hp.push (kdv_tup [v])).push (excO C hp.objs.size)).get? b = some o := fun b o e => Heap.get?_push_of_some _ (Heap.get?_push_of_some _ e)
  have hget : ((hp.push (kdv_tup [v])).push (excO C hp.objs.size)).get? (hp.objs.size + 1) = some (excO C hp.objs.size) := by heap_get
  refine HandSPX.call_own T.bf hT hC (looks_findIn X T.iC) (fun self => bind_fn X self T.tI) (one_line v) ?_
  refine x_init (s := ⟨(hp.push (kdv_tup [v])).push (excO C hp.objs.size), g, dr, tk, os⟩) T (X.keeps k) (hlim.keeps k) hget ?_ fun h' tk' dx M => ?_
  · show A.depth + 1 < recursionLimit
    exact hroom
  · have old : ∀ b o, hp.get? b = some o → h'.get? b = some o := fun b o e => M.keep b o (Nat.ne_of_lt (Nat.lt_succ_of_lt (Heap.lt_size e))) (k b o e)
    have z : hp.objs.size + 1 + 1 ≤ dx := by
      first
        | (simpa only [Heap.size_push] using M.dbig)
        | exact M.dbig
        | (have q := M.dbig; rw [Heap.size_push, Heap.size_push] at q; exact q)
    exact ⟨rfl, hq h' tk' (hp.objs.size + 1) dx ⟨old, Nat.le_succ _, ⟨_, _, M.obj, rfl, rfl, rfl, rfl, rfl⟩, Nat.le_trans (Nat.le_trans (Nat.le_succ _) (Nat.le_succ _)) z, M.dne, M.ns⟩⟩
end
section
variable {X : Cx} {n f : Str}
theorem relO_one {v : V} {v' : Value} (r : RelV v v') (g : Str) : RelO (List.lookup g [(f, v)]) (if g = f then some v' else none) := by
  by_cases hw : g = f
  · subst hw
    rw [if_pos rfl]
    have q : List.lookup g [(g, v)] = some v := by simp [List.lookup]
    rw [q]
    exact r
  · rw [if_neg hw]
    have qw : (g == f) = false := by simpa using hw
    have q2 : List.lookup g [(f, v)] = none := by simp [List.lookup, qw]
    rw [q2]
    trivial
/-- n(e) -/
def tMkX (K : Frag) (n f : Str) (ta : TA) : L2.St → Hp → XK → Prop := fun σ H Q => ta σ H fun vs H1 => ∃ v, vs = [v] ∧ ∀ C d, nsIn K mainGlobals n = some (some (.ref C)) → H1 d = none → Q (.ref C) (some d) (upd H1 d (.xd [(f, v)]))
theorem pmk_x {a : Expr} {ta : TA} {p pos : Pos} {k : Nat} (T : RaisesF X.K n f) (hr : Room k X.A) (ha : PA X [a] ta) (hg : Gl X n) (hdb : (n == ("__debug__" : Str)) = false := by decide)
    (he : starEach (a :: []) X.env = (false, eval a X.env) :: starEach [] X.env := by rfl) (hpl : (backTo pos (starEach [] X.env)).any (·.1) = false := by rfl) :
    L2N.PMk X (.Call (.Name n p) [a] [] pos) (tMkX X.K n f ta) := by
  intro pins s σ H Q I h
  obtain ⟨B, newId, initId, bmB, C, fI, q, T⟩ := T.ex
  refine wpAny_Call_Name_kw (ld_glob I hg (mg_of I.mod.kin I.mod.glob T.nm) ?_ hdb)
  refine PySem.W.callWith_K (h₀ := X.base) I.ok.mod.kin T.kC (thn (ha.run pos pins s σ H _ I h) fun us s1 hh => ?_) he hpl
  obtain ⟨vs, H1, I1, r1, v, ev, q1⟩ := hh
  subst ev
  refine ⟨I1.kIn, ?_⟩
  cases r1 with
  | cons rv rn =>
    rename_i v' us'
    cases rn
    show wpAny _ _ (call (.ref C) [v']) _ _ _
    have hlim := I1.nolimit
    obtain ⟨hp, g, dr, tk, os⟩ := s1
    refine wpAny_call (x_made T I1.kIn hlim (by have := hr.dp; omega) fun h' tk' e d M => ?_)
    show L2N.MkP X pins σ Q (.ref e) ⟨h', g, dr, tk', os⟩
    obtain ⟨oe, fv, hoe, hc, hd, hdat, h1, h2⟩ := M.obj
    have hns := M.ns
    obtain ⟨G', g1, g2⟩ := restrict h' fun b => decide (b ≠ e)
    have gk : ∀ b, b ≠ e → G'.get? b = h'.get? b := fun b hb => g1 b (decide_eq_true hb)
    have ge : G'.get? e = none := g2 e (by simp)
    have old : ∀ b o, hp.get? b = some o → G'.get? b = some o := fun b o q => (gk b (Nat.ne_of_lt (Nat.lt_of_lt_of_le (Heap.lt_size q) M.new))).trans (M.keep b o q)
    have ob : ObjOk X.prog X.w (upd H1 d (.xd [(f, v)])) G' d (.xd [(f, v)]) := ⟨_, hns.at (fun o q => (gk d M.dne).trans q), fun g => relO_one rv g⟩
    have J : Inv X pins σ (upd H1 d (.xd [(f, v)])) ⟨G', g, dr, tk', os⟩ := I1.laid (t' := tk') old M.dbig ob
    refine ⟨e, oe, fv, ⟨G', g, dr, tk', os⟩, _, .ref C, some d, rfl, J, fun b o q => ?_, ge, hoe, ⟨hc, hd, fun vs e => by rw [hdat] at e; cases e; exact h2⟩, hdat, h1, ?_, rfl, I1.bare, raises_own T.exC T.tyC, q1 C d T.nm (I1.hok.fresh M.dbig)⟩
    · by_cases hb : b = e
      · have q' : G'.get? b = some o := q
        rw [hb, ge] at q'; cases q'
      · exact (gk b hb).symm.trans q
    · rw [upd_ne (Ne.symm M.dne)]
      exact I1.hok.fresh M.new
end
section
variable {M : Ghost} {C : Ct M} {W W1 W2 W' : Wd M} {σ : L2.St} {ρ : DEnv} {e : Expr} {es : List Expr} {we : EW M} {pos p pos2 : Pos} {n f : Str}
@[simp] def wRaise (n f : Str) (we : EW M) (EX : Exn → DEnv → M.G → Prop) : SW M := fun _ ρ g => we ρ g fun d g' => EX ⟨n, [f], [d]⟩ ρ g'
theorem ds_raise {k : Nat} (T : RaisesF C.X.K n f) (hc : C.X.calm = true) (hr : Room k C.X.A) (tk : TakesD C) (he : DE C e we) (hg : Gl C.X n := by rfl) (hdb : (n == ("__debug__" : Str)) = false := by decide)
    (h1 : starEach (e :: []) C.X.env = (false, eval e C.X.env) :: starEach [] C.X.env := by rfl) (hpl : (backTo pos (starEach [] C.X.env)).any (·.1) = false := by rfl) :
    DS C (.Raise (some (.Call (.Name n p) [e] [] pos)) none pos2) (wRaise n f we C.EX) := ⟨fun σ ρ W k' E S l h =>
  tsOf_of (L2N.ps_raise hc tk (pmk_x T hr (pa_cons pe_tOf pa_nil h1) hg hdb h1 hpl)) (he.run σ ρ W _ _ S (fun v d W1 g1 k1 r1 q1 => by
    refine ⟨v, rfl, fun C' dx hn hd => ?_⟩
    have go := Go.lay (o := .xd [(f, v)]) k1 hd
    exact ⟨⟨n, [f], [d]⟩, ρ, W1.lay dx (.xd [(f, v)]), rfl, (S.step g1 k1).step go (k1.lay hd), ⟨hn, ⟨_, rfl⟩, .inr ⟨dx, [v], rfl, upd_same, rfl, .cons (r1.step go) .nil⟩⟩, q1⟩) h)⟩
end
end DL
set_option Elab.async false
set_option linter.all false
set_option maxRecDepth 100000
set_option maxHeartbeats 4000000
namespace DL
open PySem L2 PySem.W PySem.Calls PyProof.Rows
section
variable {X : Cx} {pins : List (Addr × Obj)} {σ : L2.St} {H : Hp} {s : Shared}
end

section
variable {M : Ghost} {C : Ct M} {W W1 W2 W' : Wd M} {σ : L2.St} {ρ : DEnv} {pos : Pos}
end
section
variable {K : Frag} {n x f : Str} {b d : Bool} {ms : List Str} {tab : List (Str × Bool)} {ns : List Str}
end
section
variable {M : Ghost} {C : Ct M} {W W1 W2 W' : Wd M} {σ : L2.St} {ρ : DEnv} {pos : Pos}
end
end DL
set_option Elab.async false
set_option linter.all false
set_option maxRecDepth 100000
set_option maxHeartbeats 1000000
namespace DL
open PySem L2
section
variable {X : Cx}
end
section
variable {M : Ghost} {C : Ct M} {W W1 W2 W' : Wd M} {σ : L2.St} {ρ : DEnv} {e o : Expr} {es : List Expr} {we wo : EW M} {pos apos : Pos} {wa : AW M}
def oNil (f : Bool → Bool) : D → D → (D → Prop) → Prop
  | .lst x, .lst [], q => q (.bl (f x.isEmpty))
  | _, _, _ => False
def oNilT (f : Bool → Bool) : D → D → (D → Prop) → Prop
  | .tup x, .tup [], q => q (.bl (f x.isEmpty))
  | _, _, _ => False
@[simp] theorem sm_nilT {f : Bool → Bool} {ds : List D} {q : D → Prop} : oNilT f (.tup ds) (.tup []) q = q (.bl (f ds.isEmpty)) := rfl
@[simp] theorem sm_nil {f : Bool → Bool} {ds : List D} {q : D → Prop} : oNil f (.lst ds) (.lst []) q = q (.bl (f ds.isEmpty)) := rfl
end
end DL
set_option Elab.async false
set_option linter.all false
set_option maxRecDepth 100000
set_option maxHeartbeats 1000000
namespace DL
open PySem L2 PySem.W
section
variable {K : Frag}
theorem exInit_of {C N : Addr} {nm q : Str} {bs bm : List Value} {sn : List Str} {sub : List Value} {ab : Bool} {col : Option Bool} {dd : Option Addr} {m0 m1 m2 m3 m5 : Option Value} {bmB : List Value} {newId : String}
    (xL : K.lookup C = some (excClassObj nm q C N bs bm true sn sub ab col dd m0 m1 m2 m3 m5 newId)) (te : excTail bmB bm = true) : excInitIn K C bmB newId = true ∧ excOver K C bmB = true := by
  constructor
  · unfold excInitIn
    rw [xL]
    simp [excClassObj, te]
  · unfold excOver clsIn
    rw [xL]
    simp [excClassObj, te]
end
end DL
set_option Elab.async false
set_option linter.all false
set_option maxRecDepth 100000
set_option maxHeartbeats 1000000
namespace DL
open PySem L2 PySem.W
section
variable {X : Cx}
end
section
variable {M : Ghost} {C : Ct M}
def cListX : List D → (List D → Prop) → Prop
  | [.lst ds], q => q ds
  | [.tup ds], q => q ds
  | [.str x], q => x.length ≤ sizeLine ∧ q (x.map fun c => .str [c])
  | _, _ => False
@[simp] theorem sm_listX1 {ds : List D} {qn : List D → Prop} : (cListX [.lst ds] qn) = (qn ds) := rfl
@[simp] theorem sm_listX2 {ds : List D} {qn : List D → Prop} : (cListX [.tup ds] qn) = (qn ds) := rfl
@[simp] theorem sm_listX3 {x : List Nat} {qn : List D → Prop} : (cListX [.str x] qn) = (x.length ≤ sizeLine ∧ qn (x.map fun c => .str [c])) := rfl
end
end DL
set_option Elab.async false
set_option linter.all false
set_option maxRecDepth 100000
set_option maxHeartbeats 1000000
namespace DL
open PySem L2
section
variable {M : Ghost} {C : Ct M} {W W1 W2 W' : Wd M} {σ : L2.St} {ρ : DEnv} {e : Expr} {we : EW M} {pos : Pos}
end
end DL
set_option Elab.async false
set_option linter.all false
set_option maxRecDepth 100000
set_option maxHeartbeats 4000000
namespace L2
open PySem PySem.Spec PyProof.Rows
section
variable {X : Cx}
end
end L2
namespace DL
open PySem L2
section
variable {M : Ghost} {C : Ct M}
def oMulT : D → D → (D → Prop) → Prop
  | .tup x, .int j, q => x ≠ [] ∧ 0 ≤ j ∧ j ≤ 1000 ∧ x.length ≤ 1000 ∧ q (.tup (List.replicate j.toNat x).flatten)
  | _, _, _ => False
@[simp] theorem sm_mulT {ds : List D} {j : Int} {q : D → Prop} : (oMulT (.tup ds) (.int j) q) = (ds ≠ [] ∧ 0 ≤ j ∧ j ≤ 1000 ∧ ds.length ≤ 1000 ∧ q (.tup (List.replicate j.toNat ds).flatten)) := rfl
end
end DL
set_option Elab.async false
set_option linter.all false
set_option maxRecDepth 100000
set_option maxHeartbeats 1000000
namespace DL
open PySem L2
section
variable {M : Ghost} {C : Ct M} {W W1 W2 W' : Wd M} {σ : L2.St} {ρ : DEnv} {e e1 e2 : Expr} {we w1 w2 wi : EW M} {pos p1 p2 s1 s2 apos cpos : Pos}
end
end DL
set_option Elab.async false
set_option linter.all false
set_option maxRecDepth 100000
set_option maxHeartbeats 3200000
namespace DL
open PySem L2
def kyE (e : Int × Value) : Key := match e.2 with
  | .int i _ => .inl i
  | .str x _ => .inr x
  | _ => .inl 0
theorem kyE_is {k : Key} {e : Int × Value} (h : keyIs k e.2 = true) : kyE e = k := by
  obtain ⟨z, v⟩ := e
  rcases keyIs_shape h with ⟨i, u, rfl, rfl⟩ | ⟨x, u, rfl, rfl⟩ <;> rfl
/-- the set at an address, of these members -/
structure MSet (P : Program) (w : World) (h : Heap) (a : Addr) (o : Obj) (es : Array (Int × Value)) (ep : Nat) (tb : SetTable) (L : List Key) : Prop where
  at_ : h.get? a = some o
  ex : o.ExactSet
  dat : o.data = .set es ep tb
  el : ElemsOf (mixKind P w) es.toList
  ks : (es.toList.map kyE).Perm L
  nd : L.Nodup
  few : es.size < scanBound
  fit : tb.fits es.size = true
  ris : Ris tb.place.toList
  led : w.params.followText "set-order" = true ∨ tb.led = true
def IsM (P : Program) (w : World) (h : Heap) (a : Addr) (L : List Key) : Prop := ∃ o es ep tb, MSet P w h a o es ep tb L
section
variable {P : Program} {w : World} {A : Around} {E : Value → Shared → Prop} {s : Shared} {a : Addr} {L : List Key} {k : Key} {v : Value}
theorem MSet.size {h : Heap} {o : Obj} {es : Array (Int × Value)} {ep : Nat} {tb : SetTable} (M : MSet P w h a o es ep tb L) : es.size = L.length := by
  have := M.ks.length_eq
  rw [List.length_map, Array.length_toList] at this
  exact this
theorem MSet.mem {h : Heap} {o : Obj} {es : Array (Int × Value)} {ep : Nat} {tb : SetTable} (M : MSet P w h a o es ep tb L) (j : Key) : j ∈ L ↔ ∃ e ∈ es.toList, keyIs j e.2 = true := by
  rw [← M.ks.mem_iff, List.mem_map]
  constructor
  · rintro ⟨e, he, rfl⟩
    obtain ⟨⟨j, hj, _⟩, _⟩ := M.el e he
    exact ⟨e, he, by rw [kyE_is hj]; exact hj⟩
  · rintro ⟨e, he, hj⟩
    exact ⟨e, he, kyE_is hj⟩
theorem IsM.keep {h h' : Heap} (R : IsM P w h a L) (k : ∀ o, h.get? a = some o → h'.get? a = some o) : IsM P w h' a L := by
  obtain ⟨o, es, ep, tb, M⟩ := R
  exact ⟨o, es, ep, tb, k o M.at_, M.ex, M.dat, M.el, M.ks, M.nd, M.few, M.fit, M.ris, M.led⟩
theorem IsM.fresh (h : Heap) : IsM P w (h.push { cls := .type "set", dict := none, data := .set #[] 0 (.fresh 0 0 (!w.params.followText "set-order")) }) h.objs.size [] := by
  refine ⟨_, #[], 0, _, Heap.get?_push_size _ rfl, ⟨rfl, rfl, rfl⟩, rfl, fun e he => by simp at he, by simp, List.nodup_nil, by decide, by rfl, List.Pairwise.nil, ?_⟩
  cases z : w.params.followText "set-order"
  · exact .inr rfl
  · exact .inl rfl
/-- what stands behind a new member -/
theorem m_tail {gv : Bool → Sem Unit} (hgv : ∀ (b : Bool) (u : Shared) (Q : Unit → Shared → Prop), Q () u → wpAny (model P w) A (gv b) Q E u) {o : Obj} {es fs : Array (Int × Value)} {ep : Nat} {tb tc : SetTable}
    (h1 : s.heap.get? a = some o) (h2 : o.ExactSet) (h3 : o.data = .set es ep tb) (el : ElemsOf (mixKind P w) fs.toList) (ks : (fs.toList.map kyE).Perm L) (nd : L.Nodup) (few : fs.size < scanBound)
    (fit : tc.fits fs.size = true) (ris : Ris tc.place.toList) (led : w.params.followText "set-order" = true ∨ tc.led = true) {was : Bool} {R : Option Bool → Shared → Prop}
    (hR : ∀ g, Heap.SameBut a s.heap g → IsM P w g a L → R (some true) { s with heap := g }) :
    wpAny (model P w) A (do
      storeSet a fs tc
      if (!was && tc.tooFull) = true then do
          gv (relayAll tc fs (SetTable.grown fs.size)).2.2
          storeSet a (relayAll tc fs (SetTable.grown fs.size)).1 (relayAll tc fs (SetTable.grown fs.size)).2.1
          pure (some true)
        else pure (some true)) R E s := by
  apply wpAny_bind
  apply wpAny_storeSet_of h1 h3 (hz := fits_of_scanBound few)
  have p1 := store_at (es' := fs) (t' := tc) h1 h3
  have q1 := Heap.SameBut.update s.heap a (Obj.putSet fs tc)
  split
  · have r1 := relayAll_perm tc fs (SetTable.grown fs.size)
    have r2 := relayAll_fits tc fs (SetTable.grown fs.size)
    have r3 := relayAll_ris tc fs (SetTable.grown fs.size)
    have r4 := relayAll_led tc fs (SetTable.grown fs.size)
    generalize relayAll tc fs (SetTable.grown fs.size) = Y at r1 r2 r3 r4 ⊢
    obtain ⟨gs, td, gave⟩ := Y
    dsimp only at r1 r2 r3 r4 ⊢
    have few2 : gs.size < scanBound := by
      have := r1.length_eq
      rw [Array.length_toList, Array.length_toList] at this
      omega
    apply wpAny_bind
    apply hgv
    apply wpAny_bind
    apply wpAny_storeSet_of p1 rfl (hz := fits_of_scanBound few2)
    have p2 := store_at (es' := gs) (t' := td) p1 rfl
    exact wpAny_pure (hR _ (q1.trans (Heap.SameBut.update _ a _)) ⟨_, gs, _, td, p2, h2, rfl, el.perm r1, (r1.map kyE).trans ks, nd, few2, r2, r3, led.imp id fun z => by rw [r4]; exact z⟩)
  · exact wpAny_pure (hR _ q1 ⟨_, fs, _, tc, p1, h2, rfl, el, ks, nd, few, fit, ris, led⟩)
/-- one more member -/
theorem IsM.add {Q : Bool → Shared → Prop} (R : IsM P w s.heap a L) (hk : keyIs k v = true) (hs : v.scannable = true) (room : L.length + 1 < scanBound)
    (hQ : ∀ g b L', Heap.SameBut a s.heap g → IsM P w g a L' → (∀ j, j ∈ L' ↔ j ∈ L ∨ j = k) → L'.length ≤ L.length + 1 → Q b { s with heap := g }) :
    wpAny (model P w) A (setAddHashed a v ((mixKind P w).hash k)) Q E s := by
  obtain ⟨o, es, ep, tb, M⟩ := R
  have sz := M.size
  have hk' : (mixKind P w).is k v = true := hk
  unfold setAddHashed setAddHashedIn
  apply wpAny_holding
  apply wpAny_bind
  apply wpAny_setState_of M.at_ M.dat M.fit
  simp only [byScan_of hs M.few M.el, ↓reduceIte]
  unfold setAddByScan
  apply wpAny_bind
  apply wpAny_bind
  apply wpAny_rule
  apply wpAny_bind
  apply wpAny_setScan_of hk' M.at_ M.dat M.fit M.el
  cases fi : List.findIdx? (fun e => (mixKind P w).is k e.2) es.toList with
  | some j =>
    obtain ⟨j1, j2, _⟩ := List.findIdx?_eq_some_iff_getElem.mp fi
    have inL : k ∈ L := (M.mem k).mpr ⟨_, List.getElem_mem j1, j2⟩
    exact wpAny_pure (wpAny_pure (hQ s.heap false L (Heap.SameBut.refl a _) ⟨o, es, ep, tb, M⟩ (fun j => ⟨.inl, fun z => z.elim id fun e => e ▸ inL⟩) (Nat.le_succ _)))
  | none =>
    have notL : k ∉ L := fun z => by
      obtain ⟨e, he, q⟩ := (M.mem k).mp z
      have := List.findIdx?_eq_none_iff.mp fi e he
      rw [show (mixKind P w).is k e.2 = true from q] at this
      cases this
    dsimp only
    have gw : ∀ (b : Bool) (u : Shared) (Q' : Unit → Shared → Prop), Q' () u → wpAny (model P w) A (match b with | true => rule "set.scan.the-table-gave-way" | false => pure ()) Q' E u := fun b u Q' q => by
      cases b
      · exact wpAny_pure q
      · exact wpAny_rule q
    have l1 := layNew_perm tb es ((mixKind P w).hash k) v
    have l2 := layNew_fits tb es ((mixKind P w).hash k) v
    have l3 := layNew_ris tb es ((mixKind P w).hash k) v M.ris
    have l4 := layNew_led tb es ((mixKind P w).hash k) v
    generalize layNew tb es ((mixKind P w).hash k) v = Y at l1 l2 l3 l4 ⊢
    obtain ⟨fs, tc, was, gave⟩ := Y
    dsimp only at l1 l2 l3 l4 ⊢
    rw [Array.toList_push] at l1
    have el : ElemsOf (mixKind P w) fs.toList := (M.el.push hk' hs).perm l1
    have ks : (fs.toList.map kyE).Perm (k :: L) := by
      have z := l1.map kyE
      rw [List.map_append] at z
      refine z.trans ((List.perm_append_singleton _ _).trans ?_)
      rw [show kyE ((mixKind P w).hash k, v) = k from kyE_is hk]
      exact M.ks.cons k
    have nd : (k :: L).Nodup := List.nodup_cons.mpr ⟨notL, M.nd⟩
    have few : fs.size < scanBound := by
      have := l1.length_eq
      rw [List.length_append, Array.length_toList, Array.length_toList] at this
      simp at this
      omega
    have led : w.params.followText "set-order" = true ∨ tc.led = true := M.led.imp id fun z => by rw [l4]; exact z
    have fin : ∀ g, Heap.SameBut a s.heap g → IsM P w g a (k :: L) → Q true { s with heap := g } := fun g sb r =>
      hQ g true (k :: L) sb r (fun j => by rw [List.mem_cons]; exact Or.comm) (by simp)
    apply wpAny_bind
    refine gw _ _ _ ?_
    split
    · apply wpAny_bind
      rw [hashByValue_scannable 8 hs]
      apply wpAny_pure
      refine m_tail gw M.at_ M.ex M.dat el ks nd few ?_ ?_ ?_ fun g sb r => wpAny_pure (fin g sb r)
      · split
        · exact l2
        · exact SetTable.fits_plain_off l2
      · split <;> exact l3
      · split <;> exact led
    · apply wpAny_bind
      apply wpAny_pure
      simp only [↓reduceIte]
      exact m_tail gw M.at_ M.ex M.dat el ks nd few l2 l3 led fun g sb r => wpAny_pure (fin g sb r)
end

section
variable {X : Cx}
end

section
variable {M : Ghost} {C : Ct M} {e : Expr} {wA : AW M} {p p2 pos pos2 : Pos}
theorem ints_rpa {K : PySem.W.Frag} {F : Hp} {R : List Addr} : ∀ ys : List Int, RpA K F R (ys.map V.int) (ys.map D.int)
  | [] => .nil
  | y :: ys => .cons (.int y) (ints_rpa ys)
end
end DL
set_option Elab.async false
set_option linter.all false
set_option maxRecDepth 100000
set_option maxHeartbeats 1000000
namespace DL
open PySem L2
section
variable {M : Ghost} {C : Ct M}
def oIsTB (f : Bool → Bool) : D → D → (D → Prop) → Prop
  | .bl a, .bl b, q => q (.bl (f (decide (a = b))))
  | _, _, _ => False
def oIsT := oIsTB id
def oNotT := oIsTB not
theorem opd_notT : OpD C (compareOp .IsNot) oNotT := by
  refine ⟨_, op_notBl, fun W x y d e Q q k r1 r2 hQ h => ?_⟩
  cases d with
  | bl a =>
    cases e with
    | bl b => exact ⟨a, b, r1.bl_inv, r2.bl_inv, hQ _ _ W (Go.refl W) k rfl (.bl _) h⟩
    | _ => exact h.elim
  | _ => exact h.elim
@[simp] theorem sm_isT {a b : Bool} {q : D → Prop} : (oIsT (.bl a) (.bl b) q) = (q (.bl (decide (a = b)))) := rfl
@[simp] theorem sm_notT {a b : Bool} {q : D → Prop} : (oNotT (.bl a) (.bl b) q) = (q (.bl (!decide (a = b)))) := rfl
end
end DL
set_option Elab.async false
set_option linter.all false
set_option maxRecDepth 100000
set_option maxHeartbeats 1000000
namespace DL
open PySem L2
section
variable {M : Ghost} {C : Ct M} {o e : Expr} {wo we : EW M} {apos pos : Pos}
end
end DL
set_option Elab.async false
set_option linter.all false
set_option maxRecDepth 100000
set_option maxHeartbeats 1000000
namespace DL
open PySem L2
section
variable {K : PySem.W.Frag} {F : Hp} {R : List Addr}
end
section
variable {M : Ghost} {C : Ct M} {e e2 ke ve : Expr} {we wi wk wv : EW M} {pos p1 : Pos}
end
section
variable {M : Ghost} {C : Ct M} {W W1 W2 W3 : Wd M} {σ : L2.St} {ρ : DEnv} {pos : Pos}
end
section
variable {M : Ghost} {C : Ct M} {e : Expr}
end
end DL
set_option Elab.async false
set_option linter.all false
set_option maxRecDepth 100000
set_option maxHeartbeats 1000000
namespace DL
open PySem L2
section
variable {K : PySem.W.Frag} {F : Hp} {R : List Addr}
end
section
variable {M : Ghost} {C : Ct M} {e : Expr} {we : EW M} {pos p1 p2 apos bpos cpos dpos : Pos}
end
end DL
set_option Elab.async false
set_option linter.all false
set_option maxRecDepth 100000
set_option maxHeartbeats 1000000
namespace DL
open PySem L2
section
variable {M : Ghost} {C : Ct M} {o e : Expr} {wo we : EW M} {apos pos : Pos}
end
end DL
set_option Elab.async false
set_option linter.all false
set_option maxRecDepth 100000
set_option maxHeartbeats 1000000
namespace DL
open PySem L2
section
variable {X : Cx}
end
section
variable {M : Ghost} {C : Ct M}
end
end DL
set_option Elab.async false
set_option linter.all false
set_option maxRecDepth 100000
set_option maxHeartbeats 1000000
namespace DL
open PySem L2
section
variable {M : Ghost} {C : Ct M} {o : Expr} {wo : EW M} {apos pos : Pos}
end
end DL
set_option Elab.async false
set_option linter.all false
set_option maxRecDepth 100000
set_option maxHeartbeats 1000000
namespace DL
open PySem L2 PySem.W
section
variable {prog : Program} {w : World} {A : Around} {E : Value → Shared → Prop} {s : Shared}
end
section
variable {X : Cx}
end
section
variable {M : Ghost} {C : Ct M}
def cTupleX : List D → (D → Prop) → Prop
  | [.lst ds], q => q (.tup ds)
  | [.tup ds], q => q (.tup ds)
  | [.str x], q => x.length ≤ sizeLine ∧ q (.tup (x.map fun c => .str [c]))
  | _, _ => False
@[simp] theorem sm_tupleX1 {ds : List D} {q : D → Prop} : (cTupleX [.lst ds] q) = (q (.tup ds)) := rfl
@[simp] theorem sm_tupleX2 {ds : List D} {q : D → Prop} : (cTupleX [.tup ds] q) = (q (.tup ds)) := rfl
@[simp] theorem sm_tupleX3 {x : List Nat} {q : D → Prop} : (cTupleX [.str x] q) = (x.length ≤ sizeLine ∧ q (.tup (x.map fun c => .str [c]))) := rfl
end
end DL
set_option Elab.async false
set_option linter.all false
set_option maxRecDepth 100000
set_option maxHeartbeats 1000000
namespace DL
open PySem PySem.Spec PyProof.Rows L2
section
variable {M : Ghost} {C : Ct M} {e : Expr} {we : EW M} {pos : Pos} {k1 : Nat} {p1 p2 p3 : Pos}
end
/-- whether a text stands somewhere in another -/
def subB (x z : List Nat) : Bool := (List.range (z.length + 1)).any fun p => decide ((z.drop p).take x.length = x)
section
variable {M : Ghost} {C : Ct M} {W W1 W2 W' : Wd M} {σ : L2.St} {ρ : DEnv} {e : Expr} {es : List Expr} {we : EW M} {pos : Pos}
def oInT (d e : D) (q : D → Prop) : Prop := ∃ x z : List Nat, d = .str x ∧ e = .str z ∧ q (.bl (subB x z))
def oNotInT (d e : D) (q : D → Prop) : Prop := ∃ x z : List Nat, d = .str x ∧ e = .str z ∧ q (.bl (!subB x z))
@[simp] theorem sm_inT {x z : List Nat} {q : D → Prop} : (oInT (.str x) (.str z) q) = (q (.bl (subB x z))) := by
  refine propext ⟨?_, fun h => ⟨x, z, rfl, rfl, h⟩⟩
  rintro ⟨a, b, e1, e2, h⟩
  cases e1; cases e2; exact h
@[simp] theorem sm_notInT {x z : List Nat} {q : D → Prop} : (oNotInT (.str x) (.str z) q) = (q (.bl (!subB x z))) := by
  refine propext ⟨?_, fun h => ⟨x, z, rfl, rfl, h⟩⟩
  rintro ⟨a, b, e1, e2, h⟩
  cases e1; cases e2; exact h
end
end DL
set_option Elab.async false
set_option linter.all false
set_option maxRecDepth 100000
set_option maxHeartbeats 1000000
namespace DL
open PySem L2
end DL
set_option Elab.async false
set_option linter.all false
set_option maxRecDepth 100000
set_option maxHeartbeats 1000000
namespace DL
open PySem L2 PySem.W PySem.SeqAt
/-- a text and a number, by the text first -/
def ltTI (a : List Nat) (i : Int) (c : List Nat) (j : Int) : Bool := if a = c then decide (i < j) else decide (a < c)
section
variable {X : Cx}
end
section
variable {M : Ghost} {C : Ct M}
def oLtTI : D → D → (D → Prop) → Prop := fun d e q => ∃ a i c j, d = .tup [.str a, .int i] ∧ e = .tup [.str c, .int j] ∧ q (.bl (ltTI a i c j))
@[simp] theorem sm_ltTI {a c : List Nat} {i j : Int} {q : D → Prop} : oLtTI (.tup [.str a, .int i]) (.tup [.str c, .int j]) q = q (.bl (ltTI a i c j)) := by
  refine propext ⟨fun h => ?_, fun h => ⟨a, i, c, j, rfl, rfl, h⟩⟩
  obtain ⟨_, _, _, _, e1, e2, h⟩ := h
  cases e1; cases e2; exact h
/-- divmod -/
def cDivmod (ds : List D) (q : D → Prop) : Prop := ∃ i j : Int, ds = [.int i, .int j] ∧ CDiv i j ∧ q (.tup [.int (i / j), .int (i % j)])
@[simp] theorem sm_divmod {i j : Int} {q : D → Prop} : cDivmod [.int i, .int j] q = (CDiv i j ∧ q (.tup [.int (i / j), .int (i % j)])) := by
  refine propext ⟨fun h => ?_, fun h => ⟨i, j, rfl, h.1, h.2⟩⟩
  obtain ⟨_, _, e, h1, h2⟩ := h
  cases e
  exact ⟨h1, h2⟩
end
end DL
set_option Elab.async false
set_option linter.all false
set_option maxRecDepth 100000
set_option maxHeartbeats 1000000
namespace DL
open PySem L2
section
variable {P : Program} {w : World} {K : PySem.W.Frag} {mg : Str → Option Value} {base : Heap}
end
section
variable {X : Cx} {k : Nat} {f : Addr} {sp : Sp} {E : L2.St → XK} {x : Str} {p pos : Pos} {e : Expr} {es : List Expr} {t : TA}
end
section
variable {M : Ghost} {C : Ct M} {W W1 W2 W' : Wd M} {σ : L2.St} {ρ : DEnv} {e : Expr} {es : List Expr} {we : EW M} {pos p : Pos} {wa : AW M}
end

section
variable {X : Cx} {pos : Pos}
end

section
variable {M : Ghost} {C : Ct M} {e : Expr} {we : EW M} {pos : Pos}
end
end DL
set_option Elab.async false
set_option linter.all false
set_option maxRecDepth 100000
set_option maxHeartbeats 1000000
namespace DL
open PySem L2
section
variable {X : Cx}
end
section
variable {M : Ghost} {C : Ct M}
end
end DL
set_option Elab.async false
set_option linter.all false
set_option maxRecDepth 100000
set_option maxHeartbeats 1000000
namespace DL
open PySem L2 PySem.W PySem.SeqAt
section
variable {X : Cx}
end
section
variable {M : Ghost} {C : Ct M}
end
end DL
set_option Elab.async false
set_option linter.all false
set_option maxRecDepth 100000
set_option maxHeartbeats 1000000
namespace DL
open PySem L2
section
variable {X : Cx} {pos : Pos}
end
section
variable {M : Ghost} {C : Ct M} {W W1 W2 W' : Wd M} {σ : L2.St} {ρ : DEnv} {e o : Expr} {es : List Expr} {we wo : EW M} {pos apos : Pos} {wa : AW M}
def cIntT : List D → (D → Prop) → Prop
  | [.str x], q => ∃ n, PySem.intText? (S x) = some n ∧ x.length ≤ 640 ∧ q (.int n)
  | _, _ => False
@[simp] theorem sm_intT {x : List Nat} {q : D → Prop} : cIntT [.str x] q = (∃ n, PySem.intText? (S x) = some n ∧ x.length ≤ 640 ∧ q (.int n)) := rfl
def cStrA : List D → (D → Prop) → Prop
  | [.int i], q => i.natAbs.log2 < 1920 ∧ q (.str (dec i))
  | [.str x], q => q (.str x)
  | _, _ => False
@[simp] theorem sm_strA1 {i : Int} {q : D → Prop} : cStrA [.int i] q = (i.natAbs.log2 < 1920 ∧ q (.str (dec i))) := rfl
@[simp] theorem sm_strA2 {x : List Nat} {q : D → Prop} : cStrA [.str x] q = q (.str x) := rfl
end
end DL
set_option Elab.async false
set_option linter.all false
set_option maxRecDepth 100000
set_option maxHeartbeats 1000000
namespace DL
open PySem L2
abbrev d_l_draw : DSp stg := dDraw
/-- one of the items -/
def d_l_pick : DSp stg := fun ds (g : Nat) q _ => ∃ c xs, ds = [.ob 0, c] ∧ itemsOf c = some xs ∧ xs ≠ [] ∧ xs.length ≤ 16777216 ∧ g + 1 ≤ 2 ^ 60 ∧ ∀ d ∈ xs, q d (g + 1)
/-- a word: letters a to z -/
def Lets (w : List Nat) : Prop := ∀ c ∈ w, 97 ≤ c ∧ c < 123
/-- a drawn word of at most so many letters -/
def d_l_drawn : DSp stg := fun ds (g : Nat) q _ => ∃ most : Nat, ds = [.ob 0, .int most] ∧ 1 ≤ most ∧ most ≤ 30 ∧ g + 40 ≤ 2 ^ 60 ∧ ∀ w : List Nat, 1 ≤ w.length → w.length ≤ most → Lets w → q (.str w) (g + 40)
/-- the tail at i is less than the tail at j -/
def tlt (w : List Nat) (i j : Nat) : Bool := decide (w.drop i < w.drop j)
/-- the places in the order of their tails -/
def tOrd (w : List Nat) : List Nat := (List.range w.length).mergeSort fun i j => !tlt w j i
def nats (xs : List Nat) : List D := xs.map fun (i : Nat) => D.int (i : Int)
def d_tail_order : DSp stg := fun ds g q _ => ∃ w : List Nat, ds = [.str w] ∧ w.length ≤ 1000 ∧ q (.tup (nats (tOrd w))) g
def isPerm (o : List Nat) : Prop := o.Perm (List.range o.length)
/-- the place of each number in a row of different ones -/
def inv (o : List Nat) : List Nat := (List.range o.length).map fun p => o.idxOf p
def d_ranks_in : DSp stg := fun ds g q _ => ∃ o : List Nat, ds = [.tup (nats o)] ∧ isPerm o ∧ o.length ≤ 1000 ∧ q (.tup (nats (inv o))) g
/-- the rank of a place of an order, -1 for the place behind the last one -/
def rkE (o : List Nat) (p : Nat) : Int := (((inv o).map fun (i : Nat) => (i : Int)) ++ [-1]).getD p 0
/-- the indexes of the strict steps -/
def stpW (o : List Nat) : List Nat := ((List.range (o.length - 1)).filter fun i => decide (rkE o (o.getD (i + 1) 0 + 1) < rkE o (o.getD i 0 + 1))).map (· + 1)
/-- the tails of a word with their places, in their order -/
def tlsW (w : List Nat) : List D := (tOrd w).map fun i => .tup [.str (w.drop i), .int (i : Int)]
def d_l_tails : DSp stg := fun ds g q _ => ∃ w : List Nat, ds = [.str w] ∧ w.length ≤ 1000 ∧ q (.lst (tlsW w)) g
def d_l_by_tails : DSp stg := d_tail_order
/-- a drawn order -/
def d_l_ordered : DSp stg := fun ds (g : Nat) q _ => ∃ most : Nat, ds = [.ob 0, .int most] ∧ 1 ≤ most ∧ most ≤ 30 ∧ g + 150 ≤ 2 ^ 60 ∧ ∀ o : List Nat, 1 ≤ o.length → o.length ≤ most → isPerm o → q (.tup (nats o)) (g + 150)
end DL
set_option Elab.async false
set_option linter.all false
set_option maxRecDepth 100000
set_option maxHeartbeats 1000000
namespace DL
open PySem L2
/-- a number between two others -/
def isInt (d : D) (lo hi : Int) : Bool := match d with
  | .int i => decide (lo ≤ i) && decide (i ≤ hi)
  | _ => false
/-- a value whose type is known -/
def okD (d : D) : Prop := ∃ t, tyN d = some t
def natD : D → Nat
  | .int i => i.toNat
  | _ => 0
def d_is_integer : DSp stg := fun ds g q _ => ∃ (v : D) (lo hi : Int), ds = [v, .int lo, .int hi] ∧ okD v ∧ q (.bl (isInt v lo hi)) g
/-- a place of a word -/
def isPl (n : Nat) (v : D) : Bool := isInt v 0 (n - 1)
abbrev sOrder : List Nat := [111, 114, 100, 101, 114]
abbrev sPlace : List Nat := [112, 108, 97, 99, 101]
/-- the item is no place, or came before -/
def badO (xs : List D) (i : Nat) : Bool := match xs[i]? with
  | some d => !isPl xs.length d || decide (natD d ∈ (xs.take i).map natD)
  | none => false
/-- the first error of an order -/
def oErr : D → D
  | .tup xs => if xs = [] ∨ 24 < xs.length then .tup [.non, .str sOrder] else match (List.range xs.length).find? (badO xs) with
    | some i => .tup [.int (i : Int), .str sPlace]
    | none => .non
  | _ => .tup [.non, .str sOrder]
/-- all items have types -/
def itD : D → Prop
  | .tup xs => ∀ d ∈ xs, okD d
  | _ => True
def d_order_error : DSp stg := fun ds g q _ => ∃ v : D, ds = [v] ∧ okD v ∧ itD v ∧ q (oErr v) g
def d_is_order : DSp stg := fun ds g q _ => ∃ v : D, ds = [v] ∧ okD v ∧ itD v ∧ q (.bl (isN (oErr v))) g
def d_ranks_of : DSp stg := d_ranks_in
/-- an order, grown by a first place of a rank -/
def grnW (o : List Nat) (s : Nat) : List Nat := (o.take s).map (· + 1) ++ 0 :: (o.drop s).map (· + 1)
def d_grown : DSp stg := fun ds g q ex => ∃ (o : List Nat) (v : D), ds = [.tup (nats o), v] ∧ o.length ≤ 1000 ∧ okD v ∧
  if isInt v 0 o.length = true then if o.length = 24 then ex ⟨"TooLong", ["limit"], [.int 24]⟩ g else q (.tup (nats (grnW o (natD v)))) g else ex ⟨"NoIndex", ["value"], [v]⟩ g
/-- all orders of so many places -/
def allO : Nat → List (List Nat)
  | 0 => [[]]
  | n + 1 => (allO n).flatMap fun o => (List.range (n + 1)).map fun s => grnW o s
def tups (xs : List (List Nat)) : List D := xs.map fun o => .tup (nats o)
def d_l_all_orders : DSp stg := fun ds g q _ => ∃ n : Nat, ds = [.int n] ∧ n ≤ 6 ∧ q (.lst (tups (allO n))) g
/-- an order without its place 0 -/
def shrW (o : List Nat) : List Nat := (o.filter fun p => decide (0 < p)).map (· - 1)
def d_shrunk : DSp stg := fun ds g q _ => ∃ o : List Nat, ds = [.tup (nats o)] ∧ o.length ≤ 1000 ∧ q (.tup (nats (shrW o))) g
/-- the number of the letter at an index of an order -/
def numW (o : List Nat) (k : Nat) : Nat := (stpW o).countP fun s => decide (s ≤ k)
def lstW (o : List Nat) : List Nat := (List.range o.length).map fun p => 97 + numW o (o.idxOf p)
def cutV (v : D) : Prop := okD v ∧ ∀ xs, v = .tup xs → xs.length ≤ 100 ∧ ∀ d ∈ xs, okD d ∧ ∀ x, d = .str x → x.length ≤ 100
end DL
set_option Elab.async false
set_option linter.all false
set_option maxRecDepth 100000
set_option maxHeartbeats 1000000
namespace DL
open PySem L2
section
variable {M : Ghost} {gw : GW} {wt : TW M} {we : EW M} {ρ : DEnv} {g : M.G} {q : List D → M.G → Prop}
/-- a comprehension that draws nothing -/
theorem lcW_map {α : Type} (e f : α → D) (p : α → Bool) : ∀ (xs : List α) {q : List D → M.G → Prop}, (∀ x ∈ xs, ∀ (k1 : D → M.G → Prop) (k0 : M.G → Prop), (if p x = true then k1 (f x) g else k0 g) → gw (e x) ρ fun ρ' => wt ρ' g fun b g1 => if b = true then we ρ' g1 k1 else k0 g1) →
    q ((xs.filter p).map f) g → lcW gw wt we ρ (xs.map e) g q
  | [], _, _, h => h
  | x :: xs, q, hs, h => by
    have ih := fun {q} => lcW_map e f p xs (q := q) (fun y hy => hs y (List.mem_cons_of_mem _ hy))
    refine hs x List.mem_cons_self _ _ ?_
    by_cases hp : p x = true
    · rw [if_pos hp]
      rw [List.filter_cons_of_pos hp] at h
      exact ih h
    · rw [if_neg hp]
      rw [List.filter_cons_of_neg hp] at h
      exact ih h
theorem lcW_all {α : Type} (e f : α → D) (xs : List α) {q : List D → M.G → Prop} (hs : ∀ x ∈ xs, ∀ (k1 : D → M.G → Prop) (k0 : M.G → Prop), k1 (f x) g → gw (e x) ρ fun ρ' => wt ρ' g fun b g1 => if b = true then we ρ' g1 k1 else k0 g1)
    (h : q (xs.map f) g) : lcW gw wt we ρ (xs.map e) g q :=
  lcW_map e f (fun _ => true) xs (fun x hx k1 k0 z => hs x hx k1 k0 (by simpa using z)) (by rw [List.filter_eq_self.mpr (fun _ _ => rfl)]; exact h)
end
/-- a comprehension that draws: c numbers each at most -/
theorem lcW_draw {gw : GW} {wt : TW stg} {we : EW stg} {ρ : DEnv} {α : Type} (e : α → D) (P : α → D → Prop) (c N : Nat) : ∀ (xs : List α) {g : Nat} {q : List D → Nat → Prop}, g + c * xs.length ≤ N →
    (∀ x ∈ xs, ∀ (g : Nat) (k1 : D → Nat → Prop) (k0 : Nat → Prop), g + c ≤ N → (∀ d, P x d → k1 d (g + c)) → gw (e x) ρ fun ρ' => wt ρ' g fun b g1 => if b = true then we ρ' g1 k1 else k0 g1) →
    (∀ ys : List D, Paired P xs ys → q ys (g + c * xs.length)) → lcW (M := stg) gw wt we ρ (xs.map e) g q
  | [], g, q, _, _, h => h [] .nil
  | x :: xs, g, q, hN, hs, h => by
    rw [List.length_cons] at hN
    have e1 : g + c * (xs.length + 1) = (g + c) + c * xs.length := by rw [Nat.mul_add, Nat.mul_one]; omega
    refine hs x List.mem_cons_self g _ _ (by omega) fun d hd => ?_
    refine lcW_draw e P c N xs (by omega) (fun y hy => hs y (List.mem_cons_of_mem _ hy)) fun ys hy => ?_
    have := h (d :: ys) (.cons hd hy)
    rw [List.length_cons, e1] at this
    exact this
section
variable {M : Ghost} {gw : GW} {wb : SW M} {k : K3 M}
/-- a for by its word -/
theorem forW_inv (I : Nat → DEnv → M.G → Prop) : ∀ (ds : List D) (n : Nat) {ρ : DEnv} {g : M.G}, (∀ (i : Nat) d ρ g (K : DEnv → M.G → Prop), ds[i]? = some d → I (n + i) ρ g → (∀ ρ g, I (n + i + 1) ρ g → K ρ g) → gw d ρ fun ρ' => wb { nx := K, rt := k.rt, bk := k.nx, ct := K } ρ' g) →
    (∀ ρ g, I (n + ds.length) ρ g → k.nx ρ g) → I n ρ g → forW gw wb ds k ρ g
  | [], n, ρ, g, _, he, h => he ρ g h
  | d :: ds, n, ρ, g, hs, he, h => by
    refine hs 0 d ρ g _ rfl h fun ρ g h' => ?_
    refine forW_inv I ds (n + 1) (fun i d ρ g K e h K1 => hs (i + 1) d ρ g K (by simpa using e) (by rw [show n + (i + 1) = n + 1 + i by omega]; exact h) (by rw [show n + (i + 1) + 1 = n + 1 + i + 1 by omega]; exact K1)) (fun ρ g h => he ρ g (by rw [List.length_cons, show n + (ds.length + 1) = n + 1 + ds.length by omega]; exact h)) h'
theorem forW_word (I : Nat → DEnv → M.G → Prop) (ds : List D) {ρ : DEnv} {g : M.G} (h0 : I 0 ρ g) (hs : ∀ (i : Nat) d ρ g (K : DEnv → M.G → Prop), ds[i]? = some d → I i ρ g → (∀ ρ g, I (i + 1) ρ g → K ρ g) → gw d ρ fun ρ' => wb { nx := K, rt := k.rt, bk := k.nx, ct := K } ρ' g)
    (he : ∀ ρ g, I ds.length ρ g → k.nx ρ g) : forW gw wb ds k ρ g :=
  forW_inv I ds 0 (fun i d ρ g K e h K1 => hs i d ρ g K e (by rw [Nat.zero_add] at h; exact h) (by rw [Nat.zero_add] at K1; exact K1)) (fun ρ g h => he ρ g (by rw [Nat.zero_add] at h; exact h)) h0
end
theorem rngL_0 (n : Nat) : rngL 0 (n : Int) = (List.range n).map fun (i : Nat) => D.int (i : Int) := by
  unfold rngL
  simp
theorem rngL_len (lo hi : Int) : (rngL lo hi).length = (hi - lo).toNat := by unfold rngL; simp
theorem small_line {n : Nat} (h : n ≤ 16777216) : n ≤ sizeLine := by rw [sizeLine_eq]; exact h
theorem atI_ofNat {α : Type} {xs : List α} {j : Nat} {v : α} (h : xs[j]? = some v) : atI xs (j : Int) = some v := atI_nat h
theorem ixN_ofNat {n j : Nat} (h : j < n) : ixN n (j : Int) = some j := by
  unfold ixN
  rw [if_pos (by omega), if_pos (by omega)]
  simp
theorem cut_from {α : Type} (xs : List α) (i : Nat) : cutL xs (some (i : Int)) none = xs.drop i := by
  unfold cutL
  rw [HT.sIx_nat, HT.sIx_none]
  by_cases h : i ≤ xs.length
  · rw [Nat.min_eq_left h, List.take_of_length_le (by rw [List.length_drop]; omega)]
  · rw [Nat.min_eq_right (by omega), List.drop_length, List.drop_eq_nil_of_le (by omega)]
    simp
theorem cut_to {α : Type} (xs : List α) (i : Nat) : cutL xs none (some (i : Int)) = xs.take i := by
  unfold cutL
  rw [HT.sIx_nat, HT.sIx_none, List.drop_zero, Nat.sub_zero]
  by_cases h : i ≤ xs.length
  · rw [Nat.min_eq_left h]
  · rw [Nat.min_eq_right (by omega), List.take_length, List.take_of_length_le (by omega)]
end DL
set_option Elab.async false
set_option linter.all false
set_option maxRecDepth 100000
set_option maxHeartbeats 1000000
namespace DL
open PySem L2
section
variable {q : D → Prop} {qn : List D → Prop} {i j : Int} {x y : List Nat} {ds es : List D} {b c : Bool} {d e : D}
@[simp] theorem sm_add1 : (oAdd (.int i) (.int j) q) = (q (.int (i + j))) := rfl
@[simp] theorem sm_add2 : (oAdd (.str x) (.str y) q) = (x.length + y.length ≤ sizeLine ∧ q (.str (x ++ y))) := rfl
@[simp] theorem sm_add3 : (oAdd (.tup ds) (.tup es) q) = (ds.length + es.length ≤ sizeLine ∧ q (.tup (ds ++ es))) := rfl
@[simp] theorem sm_cat : (oCat (.lst ds) (.lst es) qn) = (ds.length + es.length ≤ sizeLine ∧ qn (ds ++ es)) := rfl
@[simp] theorem sm_sub : (oSub (.int i) (.int j) q) = (q (.int (i - j))) := rfl
@[simp] theorem sm_mul1 : (oMul (.int i) (.int j) q) = (CMul i j ∧ q (.int (i * j))) := rfl
@[simp] theorem sm_mul2 : (oMul (.str x) (.int j) q) = (0 ≤ j ∧ x.length * j.toNat ≤ sizeLine ∧ j ≤ 2 ^ 32 ∧ q (.str (List.replicate j.toNat x).flatten)) := rfl
@[simp] theorem sm_rep : (oRep (.lst ds) (.int j) qn) = (-(2 ^ 63) ≤ j ∧ j < 2 ^ 63 ∧ ds.length * j.toNat ≤ sizeLine ∧ qn (List.replicate j.toNat ds).flatten) := rfl
@[simp] theorem sm_div : (oDiv (.int i) (.int j) q) = (CDiv i j ∧ q (.int (i / j))) := rfl
@[simp] theorem sm_mod : (oMod (.int i) (.int j) q) = (0 < j ∧ q (.int (i % j))) := rfl
@[simp] theorem sm_pow : (oPow (.int i) (.int j) q) = (CPow i j ∧ q (.int (i ^ j.toNat))) := rfl
@[simp] theorem sm_lt1 : (oLt (.int i) (.int j) q) = (q (.bl (decide (i < j)))) := rfl
@[simp] theorem sm_lt2 : (oLt (.str x) (.str y) q) = (q (.bl (decide (x < y)))) := rfl
@[simp] theorem sm_le1 : (oLe (.int i) (.int j) q) = (q (.bl (decide (i ≤ j)))) := rfl
@[simp] theorem sm_le2 : (oLe (.str x) (.str y) q) = (q (.bl (!decide (y < x)))) := rfl
@[simp] theorem sm_gt1 : (oGt (.int i) (.int j) q) = (q (.bl (decide (j < i)))) := rfl
@[simp] theorem sm_gt2 : (oGt (.str x) (.str y) q) = (q (.bl (decide (y < x)))) := rfl
@[simp] theorem sm_ge1 : (oGe (.int i) (.int j) q) = (q (.bl (decide (j ≤ i)))) := rfl
@[simp] theorem sm_ge2 : (oGe (.str x) (.str y) q) = (q (.bl (!decide (x < y)))) := rfl
@[simp] theorem sm_eq1 : (oEq (.int i) (.int j) q) = (q (.bl (decide (i = j)))) := rfl
@[simp] theorem sm_eq2 : (oEq (.str x) (.str y) q) = (q (.bl (decide (x = y)))) := rfl
@[simp] theorem sm_eq3 : (oEq (.bl b) (.bl c) q) = (q (.bl (decide (b = c)))) := rfl
@[simp] theorem sm_eql : (oEq (.lst ds) e q) = (shp (.lst ds) = true ∧ shp e = true ∧ q (.bl (deq (.lst ds) e))) := rfl
@[simp] theorem sm_eqt : (oEq (.tup ds) e q) = (shp (.tup ds) = true ∧ shp e = true ∧ q (.bl (deq (.tup ds) e))) := rfl
@[simp] theorem sm_eqn : (oEq (.non) e q) = (shp (.non) = true ∧ shp e = true ∧ q (.bl (deq (.non) e))) := rfl
@[simp] theorem sm_eqli : (oEq (.int i) (.lst es) q) = (shp (.int i) = true ∧ shp (.lst es) = true ∧ q (.bl (deq (.int i) (.lst es)))) := rfl
@[simp] theorem sm_eqls : (oEq (.str x) (.lst es) q) = (shp (.str x) = true ∧ shp (.lst es) = true ∧ q (.bl (deq (.str x) (.lst es)))) := rfl
@[simp] theorem sm_eqlb : (oEq (.bl b) (.lst es) q) = (shp (.bl b) = true ∧ shp (.lst es) = true ∧ q (.bl (deq (.bl b) (.lst es)))) := rfl
@[simp] theorem sm_eqti : (oEq (.int i) (.tup es) q) = (shp (.int i) = true ∧ shp (.tup es) = true ∧ q (.bl (deq (.int i) (.tup es)))) := rfl
@[simp] theorem sm_eqts : (oEq (.str x) (.tup es) q) = (shp (.str x) = true ∧ shp (.tup es) = true ∧ q (.bl (deq (.str x) (.tup es)))) := rfl
@[simp] theorem sm_eqtb : (oEq (.bl b) (.tup es) q) = (shp (.bl b) = true ∧ shp (.tup es) = true ∧ q (.bl (deq (.bl b) (.tup es)))) := rfl
@[simp] theorem sm_eqni : (oEq (.int i) (.non) q) = (shp (.int i) = true ∧ shp (.non) = true ∧ q (.bl (deq (.int i) (.non)))) := rfl
@[simp] theorem sm_eqns : (oEq (.str x) (.non) q) = (shp (.str x) = true ∧ shp (.non) = true ∧ q (.bl (deq (.str x) (.non)))) := rfl
@[simp] theorem sm_eqnb : (oEq (.bl b) (.non) q) = (shp (.bl b) = true ∧ shp (.non) = true ∧ q (.bl (deq (.bl b) (.non)))) := rfl
@[simp] theorem sm_eqis : (oEq (.int i) (.str x) q) = (shp (.int i) = true ∧ shp (.str x) = true ∧ q (.bl (deq (.int i) (.str x)))) := rfl
@[simp] theorem sm_eqsi : (oEq (.str x) (.int i) q) = (shp (.str x) = true ∧ shp (.int i) = true ∧ q (.bl (deq (.str x) (.int i)))) := rfl
@[simp] theorem sm_eqib : (oEq (.int i) (.bl b) q) = (shp (.int i) = true ∧ shp (.bl b) = true ∧ q (.bl (deq (.int i) (.bl b)))) := rfl
@[simp] theorem sm_eqbi : (oEq (.bl b) (.int i) q) = (shp (.bl b) = true ∧ shp (.int i) = true ∧ q (.bl (deq (.bl b) (.int i)))) := rfl
@[simp] theorem sm_eqsb : (oEq (.str x) (.bl b) q) = (shp (.str x) = true ∧ shp (.bl b) = true ∧ q (.bl (deq (.str x) (.bl b)))) := rfl
@[simp] theorem sm_eqbs : (oEq (.bl b) (.str x) q) = (shp (.bl b) = true ∧ shp (.str x) = true ∧ q (.bl (deq (.bl b) (.str x)))) := rfl
@[simp] theorem sm_ne1 : (oNe (.int i) (.int j) q) = (q (.bl (!decide (i = j)))) := rfl
@[simp] theorem sm_ne2 : (oNe (.str x) (.str y) q) = (q (.bl (!decide (x = y)))) := rfl
@[simp] theorem sm_ne3 : (oNe (.bl b) (.bl c) q) = (q (.bl (!decide (b = c)))) := rfl
@[simp] theorem sm_nel : (oNe (.lst ds) e q) = (shp (.lst ds) = true ∧ shp e = true ∧ q (.bl (!deq (.lst ds) e))) := rfl
@[simp] theorem sm_net : (oNe (.tup ds) e q) = (shp (.tup ds) = true ∧ shp e = true ∧ q (.bl (!deq (.tup ds) e))) := rfl
@[simp] theorem sm_nen : (oNe (.non) e q) = (shp (.non) = true ∧ shp e = true ∧ q (.bl (!deq (.non) e))) := rfl
@[simp] theorem sm_neli : (oNe (.int i) (.lst es) q) = (shp (.int i) = true ∧ shp (.lst es) = true ∧ q (.bl (!deq (.int i) (.lst es)))) := rfl
@[simp] theorem sm_nels : (oNe (.str x) (.lst es) q) = (shp (.str x) = true ∧ shp (.lst es) = true ∧ q (.bl (!deq (.str x) (.lst es)))) := rfl
@[simp] theorem sm_nelb : (oNe (.bl b) (.lst es) q) = (shp (.bl b) = true ∧ shp (.lst es) = true ∧ q (.bl (!deq (.bl b) (.lst es)))) := rfl
@[simp] theorem sm_neti : (oNe (.int i) (.tup es) q) = (shp (.int i) = true ∧ shp (.tup es) = true ∧ q (.bl (!deq (.int i) (.tup es)))) := rfl
@[simp] theorem sm_nets : (oNe (.str x) (.tup es) q) = (shp (.str x) = true ∧ shp (.tup es) = true ∧ q (.bl (!deq (.str x) (.tup es)))) := rfl
@[simp] theorem sm_netb : (oNe (.bl b) (.tup es) q) = (shp (.bl b) = true ∧ shp (.tup es) = true ∧ q (.bl (!deq (.bl b) (.tup es)))) := rfl
@[simp] theorem sm_neni : (oNe (.int i) (.non) q) = (shp (.int i) = true ∧ shp (.non) = true ∧ q (.bl (!deq (.int i) (.non)))) := rfl
@[simp] theorem sm_nens : (oNe (.str x) (.non) q) = (shp (.str x) = true ∧ shp (.non) = true ∧ q (.bl (!deq (.str x) (.non)))) := rfl
@[simp] theorem sm_nenb : (oNe (.bl b) (.non) q) = (shp (.bl b) = true ∧ shp (.non) = true ∧ q (.bl (!deq (.bl b) (.non)))) := rfl
@[simp] theorem sm_neis : (oNe (.int i) (.str x) q) = (shp (.int i) = true ∧ shp (.str x) = true ∧ q (.bl (!deq (.int i) (.str x)))) := rfl
@[simp] theorem sm_nesi : (oNe (.str x) (.int i) q) = (shp (.str x) = true ∧ shp (.int i) = true ∧ q (.bl (!deq (.str x) (.int i)))) := rfl
@[simp] theorem sm_neib : (oNe (.int i) (.bl b) q) = (shp (.int i) = true ∧ shp (.bl b) = true ∧ q (.bl (!deq (.int i) (.bl b)))) := rfl
@[simp] theorem sm_nebi : (oNe (.bl b) (.int i) q) = (shp (.bl b) = true ∧ shp (.int i) = true ∧ q (.bl (!deq (.bl b) (.int i)))) := rfl
@[simp] theorem sm_nesb : (oNe (.str x) (.bl b) q) = (shp (.str x) = true ∧ shp (.bl b) = true ∧ q (.bl (!deq (.str x) (.bl b)))) := rfl
@[simp] theorem sm_nebs : (oNe (.bl b) (.str x) q) = (shp (.bl b) = true ∧ shp (.str x) = true ∧ q (.bl (!deq (.bl b) (.str x)))) := rfl
@[simp] theorem sm_isn : (oIsN d .non q) = (q (.bl (isN d))) := rfl
@[simp] theorem sm_notn : (oNotN d .non q) = (q (.bl (!isN d))) := rfl
@[simp] theorem sm_isN_non : (isN (.non)) = (true) := rfl
@[simp] theorem sm_isN_int : (isN (.int i)) = (false) := rfl
@[simp] theorem sm_isN_str : (isN (.str x)) = (false) := rfl
@[simp] theorem sm_isN_bl : (isN (.bl b)) = (false) := rfl
@[simp] theorem sm_isN_lst : (isN (.lst ds)) = (false) := rfl
@[simp] theorem sm_isN_tup : (isN (.tup ds)) = (false) := rfl
@[simp] theorem sm_ix1 : (oIx (.lst ds) (.int i) q) = (∃ d, atI ds i = some d ∧ q d) := rfl
@[simp] theorem sm_ix2 : (oIx (.tup ds) (.int i) q) = (∃ d, atI ds i = some d ∧ q d) := rfl
@[simp] theorem sm_ix3 : (oIx (.str x) (.int i) q) = (x.length ≤ sizeLine ∧ ∃ c, atI x i = some c ∧ q (.str [c])) := rfl
variable {lo hi : Option Int}
@[simp] theorem sm_sl1 : (oSl (.str x) lo hi q) = (x.length ≤ sizeLine ∧ q (.str (cutL x lo hi))) := rfl
@[simp] theorem sm_sl2 : (oSl (.tup ds) lo hi q) = (q (.tup (cutL ds lo hi))) := rfl
@[simp] theorem sm_sl3 : (oSl (.lst ds) lo hi q) = (q (.lst (cutL ds lo hi))) := rfl
@[simp] theorem sm_sl4 : (oSlN (.lst ds) lo hi qn) = (qn (cutL ds lo hi)) := rfl
@[simp] theorem sm_len1 : (cLen [.str x] q) = (x.length ≤ sizeLine ∧ q (.int x.length)) := rfl
@[simp] theorem sm_len2 : (cLen [.lst ds] q) = (q (.int ds.length)) := rfl
@[simp] theorem sm_len3 : (cLen [.tup ds] q) = (q (.int ds.length)) := rfl
@[simp] theorem sm_tup1 : (cTuple [.lst ds] q) = (q (.tup ds)) := rfl
@[simp] theorem sm_tup2 : (cTuple [.tup ds] q) = (q (.tup ds)) := rfl
@[simp] theorem sm_list1 : (cList [.lst ds] qn) = (qn ds) := rfl
@[simp] theorem sm_list2 : (cList [.tup ds] qn) = (qn ds) := rfl
@[simp] theorem sm_min2 : (cMin2 [.int i, .int j] q) = (q (.int (if j < i then j else i))) := rfl
@[simp] theorem sm_max2 : (cMax2 [.int i, .int j] q) = (q (.int (if j > i then j else i))) := rfl
@[simp] theorem sm_int1 : (cInt [.int i] q) = (q (.int i)) := rfl
@[simp] theorem sm_int2 : (cInt [.bl b] q) = (q (.int (if b then 1 else 0))) := rfl
@[simp] theorem sm_str1 : (cStr [.int i] q) = (i.natAbs.log2 < 1920 ∧ q (.str (dec i))) := rfl
@[simp] theorem sm_rev1 : (oRev (.lst ds) q) = (q (.lst ds.reverse)) := rfl
@[simp] theorem sm_rev2 : (oRev (.tup ds) q) = (q (.tup ds.reverse)) := rfl
@[simp] theorem sm_rev3 : (oRevN (.lst ds) qn) = (qn ds.reverse) := rfl
theorem in_seqL {f : Bool → Bool} : (oInB f d (.lst ds) q) = (flatD d = true ∧ ds.all flatD = true ∧ q (.bl (f (ds.any fun y => eqF y d)))) := by
  cases d with
  | str x => cases x with
    | nil => rfl
    | cons a t => cases t <;> rfl
  | _ => rfl
theorem in_seqT {f : Bool → Bool} : (oInB f d (.tup ds) q) = (flatD d = true ∧ ds.all flatD = true ∧ q (.bl (f (ds.any fun y => eqF y d)))) := by
  cases d with
  | str x => cases x with
    | nil => rfl
    | cons a t => cases t <;> rfl
  | _ => rfl
@[simp] theorem sm_in1 : (oIn d (.lst ds) q) = (flatD d = true ∧ ds.all flatD = true ∧ q (.bl (ds.any fun y => eqF y d))) := in_seqL
@[simp] theorem sm_in2 : (oIn d (.tup ds) q) = (flatD d = true ∧ ds.all flatD = true ∧ q (.bl (ds.any fun y => eqF y d))) := in_seqT
@[simp] theorem sm_in3 {c : Nat} : (oIn (.str [c]) (.str x) q) = (q (.bl (decide (c ∈ x)))) := rfl
@[simp] theorem sm_nin1 : (oNotIn d (.lst ds) q) = (flatD d = true ∧ ds.all flatD = true ∧ q (.bl (!ds.any fun y => eqF y d))) := in_seqL
@[simp] theorem sm_nin2 : (oNotIn d (.tup ds) q) = (flatD d = true ∧ ds.all flatD = true ∧ q (.bl (!ds.any fun y => eqF y d))) := in_seqT
@[simp] theorem sm_nin3 {c : Nat} : (oNotIn (.str [c]) (.str x) q) = (q (.bl (!decide (c ∈ x)))) := rfl
@[simp] theorem sm_flat1 : flatD (.int i) = true := rfl
@[simp] theorem sm_flat2 : flatD (.str x) = true := rfl
@[simp] theorem sm_flat3 : flatD (.bl b) = true := rfl
@[simp] theorem sm_isi1 {T : String} : (isiD T (.int i) q) = (q (.bl (isTyp "int" T))) := by
  unfold isiD
  exact propext ⟨fun ⟨t, h1, h2⟩ => by cases h1; exact h2, fun h => ⟨_, rfl, h⟩⟩
@[simp] theorem sm_isi2 {T : String} : (isiD T (.str x) q) = (q (.bl (isTyp "str" T))) := by
  unfold isiD
  exact propext ⟨fun ⟨t, h1, h2⟩ => by cases h1; exact h2, fun h => ⟨_, rfl, h⟩⟩
@[simp] theorem sm_isi3 {T : String} : (isiD T (.bl b) q) = (q (.bl (isTyp "bool" T))) := by
  unfold isiD
  exact propext ⟨fun ⟨t, h1, h2⟩ => by cases h1; exact h2, fun h => ⟨_, rfl, h⟩⟩
@[simp] theorem sm_isi4 {T : String} : (isiD T .non q) = (q (.bl (isTyp "NoneType" T))) := by
  unfold isiD
  exact propext ⟨fun ⟨t, h1, h2⟩ => by cases h1; exact h2, fun h => ⟨_, rfl, h⟩⟩
@[simp] theorem sm_isi5 {T : String} : (isiD T (.lst ds) q) = (q (.bl (isTyp "list" T))) := by
  unfold isiD
  exact propext ⟨fun ⟨t, h1, h2⟩ => by cases h1; exact h2, fun h => ⟨_, rfl, h⟩⟩
@[simp] theorem sm_isi6 {T : String} : (isiD T (.tup ds) q) = (q (.bl (isTyp "tuple" T))) := by
  unfold isiD
  exact propext ⟨fun ⟨t, h1, h2⟩ => by cases h1; exact h2, fun h => ⟨_, rfl, h⟩⟩
variable {qb : Bool → Prop} {qi : Int → Prop} {qs : List Nat → Prop}
@[simp] theorem sm_isB : (isB (.bl b) qb) = (qb b) := rfl
@[simp] theorem sm_asI : (asI (.int i) qi) = (qi i) := rfl
@[simp] theorem sm_asS : (asS (.str x) qs) = (qs x) := rfl
@[simp] theorem sm_it1 : (itemsOf (.lst ds)) = (some ds) := rfl
@[simp] theorem sm_it2 : (itemsOf (.tup ds)) = (some ds) := rfl
@[simp] theorem sm_it3 : (itemsOf (.str x)) = (some (x.map fun c => D.str [c])) := rfl
end
theorem draw_n {n g : Nat} {Q : D → Nat → Prop} {ex : Exn → Nat → Prop} (h0 : 0 < n) (h1 : n < 1152921504606846976) (hg : g + 1 ≤ 2 ^ 60) (h : ∀ v : Nat, v < n → Q (.int v) (g + 1)) : dDraw [.ob 0, .int n] g Q ex :=
  ⟨n, rfl, by omega, by omega, hg, fun v hv hv2 => by
    obtain ⟨m, rfl⟩ := Int.eq_ofNat_of_zero_le hv
    exact h m (by omega)⟩
theorem draw_l {k g : Nat} {Q : D → Nat → Prop} {ex : Exn → Nat → Prop} (hg : g + 1 ≤ 2 ^ 60) (h : ∀ v : Nat, v < k → Q (.int v) (g + 1)) (h0 : 0 < k := by decide) (h1 : k < 1152921504606846976 := by decide) {j : Int} (e : j = k := by rfl) : dDraw [.ob 0, .int j] g Q ex := by
  subst e
  exact draw_n h0 h1 hg h
theorem pick_of {g : Nat} {c : D} {xs : List D} {Q : D → Nat → Prop} {ex : Exn → Nat → Prop} (hg : g + 1 ≤ 2 ^ 60) (hc : itemsOf c = some xs) (h0 : xs ≠ []) (h1 : xs.length ≤ 16777216) (h : ∀ d ∈ xs, Q d (g + 1)) : d_l_pick [.ob 0, c] g Q ex := ⟨c, xs, rfl, hc, h0, h1, hg, h⟩
end DL
set_option Elab.async false
set_option linter.all false
set_option maxRecDepth 100000
set_option maxHeartbeats 1000000
namespace DL
open PySem L2
theorem perm_strict_eq {α : Type} {R : α → α → Prop} (as : ∀ a b, R a b → R b a → False) : ∀ {l1 l2 : List α}, l1.Perm l2 → l1.Pairwise R → l2.Pairwise R → l1 = l2
  | [], l2, p, _, _ => by rw [List.nil_perm.mp p]
  | a :: r, [], p, _, _ => by cases List.perm_nil.mp p
  | a :: r, b :: t, p, h1, h2 => by
    rw [List.pairwise_cons] at h1 h2
    have e : a = b := by
      rcases List.mem_cons.mp (p.mem_iff.mp List.mem_cons_self) with e | ha
      · exact e
      · rcases List.mem_cons.mp (p.symm.mem_iff.mp (List.mem_cons_self (a := b) (l := t))) with e | hb
        · exact e.symm
        · exact (as a b (h1.1 b hb) (h2.1 a ha)).elim
    subst e
    rw [perm_strict_eq as (List.Perm.cons_inv p) h1.2 h2.2]
/-- the tails stand in their order -/
def IsTO (w : List Nat) (o : List Nat) : Prop := o.Perm (List.range w.length) ∧ o.Pairwise fun i j => w.drop i < w.drop j
theorem lt_asymmL {a b : List Nat} (h : a < b) (h' : b < a) : False := List.lt_irrefl a (List.lt_trans h h')
theorem IsTO.uniq {w o o' : List Nat} (h : IsTO w o) (h' : IsTO w o') : o = o' := perm_strict_eq (fun _ _ a b => lt_asymmL a b) (h.1.trans h'.1.symm) h.2 h'.2
theorem drop_inj {w : List Nat} {i j : Nat} (hi : i < w.length) (hj : j < w.length) (e : w.drop i = w.drop j) : i = j := by
  have := congrArg List.length e
  rw [List.length_drop, List.length_drop] at this
  omega
theorem isTO_of_le {w o : List Nat} (p : o.Perm (List.range w.length)) (h : o.Pairwise fun i j => ¬ w.drop j < w.drop i) : IsTO w o := by
  refine ⟨p, ?_⟩
  have nd : o.Nodup := p.nodup_iff.mpr List.nodup_range
  have both := h.and nd
  refine both.imp_of_mem fun {i j} hi hj hij => ?_
  have hi' := List.mem_range.mp (p.mem_iff.mp hi)
  have hj' := List.mem_range.mp (p.mem_iff.mp hj)
  have le := List.not_lt.mp hij.1
  rcases Classical.em (w.drop i < w.drop j) with h | h
  · exact h
  · exact absurd (drop_inj hi' hj' (List.le_antisymm le (List.not_lt.mp h))) hij.2
theorem tOrd_is (w : List Nat) : IsTO w (tOrd w) := by
  refine isTO_of_le (List.mergeSort_perm _ _) ?_
  have tr : ∀ a b c : Nat, (!tlt w b a) = true → (!tlt w c b) = true → (!tlt w c a) = true := fun a b c h1 h2 => by
    simp only [tlt, Bool.not_eq_true', decide_eq_false_iff_not] at *
    exact List.not_lt.mpr (List.le_trans (List.not_lt.mp h1) (List.not_lt.mp h2))
  have to : ∀ a b : Nat, ((!tlt w b a) || (!tlt w a b)) = true := fun a b => by
    simp only [tlt, Bool.or_eq_true, Bool.not_eq_true', decide_eq_false_iff_not]
    rcases Classical.em (w.drop b < w.drop a) with h | h
    · exact .inr fun h' => lt_asymmL h h'
    · exact .inl h
  refine (List.pairwise_mergeSort (le := fun i j => !tlt w j i) tr to (List.range w.length)).imp fun {i j} h => ?_
  simp only [tlt, Bool.not_eq_true', decide_eq_false_iff_not] at h
  exact h
theorem IsTO.eq {w o : List Nat} (h : IsTO w o) : o = tOrd w := h.uniq (tOrd_is w)
theorem tOrd_len (w : List Nat) : (tOrd w).length = w.length := by rw [(tOrd_is w).1.length_eq, List.length_range]
theorem tOrd_lt {w : List Nat} {i : Nat} (h : i ∈ tOrd w) : i < w.length := List.mem_range.mp ((tOrd_is w).1.mem_iff.mp h)
/-- the sorted pairs give the tail order -/
theorem sorted_TO {w : List Nat} {ys : List (List Nat × Int)} (hp : ys.Perm ((List.range w.length).map fun i : Nat => (w.drop i, (i : Int)))) (hs : ys.Pairwise leTI) : ys.map (fun y => D.int y.2) = nats (tOrd w) := by
  obtain ⟨o, ho, rfl⟩ := perm_map_inv (f := fun i : Nat => (w.drop i, (i : Int))) hp _ rfl
  rw [List.pairwise_map] at hs
  have := isTO_of_le ho (hs.imp fun {i j} h => by
    rcases h with h | ⟨h, _⟩
    · exact fun h' => lt_asymmL h h'
    · intro h'
      have e : w.drop i = w.drop j := h
      rw [e] at h'
      exact List.lt_irrefl _ h')
  rw [← this.eq, List.map_map]
  rfl
theorem inv_len (o : List Nat) : (inv o).length = o.length := by unfold inv; rw [List.length_map, List.length_range]
theorem isPerm.nodup {o : List Nat} (h : isPerm o) : o.Nodup := List.Perm.nodup_iff h |>.mpr List.nodup_range
theorem isPerm.lt {o : List Nat} (h : isPerm o) {i : Nat} (hi : i ∈ o) : i < o.length := List.mem_range.mp (List.Perm.mem_iff h |>.mp hi)
theorem isPerm.mem {o : List Nat} (h : isPerm o) {i : Nat} (hi : i < o.length) : i ∈ o := List.Perm.mem_iff h |>.mpr (List.mem_range.mpr hi)
theorem inv_get {o : List Nat} {p : Nat} (hp : p < o.length) : (inv o)[p]? = some (o.idxOf p) := by
  unfold inv
  rw [List.getElem?_map, List.getElem?_range hp]
  rfl
theorem idx_of_get {o : List Nat} (h : o.Nodup) {j p : Nat} (e : o[j]? = some p) : o.idxOf p = j := by
  obtain ⟨hj, rfl⟩ := List.getElem?_eq_some_iff.mp e
  exact h.idxOf_getElem j hj
theorem get_idx {o : List Nat} {p : Nat} (h : p ∈ o) : o[o.idxOf p]? = some p := by
  have := List.idxOf_lt_length_of_mem h
  rw [List.getElem?_eq_getElem this, List.getElem_idxOf]
/-- ranks filled in by their places -/
theorem filled_inv {o : List Nat} {F : List D} (ho : isPerm o) (hl : F.length = o.length) (h : ∀ (j p : Nat), o[j]? = some p → F[p]? = some (.int j)) : F = nats (inv o) := by
  refine List.ext_getElem? fun p => ?_
  by_cases hp : p < o.length
  · unfold nats
    rw [List.getElem?_map, inv_get hp, h _ _ (get_idx (ho.mem hp))]
    rfl
  · rw [List.getElem?_eq_none (by omega), List.getElem?_eq_none (by unfold nats; rw [List.length_map, inv_len]; omega)]
theorem tOrd_perm (w : List Nat) : isPerm (tOrd w) := by
  unfold isPerm
  rw [tOrd_len]
  exact (tOrd_is w).1
theorem nats_get {o : List Nat} {i : Nat} {d : D} (h : (nats o)[i]? = some d) : ∃ p : Nat, o[i]? = some p ∧ d = .int p := by
  unfold nats at h
  rw [List.getElem?_map] at h
  cases hp : o[i]? with
  | none => rw [hp] at h; cases h
  | some p => rw [hp] at h; cases h; exact ⟨p, rfl, rfl⟩
theorem nats_len (o : List Nat) : (nats o).length = o.length := by unfold nats; rw [List.length_map]
theorem en_get {ds : List D} {i : Nat} {d : D} (h : (enL 0 ds)[i]? = some d) : ∃ e, ds[i]? = some e ∧ d = .tup [.int (i : Nat), e] := by
  rw [enL_get, Nat.zero_add] at h
  cases hp : ds[i]? with
  | none => rw [hp] at h; cases h
  | some p => rw [hp] at h; cases h; exact ⟨p, rfl, rfl⟩
theorem enL_len : ∀ (ds : List D) (n : Nat), (enL n ds).length = ds.length
  | [], _ => rfl
  | d :: ds, n => by show (enL (n + 1) ds).length + 1 = _; rw [enL_len ds (n + 1)]; rfl
end DL
set_option Elab.async false
set_option linter.all false
set_option maxRecDepth 100000
set_option maxHeartbeats 1000000
namespace DL
open PySem L2
/-- shown in at most n signs, nested at most k levels -/
structure RB (n k : Nat) (d : D) : Prop where
  show_ : (py d).showable = true
  pl : pln d = true
  dep : (py d).depth ≤ k
  len : (py d).shown.length ≤ n
theorem RB.mono {n m k l : Nat} {d : D} (h : RB n k d) (a : n ≤ m) (b : k ≤ l) : RB m l d := ⟨h.1, h.2, Nat.le_trans h.3 b, Nat.le_trans h.4 a⟩
theorem RB.ok {n k : Nat} {d : D} (h : RB n k d) (a : n ≤ 16777216) (b : k ≤ 60) : repOk d := ⟨h.1, h.2, Nat.le_trans h.3 b, by rw [sizeLine_eq]; exact Nat.le_trans h.4 a⟩
end DL
set_option Elab.async false
set_option linter.all false
set_option maxRecDepth 100000
set_option maxHeartbeats 1000000
namespace DL
open PySem L2
theorem jn_ones : ∀ xs : List Nat, jn [] (xs.map fun c => [c]) = xs
  | [] => rfl
  | [a] => rfl
  | a :: b :: r => by
    have := jn_ones (b :: r)
    show [a] ++ ([] ++ TL.joinL [] ((b :: r).map fun c => [c])) = _
    rw [show TL.joinL [] ((b :: r).map fun c => [c]) = b :: r from this]
    rfl
theorem ones_sum (xs : List Nat) : ((xs.map fun c => [c]).map (·.length)).sum = xs.length := by
  induction xs with
  | nil => rfl
  | cons a r ih => simp at ih ⊢; omega
/-- a letter as a text -/
def IsL (d : D) : Prop := ∃ c, d = .str [c] ∧ 97 ≤ c ∧ c < 123
theorem isL_all : ∀ {ys : List D}, (∀ d ∈ ys, IsL d) → ∃ cs : List Nat, ys = cs.map (fun c => D.str [c]) ∧ Lets cs ∧ cs.length = ys.length
  | [], _ => ⟨[], rfl, (fun _ h => by cases h), rfl⟩
  | y :: ys, h => by
    obtain ⟨cs, e, l, hl⟩ := isL_all fun d hd => h d (List.mem_cons_of_mem _ hd)
    obtain ⟨c, rfl, h1, h2⟩ := h y List.mem_cons_self
    refine ⟨c :: cs, by rw [e]; rfl, fun x hx => ?_, by rw [List.length_cons, List.length_cons, hl]⟩
    rcases List.mem_cons.mp hx with rfl | hx
    · exact ⟨h1, h2⟩
    · exact l x hx
theorem paired_all {α : Type} {P : D → Prop} : ∀ {xs : List α} {ys : List D}, Paired (fun _ d => P d) xs ys → (∀ d ∈ ys, P d) ∧ ys.length = xs.length
  | _, _, .nil => ⟨(fun _ h => by cases h), rfl⟩
  | _, _, .cons h t => by
    obtain ⟨h1, h2⟩ := paired_all t
    refine ⟨fun d hd => ?_, by rw [List.length_cons, List.length_cons, h2]⟩
    rcases List.mem_cons.mp hd with rfl | hd
    · exact h
    · exact h1 d hd
end DL
set_option Elab.async false
set_option linter.all false
set_option maxRecDepth 100000
set_option maxHeartbeats 1000000
namespace DL
open PySem L2
/-- may be compared: nested at most k levels -/
structure Sh (k : Nat) (d : D) : Prop where
  lay : (py d).canLay0 = true
  dep : (py d).depth ≤ k
  pl : pln d = true
theorem Sh.mono {k l : Nat} {d : D} (h : Sh k d) (a : k ≤ l) : Sh l d := ⟨h.1, Nat.le_trans h.2 a, h.3⟩
theorem Sh.ok {k : Nat} {d : D} (h : Sh k d) (a : k ≤ 64) : shp d = true := by
  unfold shp SeqAt.shaped
  rw [h.1, h.3, decide_eq_true (Nat.le_trans h.2 a)]
  rfl
theorem sh_int (i : Int) : Sh 0 (.int i) := ⟨rfl, Nat.le_refl _, rfl⟩
theorem shA {k : Nat} : ∀ {ds : List D}, (∀ d ∈ ds, Sh k d) → PyData.canLayAll0 (pyA ds) = true ∧ PyData.depthAll (pyA ds) ≤ k ∧ plnA ds = true
  | [], _ => ⟨rfl, Nat.zero_le _, rfl⟩
  | d :: ds, h => by
    obtain ⟨h1, h2, h3⟩ := shA fun x hx => h x (List.mem_cons_of_mem _ hx)
    have q := h d List.mem_cons_self
    refine ⟨?_, ?_, ?_⟩
    · simp [pyA, PyData.canLayAll0, q.1, h1]
    · simp only [pyA, PyData.depthAll]
      exact Nat.max_le.mpr ⟨q.2, h2⟩
    · simp [plnA, q.3, h3]
theorem sh_lst {k : Nat} {ds : List D} (h : ∀ d ∈ ds, Sh k d) : Sh (k + 1) (.lst ds) := by
  obtain ⟨h1, h2, h3⟩ := shA h
  refine ⟨by simpa [py, PyData.canLay0] using h1, ?_, by simpa [pln] using h3⟩
  simp only [py, PyData.depth]; omega
theorem sh_tup {k : Nat} {ds : List D} (h : ∀ d ∈ ds, Sh k d) : Sh (k + 1) (.tup ds) := by
  obtain ⟨h1, h2, h3⟩ := shA h
  refine ⟨by simpa [py, PyData.canLay0] using h1, ?_, by simpa [pln] using h3⟩
  simp only [py, PyData.depth]; omega
theorem sh_nats (xs : List Nat) : ∀ d ∈ nats xs, Sh 0 d := fun d hd => by
  obtain ⟨i, hi, rfl⟩ := List.mem_map.mp hd
  exact sh_int _
mutual
def nb : D → Bool
  | .non => true
  | .int _ => true
  | .str _ => true
  | .lst ds => nbA ds
  | .tup ds => nbA ds
  | _ => false
def nbA : List D → Bool
  | [] => true
  | d :: ds => nb d && nbA ds
end
mutual
theorem deq_iff : ∀ (d e : D), nb d = true → nb e = true → (deq d e = true ↔ d = e)
  | .non, e, _, he => by cases e <;> simp_all [deq, py, PyData.eqv, nb]
  | .int i, e, _, he => by cases e <;> simp_all [deq, py, PyData.eqv, nb]
  | .str x, e, _, he => by
    cases e with
    | str y =>
      simp only [deq, py, PyData.eqv]
      rw [str_beq, S_list, S_list]
      simp
    | _ => simp_all [deq, py, PyData.eqv, nb]
  | .lst xs, e, hd, he => by
    cases e with
    | lst ys =>
      have := deqA_iff xs ys (by simpa [nb] using hd) (by simpa [nb] using he)
      simp only [deq, py, PyData.eqv]
      rw [this]
      simp
    | _ => simp_all [deq, py, PyData.eqv, nb]
  | .tup xs, e, hd, he => by
    cases e with
    | tup ys =>
      have := deqA_iff xs ys (by simpa [nb] using hd) (by simpa [nb] using he)
      simp only [deq, py, PyData.eqv]
      rw [this]
      simp
    | _ => simp_all [deq, py, PyData.eqv, nb]
  | .bl b, _, hd, _ => by simp [nb] at hd
  | .dic b, _, hd, _ => by simp [nb] at hd
  | .ob b, _, hd, _ => by simp [nb] at hd
  | .exn _ _ _, _, hd, _ => by simp [nb] at hd
  | .tx _, _, hd, _ => by simp [nb] at hd
theorem deqA_iff : ∀ (ds es : List D), nbA ds = true → nbA es = true → (PyData.eqvAll (pyA ds) (pyA es) = true ↔ ds = es)
  | [], [], _, _ => by simp [pyA, PyData.eqvAll]
  | [], _ :: _, _, _ => by simp [pyA, PyData.eqvAll]
  | _ :: _, [], _, _ => by simp [pyA, PyData.eqvAll]
  | d :: ds, e :: es, hd, he => by
    have h1 : nb d = true ∧ nbA ds = true := by simpa [nbA] using hd
    have h2 : nb e = true ∧ nbA es = true := by simpa [nbA] using he
    have a := deq_iff d e h1.1 h2.1
    have b := deqA_iff ds es h1.2 h2.2
    simp only [pyA, PyData.eqvAll, Bool.and_eq_true, List.cons.injEq]
    exact and_congr a b
end
theorem nbA_all {ds : List D} : nbA ds = true ↔ ∀ d ∈ ds, nb d = true := by
  induction ds with
  | nil => simp [nbA]
  | cons d ds ih => simp [nbA, ih]
theorem nb_nats (xs : List Nat) : nbA (nats xs) = true := nbA_all.mpr fun d hd => by
  obtain ⟨i, hi, rfl⟩ := List.mem_map.mp hd
  rfl
theorem deq_refl {d : D} (h : nb d = true) : deq d d = true := (deq_iff d d h h).mpr rfl
theorem map_inj {α β : Type} {f : α → β} (hf : ∀ a b, f a = f b → a = b) : ∀ {xs ys : List α}, xs.map f = ys.map f → xs = ys
  | [], [], _ => rfl
  | [], _ :: _, h => by cases h
  | _ :: _, [], h => by cases h
  | x :: xs, y :: ys, h => by
    injection h with h1 h2
    rw [hf _ _ h1, map_inj hf h2]
theorem nats_inj {xs ys : List Nat} : nats xs = nats ys ↔ xs = ys := ⟨fun h => by
  unfold nats at h
  exact map_inj (fun a b h => by have : (a : Int) = (b : Int) := by simpa using h
                                 omega) h, fun h => by rw [h]⟩
end DL
set_option Elab.async false
set_option linter.all false
set_option maxRecDepth 1000000
set_option maxHeartbeats 4000000
namespace DL
open PySem L2 PyProof.Rows
/-- the way of a search over a table of (slot, hash): the first empty slot; none where a hash is met again -/
def posU (m : Nat) (T : List (Nat × Int)) (h : Int) : Nat → SetTable.Probe → Option Nat
  | 0, _ => none
  | f + 1, p => match T.find? (fun x => Nat.beq x.1 p.j) with
    | some x => match x.2 == h with
      | true => none
      | false => posU m T h f (adv m p)
    | none => some p.j
def insU (j : Nat) (h : Int) : List (Nat × Int) → List (Nat × Int)
  | [] => [(j, h)]
  | x :: xs => match Nat.blt j x.1 with
    | true => (j, h) :: x :: xs
    | false => x :: insU j h xs
def startU (m : Nat) (h : Int) : SetTable.Probe := runAt m (SetTable.bits h % (m + 1)) (SetTable.bits h)
def layL (m : Nat) : List Int → Nat → List (Nat × Int) → Option (List (Nat × Int))
  | [], _, O => some O
  | h :: hs, k, O => match posU m O (-1) 20 (startU m h) with
    | none => none
    | some j => layL m hs (k + 1) (insU j (k : Int) O)
def relU (M : Nat) (hs : List Int) : Option (List (Nat × Int)) := match layL M hs 0 [] with
  | none => none
  | some O => match Nat.ble 7 M && (Nat.beq O.length hs.length && O.all (fun x => Nat.blt x.2.toNat hs.length)) with
    | true => some (O.map fun x => (x.1, hs.getD x.2.toNat 0))
    | false => none
def addU (m : Nat) (T : List (Nat × Int)) (h : Int) : Option (Nat × List (Nat × Int)) := match posU m T h 60 (startU m h) with
  | none => none
  | some j => match Nat.ble (m * 3) ((T.length + 1) * 5) with
    | true => match SetTable.sizeAbove (SetTable.grown (T.length + 1)) with
      | 0 => none
      | M + 1 => match Nat.ble M 100000 && (Nat.blt ((T.length + 1) * 5) (M * 3) && Nat.beq (M % 2) 1) with
        | true => (relU M ((insU j h T).map (·.2))).map fun O => (M, O)
        | false => none
    | false => some (m, insU j h T)
def runU : List Int → Nat → List (Nat × Int) → Option (Nat × List (Nat × Int))
  | [], m, T => some (m, T)
  | h :: hs, m, T => match addU m T h with
    | none => none
    | some (m, T) => runU hs m T
theorem pos_spec {m : Nat} {T : List (Nat × Int)} {h : Int} : ∀ {f : Nat} {p : SetTable.Probe} {j : Nat}, posU m T h f p = some j →
    ∃ K, K < f ∧ (nth m p K).j = j ∧ j ∉ T.map (·.1) ∧ ∀ k, k < K → ∃ x ∈ T, x.1 = (nth m p k).j ∧ x.2 ≠ h
  | 0, _, _, e => by cases e
  | f + 1, p, j, e => by
    unfold posU at e
    cases z : T.find? (fun x => Nat.beq x.1 p.j) with
    | none =>
      rw [z] at e
      cases e
      refine ⟨0, Nat.succ_pos _, rfl, fun hm => ?_, fun k hk => absurd hk (Nat.not_lt_zero _)⟩
      obtain ⟨x, hx, ex⟩ := List.mem_map.mp hm
      have := List.find?_eq_none.mp z x hx
      exact this (by rw [Nat.beq_eq]; exact ex)
    | some x =>
      rw [z] at e
      have hx := List.mem_of_find?_eq_some z
      have hj := List.find?_some z
      simp only at e
      cases y : x.2 == h with
      | true => rw [y] at e; cases e
      | false =>
        rw [y] at e
        obtain ⟨K, k1, k2, k3, k4⟩ := pos_spec e
        refine ⟨K + 1, Nat.succ_lt_succ k1, k2, k3, fun k hk => ?_⟩
        cases k with
        | zero => exact ⟨x, hx, Nat.eq_of_beq_eq_true hj, fun q => by rw [q] at y; simp at y⟩
        | succ k => exact k4 k (Nat.lt_of_succ_lt_succ hk)
theorem ins_cut (j : Nat) (h : Int) : ∀ (T : List (Nat × Int)) (q : Nat), q ≤ T.length → j ∉ T.map (·.1) → (∀ i x, i < q → T[i]? = some x → x.1 < j) → (∀ i x, q ≤ i → T[i]? = some x → j ≤ x.1) → insU j h T = T.take q ++ (j, h) :: T.drop q
  | [], q, hq, _, _, _ => by
    obtain rfl : q = 0 := Nat.le_zero.mp hq
    rfl
  | y :: ys, 0, _, hn, _, h2 => by
    have h3 := h2 0 y (Nat.le_refl _) rfl
    have h4 : j ≠ y.1 := fun e => hn (List.mem_map.mpr ⟨y, List.mem_cons_self, e.symm⟩)
    unfold insU
    rw [show Nat.blt j y.1 = true by rw [Nat.blt_eq]; omega]
    rfl
  | y :: ys, q + 1, hq, hn, h1, h2 => by
    have h3 := h1 0 y (Nat.succ_pos _) rfl
    have ih := ins_cut j h ys q (Nat.le_of_succ_le_succ hq) (fun z => hn (List.mem_cons_of_mem _ z)) (fun i x hi hx => h1 (i + 1) x (Nat.succ_lt_succ hi) (by simpa using hx)) (fun i x hi hx => h2 (i + 1) x (Nat.succ_le_succ hi) (by simpa using hx))
    unfold insU
    rw [show Nat.blt j y.1 = false by
      cases z : Nat.blt j y.1 with
      | false => rfl
      | true => rw [Nat.blt_eq] at z; omega]
    show y :: insU j h ys = _
    rw [ih]
    rfl
theorem off_ge (m : Nat) : ∀ (n i b : Nat), n ≤ off m i b n
  | 0, _, _ => Nat.zero_le _
  | n + 1, i, b => by
    have := off_ge m n (SetTable.leap m i b).1 (SetTable.leap m i b).2
    show n + 1 ≤ (SetTable.runEnd m i - i + 1) + off m (SetTable.leap m i b).1 (SetTable.leap m i b).2 n
    omega
theorem start_le (m : Nat) (h : Int) (k : Nat) : (nth m (startU m h) k).j ≤ m := by
  have hi : SetTable.bits h % (m + 1) ≤ m := Nat.le_of_lt_succ (Nat.mod_lt _ (Nat.succ_pos _))
  have hb := runEnd_bd hi
  have := nth_in (m := m) k (startU m h) (by
    show SetTable.bits h % (m + 1) + (SetTable.runEnd m (SetTable.bits h % (m + 1)) - SetTable.bits h % (m + 1)) ≤ m
    omega)
  omega
/-- who sits where, as a list -/
structure RepU (m : Nat) (owner : Array (Option Nat)) (O : List (Nat × Int)) : Prop where
  sz : owner.size = m + 1
  ris : Ris (O.map (·.1))
  mem : ∀ j, j ≤ m → ∀ k : Nat, oAt owner j = some k ↔ (j, (k : Int)) ∈ O
  nn : ∀ x ∈ O, x.1 ≤ m ∧ 0 ≤ x.2
theorem RepU.empty {m : Nat} {owner : Array (Option Nat)} {O : List (Nat × Int)} (R : RepU m owner O) {j : Nat} (hj : j ≤ m) (hn : j ∉ O.map (·.1)) : oAt owner j = none := by
  cases z : oAt owner j with
  | none => rfl
  | some k => exact absurd (List.mem_map.mpr ⟨_, (R.mem j hj k).mp z, rfl⟩) hn
theorem RepU.taken {m : Nat} {owner : Array (Option Nat)} {O : List (Nat × Int)} (R : RepU m owner O) {x : Nat × Int} (hx : x ∈ O) : oAt owner x.1 = some x.2.toNat := by
  obtain ⟨h1, h2⟩ := R.nn x hx
  refine (R.mem x.1 h1 _).mpr ?_
  rw [Int.toNat_of_nonneg h2]
  exact hx
theorem ins_mem (j : Nat) (h : Int) (x : Nat × Int) : ∀ T : List (Nat × Int), x ∈ insU j h T ↔ x = (j, h) ∨ x ∈ T
  | [] => by simp [insU]
  | y :: ys => by
    unfold insU
    split
    · rw [List.mem_cons]
    · rw [List.mem_cons, ins_mem j h x ys, List.mem_cons]
      constructor
      · rintro (h | h | h)
        · exact .inr (.inl h)
        · exact .inl h
        · exact .inr (.inr h)
      · rintro (h | h | h)
        · exact .inr (.inl h)
        · exact .inl h
        · exact .inr (.inr h)
theorem ins_ris (j : Nat) (h : Int) : ∀ {T : List (Nat × Int)}, Ris (T.map (·.1)) → j ∉ T.map (·.1) → Ris ((insU j h T).map (·.1))
  | [], _, _ => List.pairwise_singleton _ _
  | y :: ys, r, hn => by
    obtain ⟨r1, r2⟩ := List.pairwise_cons.mp r
    have ne : j ≠ y.1 := fun e => hn (List.mem_map.mpr ⟨y, List.mem_cons_self, e.symm⟩)
    unfold insU
    cases z : Nat.blt j y.1 with
    | true =>
      rw [Nat.blt_eq] at z
      refine List.pairwise_cons.mpr ⟨fun a ha => ?_, r⟩
      rcases List.mem_cons.mp ha with rfl | ha
      · exact z
      · exact Nat.lt_trans z (r1 a ha)
    | false =>
      have lt : y.1 < j := by
        rcases Nat.lt_trichotomy j y.1 with c | c | c
        · rw [Nat.blt_eq.mpr c] at z; cases z
        · exact absurd c ne
        · exact c
      refine List.pairwise_cons.mpr ⟨fun a ha => ?_, ins_ris j h r2 fun z => hn (List.mem_cons_of_mem _ z)⟩
      obtain ⟨x, hx, rfl⟩ := List.mem_map.mp ha
      rcases (ins_mem j h x ys).mp hx with rfl | hx
      · exact lt
      · exact r1 _ (List.mem_map_of_mem hx)
theorem fold_U {m : Nat} (hm : 7 ≤ m) : ∀ (hs : List Int) (k : Nat) (owner : Array (Option Nat)) (O O' : List (Nat × Int)), RepU m owner O → layL m hs k O = some O' →
    ∃ owner' k', hs.foldl (stepF m) (some (owner, k)) = some (owner', k') ∧ RepU m owner' O'
  | [], k, owner, O, O', R, e => by
    cases e
    exact ⟨owner, k, rfl, R⟩
  | h :: hs, k, owner, O, O', R, e => by
    unfold layL at e
    cases hp : posU m O (-1) 20 (startU m h) with
    | none => rw [hp] at e; cases e
    | some j =>
      rw [hp] at e
      simp only at e
      obtain ⟨K, k1, k2, k3, k4⟩ := pos_spec hp
      have hj : j ≤ m := by rw [← k2]; exact start_le m h K
      have fr := free_spec m owner (SetTable.turns m) K (SetTable.bits h % (m + 1)) (SetTable.bits h) K (by unfold SetTable.turns; omega) (off_ge m K _ _)
        (fun q hq => by
          obtain ⟨x, x1, x2, _⟩ := k4 q hq
          show (oAt owner (nth m (startU m h) q).j).isNone = false
          rw [← x2, R.taken x1]
          rfl)
        (by
          show (oAt owner (nth m (startU m h) K).j).isNone = true
          rw [k2, R.empty hj k3]
          rfl)
      have fr : SetTable.layClean.free m owner (SetTable.turns m) (SetTable.bits h % (m + 1)) (SetTable.bits h) = some j := by
        rw [fr]
        exact congrArg some k2
      have R' : RepU m (owner.setIfInBounds j (some k)) (insU j (k : Int) O) := by
        refine ⟨by rw [Array.size_setIfInBounds]; exact R.sz, ins_ris j _ R.ris k3, fun i hi q => ?_, fun x hx => ?_⟩
        · rw [ins_mem]
          by_cases c : i = j
          · subst c
            rw [oAt_set_self _ (by rw [R.sz]; omega)]
            constructor
            · intro z
              cases z
              exact .inl rfl
            · rintro (z | z)
              · have : (q : Int) = (k : Int) := (Prod.mk.inj z).2
                rw [show q = k by omega]
              · exact absurd (List.mem_map.mpr ⟨_, z, rfl⟩) k3
          · rw [oAt_set_ne _ c, R.mem i hi q]
            constructor
            · exact .inr
            · rintro (z | z)
              · exact absurd (Prod.mk.inj z).1 c
              · exact z
        · rcases (ins_mem j _ x O).mp hx with rfl | hx
          · exact ⟨hj, Int.natCast_nonneg _⟩
          · exact R.nn x hx
      obtain ⟨owner', k', f, R2⟩ := fold_U hm hs (k + 1) _ _ O' R' e
      refine ⟨owner', k', ?_, R2⟩
      rw [List.foldl_cons, stepF_some fr]
      exact f
theorem lay_spec {m : Nat} (hm : 7 ≤ m) {hs : List Int} {O : List (Nat × Int)} (e : layL m hs 0 [] = some O) : ∃ owner, SetTable.layClean m hs.toArray = some owner ∧ liveOf m owner = O.map fun x => (x.1, x.2.toNat) := by
  have init : ∀ j, j ≤ m → ∀ k : Nat, oAt (Array.replicate (m + 1) none) j = some k ↔ (j, (k : Int)) ∈ ([] : List (Nat × Int)) := fun j hj k => by
    rw [oAt_init hj]
    constructor
    · intro z; cases z
    · intro z; cases z
  obtain ⟨owner, k', f, R⟩ := fold_U hm hs 0 (Array.replicate (m + 1) none) [] O ⟨by simp, List.Pairwise.nil, init, fun x hx => (by cases hx)⟩ e
  refine ⟨owner, ?_, ?_⟩
  · rw [layClean_eq]
    show ((hs.foldl (stepF m) _).map _) = _
    rw [f]
    rfl
  · have r1 : Ris ((liveOf m owner).map (·.1)) := (ris_live (fun j => owner.getD j none) (List.range (m + 1)) (by
      unfold Ris
      exact List.pairwise_lt_range)).1
    have r2 : Ris ((O.map fun x => (x.1, x.2.toNat)).map (·.1)) := by
      rw [List.map_map]
      exact R.ris
    have p1 : (liveOf m owner).Pairwise fun a b => a.1 < b.1 := List.pairwise_map.mp r1
    have p2 : (O.map fun x => (x.1, x.2.toNat)).Pairwise fun a b => a.1 < b.1 := List.pairwise_map.mp r2
    have nd : ∀ {l : List (Nat × Nat)}, (l.Pairwise fun a b => a.1 < b.1) → l.Nodup := fun h => h.imp fun {a b} (lt : a.1 < b.1) (z : a = b) => by rw [z] at lt; exact Nat.lt_irrefl _ lt
    refine List.Perm.eq_of_pairwise (le := fun a b => a.1 < b.1) (fun a b _ _ h1 h2 => absurd (Nat.lt_trans h1 h2) (Nat.lt_irrefl _)) p1 p2 ((List.perm_ext_iff_of_nodup (nd p1) (nd p2)).mpr fun x => ?_)
    obtain ⟨j, k⟩ := x
    rw [mem_live R.sz, List.mem_map]
    constructor
    · rintro ⟨h1, h2⟩
      exact ⟨_, (R.mem j h1 k).mp h2, by simp⟩
    · rintro ⟨x, hx, ex⟩
      have e1 : x.1 = j := (Prod.mk.inj ex).1
      have e2 : x.2.toNat = k := (Prod.mk.inj ex).2
      subst e1
      subst e2
      exact ⟨(R.nn x hx).1, R.taken hx⟩
/-- the set at an address: its mask, its table -/
structure USet (h : Heap) (a : Addr) (m : Nat) (T : List (Nat × Int)) (o : Obj) (es : Array (Int × Value)) (ep : Nat) (t : SetTable) : Prop where
  at_ : h.get? a = some o
  ex : o.ExactSet
  dat : o.data = .set es ep t
  mask : t.mask = m
  dm : t.dummies = #[]
  pl : t.place.toList = T.map (·.1)
  hs : es.toList.map (·.1) = T.map (·.2)
  ris : Ris (T.map (·.1))
  room : T.length * 5 < m * 3
  big : m ≤ 100000
  odd : m % 2 = 1
def IsU (h : Heap) (a : Addr) (m : Nat) (T : List (Nat × Int)) : Prop := ∃ o es ep t, USet h a m T o es ep t
section
variable {P : Program} {w : World} {A : Around} {E : Value → Shared → Prop} {s : Shared} {a : Addr} {m : Nat} {T : List (Nat × Int)} {o : Obj} {es : Array (Int × Value)} {ep : Nat} {t : SetTable}
theorem USet.size {h : Heap} (U : USet h a m T o es ep t) : es.size = T.length ∧ t.place.size = T.length := by
  have h1 := congrArg List.length U.hs
  have h2 := congrArg List.length U.pl
  rw [List.length_map, List.length_map, Array.length_toList] at h1
  rw [List.length_map, Array.length_toList] at h2
  exact ⟨h1, h2⟩
theorem USet.fits {h : Heap} (U : USet h a m T o es ep t) : t.fits es.size = true := by
  obtain ⟨h1, h2⟩ := U.size
  have h3 := U.room
  unfold SetTable.fits SetTable.fill
  rw [U.dm, Bool.and_eq_true, beq_iff_eq, decide_eq_true_eq, U.mask]
  show t.place.size = es.size ∧ t.place.size + 0 ≤ m
  omega
theorem IsU.keep {h h' : Heap} (R : IsU h a m T) (k : ∀ o, h.get? a = some o → h'.get? a = some o) : IsU h' a m T := by
  obtain ⟨o, es, ep, t, U⟩ := R
  exact ⟨o, es, ep, t, k o U.at_, U.ex, U.dat, U.mask, U.dm, U.pl, U.hs, U.ris, U.room, U.big, U.odd⟩
theorem IsU.fresh (h : Heap) (led : Bool) : IsU (h.push { cls := .type "set", dict := none, data := .set #[] 0 (.fresh 0 0 led) }) h.objs.size 7 [] :=
  ⟨_, #[], 0, _, Heap.get?_push_size _ rfl, ⟨rfl, rfl, rfl⟩, rfl, rfl, rfl, rfl, rfl, List.Pairwise.nil, by decide, by decide, by decide⟩
/-- the search ends at the slot that was reckoned -/
theorem USet.search (U : USet s.heap a m T o es ep t) {x : Value} {h : Int} {j : Nat} (e : posU m T h 60 (startU m h) = some j) {Q : SetFound → Shared → Prop} (hQ : Q (.free j false) s) :
    wpAny (model P w) A (setSearch a x h true) Q E s := by
  obtain ⟨K, k1, k2, k3, k4⟩ := pos_spec e
  obtain ⟨z1, z2⟩ := U.size
  unfold setSearch
  rw [show (100000 : Nat) = 99999 + 1 from rfl, setSearchFrom_succ]
  refine wpAny_bind (wpAny_setState_of U.at_ U.dat U.fits ?_)
  dsimp only
  refine wp_if_neg (by unfold SetTable.gaveWay; rw [U.mask, beq_iff_eq]; have := U.odd; omega) ?_
  try refine wpAny_bind (wpAny_pure ?_)
  have spec := go_spec t (by rw [U.pl]; exact U.ris) U.dm (fun i => (es[i]?.map (·.1)).getD 0) h (10 * SetTable.turns t.mask) K (startU m h) rfl (by unfold SetTable.turns; omega)
    (fun k hk => by
      obtain ⟨y, y1, y2, _⟩ := k4 k hk
      rw [U.mask, U.pl]
      exact List.mem_map.mpr ⟨y, y1, y2⟩)
    (by rw [U.mask, U.pl, k2]; exact k3)
  have hp : t.probe (fun i => (es[i]?.map (·.1)).getD 0) h ((none : Option SetTable.Probe).getD (t.probeStart h)) = some (.empty j none) := by
    show SetTable.probe.go t _ h _ (t.probeStart h) = _
    rw [start_run, U.mask]
    rcases spec with ⟨k, i, hk, hi, hh, _⟩ | ⟨_, hpr⟩
    · exfalso
      obtain ⟨y, y1, y2, y3⟩ := k4 k hk
      rw [U.pl, U.mask, List.getElem?_map] at hi
      obtain ⟨q, hq⟩ := List.mem_iff_getElem?.mp y1
      cases hz : T[i]? with
      | none => rw [hz] at hi; cases hi
      | some u =>
        rw [hz] at hi
        have e1 : u.1 = y.1 := by rw [y2]; exact Option.some.inj hi
        have same : i = q := by
          rcases Nat.lt_trichotomy i q with c | c | c
          · have := L2.ris_lt U.ris (i := i) (k := q) (x := u.1) (y := y.1) (by rw [List.getElem?_map, hz]; rfl) (by rw [List.getElem?_map, hq]; rfl) c
            omega
          · exact c
          · have := L2.ris_lt U.ris (i := q) (k := i) (x := y.1) (y := u.1) (by rw [List.getElem?_map, hq]; rfl) (by rw [List.getElem?_map, hz]; rfl) c
            omega
        subst same
        rw [hz] at hq
        have e2 : u = y := Option.some.inj hq
        have e3 : (es.toList.map (·.1))[i]? = some y.2 := by rw [U.hs, List.getElem?_map, hz, e2]; rfl
        rw [List.getElem?_map, Array.getElem?_toList] at e3
        rw [e3] at hh
        exact y3 hh
    · rw [U.mask, k2] at hpr
      exact hpr
  rw [hp]
  exact wpAny_pure hQ
theorem filt_rows {es : Array (Int × Value)} {H : List Int} (hs : es.toList.map (·.1) = H) : ∀ l : List Nat, (∀ i ∈ l, i < H.length) → (l.filterMap (es[·]?)).map (·.1) = l.map fun i => H.getD i 0
  | [], _ => rfl
  | i :: l, h => by
    have hi := h i List.mem_cons_self
    have ih := filt_rows hs l fun x hx => h x (List.mem_cons_of_mem _ hx)
    have e1 : (es.toList.map (·.1))[i]? = some (H.getD i 0) := by
      rw [hs, List.getD_eq_getElem?_getD, List.getElem?_eq_getElem hi]
      rfl
    rw [List.getElem?_map, Array.getElem?_toList] at e1
    cases z : es[i]? with
    | none => rw [z] at e1; cases e1
    | some y =>
      rw [z] at e1
      rw [List.filterMap_cons_some z, List.map_cons, List.map_cons, ih]
      congr 1
      exact Option.some.inj e1
/-- the table laid anew -/
theorem relay_U (at_ : s.heap.get? a = some o) (ex : o.ExactSet) (dat : o.data = .set es ep t) (fits : t.fits es.size = true) {H : List Int} (hs : es.toList.map (·.1) = H) {wanted M : Nat} {O : List (Nat × Int)}
    (hw : SetTable.sizeAbove wanted = M + 1) (hM : M ≤ 100000) (odd : M % 2 = 1) (room : H.length * 5 < M * 3) (e : relU M H = some O) {Q : Unit → Shared → Prop}
    (hQ : ∀ h', Heap.SameBut a s.heap h' → IsU h' a M O → Q () { s with heap := h' }) : wpAny (model P w) A (setRelay a wanted) Q E s := by
  unfold relU at e
  cases hl : layL M H 0 [] with
  | none => rw [hl] at e; cases e
  | some O' =>
    rw [hl] at e
    simp only at e
    cases hc : Nat.ble 7 M && (Nat.beq O'.length H.length && O'.all (fun x => Nat.blt x.2.toNat H.length)) with
    | false => rw [hc] at e; cases e
    | true =>
      rw [hc] at e
      have e := Option.some.inj e
      rw [Bool.and_eq_true, Bool.and_eq_true, Nat.ble_eq, Nat.beq_eq, List.all_eq_true] at hc
      obtain ⟨c0, c1', c2'⟩ := hc
      obtain ⟨owner, ho, lv⟩ := lay_spec c0 hl
      have c1 : (liveOf M owner).length = H.length := by rw [lv, List.length_map, c1']
      have c2 : ∀ x ∈ liveOf M owner, x.2 < H.length := fun x hx => by
        rw [lv] at hx
        obtain ⟨y, hy, rfl⟩ := List.mem_map.mp hx
        have := c2' y hy
        rw [Nat.blt_eq] at this
        exact this
      have c3 : Ris ((liveOf M owner).map (·.1)) := (ris_live (fun j => owner.getD j none) (List.range (M + 1)) (by
        unfold Ris
        exact List.pairwise_lt_range)).1
      have e : ((liveOf M owner).map fun x => (x.1, H.getD x.2 0)) = O := by
        rw [lv, List.map_map]
        exact e
      have ez : es.size = H.length := by rw [← hs, List.length_map, Array.length_toList]
      have eh : es.map (·.1) = H.toArray := by
        apply Array.toList_inj.mp
        rw [Array.toList_map, hs]
      have hr : t.relaid (es.map (·.1)) wanted = some (tabOf t M owner, ((liveOf M owner).map (·.2)).toArray) := by
        rw [relaid_eq, hw, Nat.add_sub_cancel, eh, ho]
        rfl
      have fr := filt_rows hs ((liveOf M owner).map (·.2)) fun i hi => by
        obtain ⟨x, hx, rfl⟩ := List.mem_map.mp hi
        exact c2 x hx
      have tl : ((((liveOf M owner).map (·.2)).toArray).filterMap (es[·]?)).toList = ((liveOf M owner).map (·.2)).filterMap (es[·]?) := by simp
      have hs2 : ((((liveOf M owner).map (·.2)).toArray).filterMap (es[·]?)).size = es.size := by
        rw [← Array.length_toList, tl, ← List.length_map (f := (·.1)), fr, List.length_map, List.length_map, c1, ez]
      rw [setRelay_eq]
      refine wpAny_bind (wpAny_setState_of at_ dat fits ?_)
      dsimp only
      refine wp_if_neg (by rw [sizeLine_eq, hw]; omega) ?_
      try refine wpAny_bind (wpAny_pure ?_)
      rw [hr]
      dsimp only
      refine wpAny_bind ?_
      refine wp_if_neg (by rw [hs2]; simp) ?_
      try refine wpAny_bind (wpAny_pure ?_)
      refine wpAny_pure ?_
      dsimp only
      refine wpAny_storeSet_of at_ dat ?_ (by rw [hs2, ez, sizeLine_eq]; omega)
      refine hQ _ (Heap.SameBut.update ..) ⟨_, _, ep + 1, tabOf t M owner, store_at at_ dat, ⟨ex.1, ex.2.1, ex.2.2⟩, rfl, rfl, rfl, ?_, ?_, ?_, ?_, hM, odd⟩
      · rw [← e, List.map_map]
        rfl
      · rw [tl, fr, ← e, List.map_map, List.map_map]
        rfl
      · rw [← e, List.map_map]
        exact c3
      · rw [← e, List.length_map, c1]
        exact room
/-- one more member, that is not in yet -/
theorem IsU.add (R : IsU s.heap a m T) {x : Addr} {k : List Int} (hx : IsT P w s.heap k x) {m' : Nat} {T' : List (Nat × Int)} (e : addU m T (thash P w k) = some (m', T')) {Q : Bool → Shared → Prop}
    (hQ : ∀ h', Heap.SameBut a s.heap h' → IsU h' a m' T' → Q true { s with heap := h' }) : wpAny (model P w) A (setAddHashed a (.ref x) (thash P w k)) Q E s := by
  obtain ⟨o, es, ep, t, U⟩ := R
  obtain ⟨z1, z2⟩ := U.size
  have room := U.room
  have big := U.big
  unfold addU at e
  cases hp : posU m T (thash P w k) 60 (startU m (thash P w k)) with
  | none => rw [hp] at e; cases e
  | some j =>
    rw [hp] at e
    simp only at e
    obtain ⟨_, _, _, k3, _⟩ := pos_spec hp
    unfold setAddHashed
    refine wpAny_holding ?_
    rw [show (100000 : Nat) = 99999 + 1 from rfl, setAddHashedIn_succ]
    refine wpAny_bind (wpAny_setState_of U.at_ U.dat U.fits ?_)
    dsimp only
    refine wp_if_neg (by simp [byScan, Value.scannable]) ?_
    try refine wpAny_bind (wpAny_pure ?_)
    refine wpAny_bind (U.search hp ?_)
    dsimp only
    refine wpAny_bind (wpAny_setState_of U.at_ U.dat U.fits ?_)
    dsimp only
    have cut := below_cut (xs := t.place) (by rw [U.pl]; exact U.ris) j
    obtain ⟨c1, c2, c3⟩ := cut
    rw [z2] at c1
    rw [U.pl] at c2 c3
    have ic := ins_cut j (thash P w k) T (SetTable.below t.place j) c1 k3 (fun i y hi hy => c2 i y.1 (by rw [List.getElem?_map, hy]; rfl) hi) (fun i y hi hy => c3 i y.1 (by rw [List.getElem?_map, hy]; rfl) hi)
    have pp := put_place t j
    have pd := put_dm U.dm j
    have p2 : (t.put j).2 = SetTable.below t.place j := rfl
    have pm : (t.put j).1.mask = t.mask := rfl
    have ppl : (t.put j).1.plain = t.plain := rfl
    have hes : (SetTable.insertAt es (SetTable.below t.place j) (thash P w k, Value.ref x)).toList.map (·.1) = (insU j (thash P w k) T).map (·.2) := by
      rw [SetTable.toList_insertAt, ic, List.map_append, List.map_append, List.map_cons, List.map_cons, List.map_take, List.map_drop, List.map_take, List.map_drop, U.hs]
    have hpl : (t.put j).1.place.toList = (insU j (thash P w k) T).map (·.1) := by
      rw [pp, ic, List.map_append, List.map_cons, List.map_take, List.map_drop, U.pl]
    have len : (insU j (thash P w k) T).length = T.length + 1 := by
      rw [ic, List.length_append, List.length_cons, List.length_take, List.length_drop]
      omega
    have ris1 : Ris ((insU j (thash P w k) T).map (·.1)) := by
      rw [← hpl]
      refine ris_insert (by rw [U.pl]; exact U.ris) fun z => k3 ?_
      rw [← U.pl]
      exact List.mem_of_getElem? (by rw [Array.getElem?_toList]; exact z)
    generalize hpt : t.put j = pt at p2 pm ppl pd hpl
    obtain ⟨t1, p⟩ := pt
    dsimp only at p2 pm ppl pd hpl ⊢
    subst p2
    have size1 : (SetTable.insertAt es (SetTable.below t.place j) (thash P w k, Value.ref x)).size = T.length + 1 := by
      have := congrArg List.length hes
      rw [List.length_map, List.length_map, Array.length_toList, len] at this
      exact this
    have psize : t1.place.size = T.length + 1 := by
      rw [← Array.length_toList, hpl, List.length_map, len]
    have fill1 : t1.fill = T.length + 1 := by
      unfold SetTable.fill
      rw [psize, pd]
      rfl
    generalize SetTable.insertAt es (SetTable.below t.place j) (thash P w k, Value.ref x) = es1 at hes size1 ⊢
    have fin : wpAny (model P w) A (do
        storeSet a es1 t1
        if (!false && t1.tooFull) = true then do
          setRelay a (SetTable.grown (es.size + 1))
          pure true
        else pure true) Q E s := by
      refine wpAny_bind (wpAny_storeSet_of U.at_ U.dat ?_ (by rw [size1, sizeLine_eq]; omega))
      have sb : Heap.SameBut a s.heap (s.heap.update a (Obj.putSet es1 t1)) := Heap.SameBut.update ..
      have ho1 := store_at (es' := es1) (t' := t1) U.at_ U.dat
      generalize s.heap.update a (Obj.putSet es1 t1) = h1 at sb ho1 ⊢
      cases full : Nat.ble (m * 3) ((T.length + 1) * 5) with
      | true =>
        rw [full] at e
        simp only at e
        rw [Nat.ble_eq] at full
        cases sz : SetTable.sizeAbove (SetTable.grown (T.length + 1)) with
        | zero => rw [sz] at e; cases e
        | succ M =>
          rw [sz] at e
          simp only at e
          cases cond : Nat.ble M 100000 && (Nat.blt ((T.length + 1) * 5) (M * 3) && Nat.beq (M % 2) 1) with
          | false => rw [cond] at e; cases e
          | true =>
            rw [cond] at e
            rw [Bool.and_eq_true, Bool.and_eq_true, Nat.ble_eq, Nat.blt_eq, Nat.beq_eq] at cond
            obtain ⟨d1, d2, d3⟩ := cond
            have e : (relU M ((insU j (thash P w k) T).map (·.2))).map (fun O => (M, O)) = some (m', T') := e
            cases rl : relU M ((insU j (thash P w k) T).map (·.2)) with
            | none => rw [rl] at e; cases e
            | some O =>
              rw [rl] at e
              cases e
              refine wp_if_pos (by unfold SetTable.tooFull; rw [fill1, pm, U.mask]; simp; omega) ?_
              refine wpAny_bind ?_
              rw [z1]
              have odd := U.odd
              refine relay_U (s := { s with heap := h1 }) ho1 ⟨U.ex.1, U.ex.2.1, U.ex.2.2⟩ rfl ?_ hes sz d1 d3 (by rw [List.length_map, len]; exact d2) rl fun h' sb' R => wpAny_pure (hQ h' (sb.trans sb') R)
              unfold SetTable.fits
              rw [fill1, psize, size1, pm, U.mask, Bool.and_eq_true, beq_iff_eq, decide_eq_true_eq]
              exact ⟨rfl, by omega⟩
      | false =>
        rw [full] at e
        cases e
        have full : ¬ (m * 3 ≤ (T.length + 1) * 5) := fun z => by
          rw [Nat.ble_eq.mpr z] at full
          cases full
        refine wp_if_neg (by unfold SetTable.tooFull; rw [fill1, pm, U.mask]; simp; omega) ?_
        exact wpAny_pure (hQ h1 sb ⟨_, es1, ep + 1, t1, ho1, ⟨U.ex.1, U.ex.2.1, U.ex.2.2⟩, rfl, by rw [pm, U.mask], pd, hpl, hes, ris1, by rw [len]; omega, big, U.odd⟩)
    by_cases pl1 : t1.plain = true
    · refine wp_if_pos pl1 (wpAny_bind (hashBy_tup hx ?_))
      simp only [if_true]
      exact fin
    · refine wp_if_neg pl1 (wpAny_bind (wpAny_pure ?_))
      simp only [if_true]
      exact fin
end
end DL
set_option Elab.async false
set_option linter.all false
set_option maxRecDepth 100000
set_option maxHeartbeats 3200000
namespace DL
open PySem L2
theorem add_len {m m' : Nat} {T T' : List (Nat × Int)} {h : Int} (e : addU m T h = some (m', T')) : T'.length = T.length + 1 := by
  have len : ∀ (j : Nat) (T : List (Nat × Int)), (insU j h T).length = T.length + 1 := fun j T => by
    induction T with
    | nil => rfl
    | cons x xs ih =>
      unfold insU
      split
      · rfl
      · rw [List.length_cons, ih, List.length_cons]
  unfold addU at e
  cases hp : posU m T h 60 (startU m h) with
  | none => rw [hp] at e; cases e
  | some j =>
    rw [hp] at e
    simp only at e
    cases full : Nat.ble (m * 3) ((T.length + 1) * 5) with
    | false =>
      rw [full] at e
      cases e
      exact len _ _
    | true =>
      rw [full] at e
      simp only at e
      cases sz : SetTable.sizeAbove (SetTable.grown (T.length + 1)) with
      | zero => rw [sz] at e; cases e
      | succ M =>
        rw [sz] at e
        simp only at e
        cases cond : Nat.ble M 100000 && (Nat.blt ((T.length + 1) * 5) (M * 3) && Nat.beq (M % 2) 1) with
        | false => rw [cond] at e; cases e
        | true =>
          rw [cond] at e
          have e : (relU M ((insU j h T).map (·.2))).map (fun O => (M, O)) = some (m', T') := e
          cases rl : relU M ((insU j h T).map (·.2)) with
          | none => rw [rl] at e; cases e
          | some O =>
            rw [rl] at e
            have eT : O = T' := (Prod.mk.inj (Option.some.inj e)).2
            subst eT
            unfold relU at rl
            cases hl : layL M ((insU j h T).map (·.2)) 0 [] with
            | none => rw [hl] at rl; cases rl
            | some O' =>
              rw [hl] at rl
              simp only at rl
              cases hc : Nat.ble 7 M && (Nat.beq O'.length ((insU j h T).map (·.2)).length && O'.all (fun x => Nat.blt x.2.toNat ((insU j h T).map (·.2)).length)) with
              | false => rw [hc] at rl; cases rl
              | true =>
                rw [hc] at rl
                have rl := Option.some.inj rl
                rw [Bool.and_eq_true, Bool.and_eq_true, Nat.beq_eq] at hc
                rw [← rl, List.length_map, hc.2.1, List.length_map, len]
section
variable {P : Program} {w : World} {A : Around} {E : Value → Shared → Prop} {s : Shared}
/-- members one by one -/
theorem u_update {I S : Addr} {fp wr : List Addr} {G : Array GenState → Array GenState → Prop} {n : Nat} {Pv : Nat → Value → Prop} {St : Nat → Shared → Prop} {R : Result → Shared → Prop}
    (Wk : WalksS P w A.in1 I fp wr G n Pv St) (away : S ∉ fp) {ks : List (Addr × List Int)} (hn : n = ks.length) (hv : ∀ i v, Pv i v → ∃ p, ks[i]? = some p ∧ v = .ref p.1)
    (h0 : Heap) (hk : ∀ p ∈ ks, IsT P w h0 p.2 p.1) (hS0 : h0.get? S = none) (hw0 : ∀ b ∈ wr, h0.get? b = none) (hu : A.in1.units < cLine) :
    ∀ (k i : Nat) (s : Shared), n - i = k → i ≤ n → St i s → (∀ b o, h0.get? b = some o → s.heap.get? b = some o) → (∃ m T, IsU s.heap S m T ∧ T.length = i ∧ (runU ((ks.drop i).map fun p => thash P w p.2) m T).isSome = true) →
      (∀ s' m T, Moved (S :: wr) G s s' → IsU s'.heap S m T → T.length = n → (∀ b o, h0.get? b = some o → s'.heap.get? b = some o) → R (.ok (.ret .none)) s') →
      codeAny (model P w) A (.builtin "set.update.loop" ⟨[.ref S, .ref I], []⟩) R s := by
  have off : S ∉ wr := fun z => away (Wk.sub _ z)
  have kept : ∀ {s s' : Shared}, Moved wr G s s' → (∀ b o, h0.get? b = some o → s.heap.get? b = some o) → ∀ b o, h0.get? b = some o → s'.heap.get? b = some o := fun mv kp b o e =>
    mv.heap b o (fun hb => by rw [hw0 b hb] at e; cases e) (kp b o e)
  intro k
  induction k with
  | zero =>
    intro i s hm hi st kp ⟨m, T, hT, hl, _⟩ hR
    obtain rfl : i = n := by omega
    apply codeAny_builtin PyProof.Rows.F.entry_set_update_loop
    rw [Around.under_plainId PyProof.Rows.F.plain_set_update_loop _]
    show wpAny _ A.in1 (pyNext (.ref I) >>= _) _ _ s
    apply wpAny_bind
    refine Wk.done s _ _ st fun s' mv => ?_
    exact wpAny_pure (hR s' m T (mv.mono fun b hb => List.mem_cons_of_mem _ hb) (hT.keep fun o e => mv.heap S o off e) hl (kept mv kp))
  | succ k ih =>
    intro i s hm hi st kp ⟨m, T, hT, hl, hr⟩ hR
    have hlt : i < n := by omega
    apply codeAny_builtin PyProof.Rows.F.entry_set_update_loop
    rw [Around.under_plainId PyProof.Rows.F.plain_set_update_loop _]
    show wpAny _ A.in1 (pyNext (.ref I) >>= _) _ _ s
    apply wpAny_bind
    refine Wk.item i s _ _ hlt st fun v s' pv st' mv => ?_
    obtain ⟨p, hp, rfl⟩ := hv i v pv
    have kp' := kept mv kp
    have hx : IsT P w s'.heap p.2 p.1 := isT_keep (hk p (List.mem_of_getElem? hp)) kp'
    have dr : ks.drop i = p :: ks.drop (i + 1) := by
      obtain ⟨h1, h2⟩ := List.getElem?_eq_some_iff.mp hp
      rw [List.drop_eq_getElem_cons h1, h2]
    rw [dr, List.map_cons] at hr
    unfold runU at hr
    cases ea : addU m T (thash P w p.2) with
    | none => rw [ea] at hr; cases hr
    | some y =>
      obtain ⟨m', T'⟩ := y
      rw [ea] at hr
      simp only at hr
      show wpAny _ A.in1 (holding [Value.ref p.1] (setAdd S (.ref p.1)) >>= _) _ _ s'
      apply wpAny_bind
      apply wpAny_holding
      unfold setAdd
      apply wpAny_holding
      apply wpAny_bind
      refine wpAny_pyHash_tuple hu hx ?_
      refine IsU.add (s := { s' with toks := s'.toks + (p.2.length + 1) }) (hT.keep fun o e => mv.heap S o off e) hx ea fun g sb hT' => ?_
      have kp2 : ∀ b o, h0.get? b = some o → g.get? b = some o := fun b o e => (sb.2 b (fun z => by rw [z, hS0] at e; cases e)).trans (kp' b o e)
      refine wpAny_pure ⟨plainId_quiet PyProof.Rows.F.plain_set_update_loop _, ih (i + 1) _ (by omega) hlt (Wk.frame _ s' _ _ st' (Nat.le_add_right _ _) fun b hb o e => ?_) kp2 ⟨m', T', hT', by rw [add_len ea, hl], hr⟩ fun s'' m2 T2 mv2 hT2 hl2 kp3 => ?_⟩
      · rw [sb.2 b fun z => away (z ▸ hb)]
        exact e
      · refine hR s'' m2 T2 (Moved.trans Wk.gtrans ((mv.mono fun b hb => List.mem_cons_of_mem _ hb).then_heap (Nat.le_add_right _ _) fun b o hb e => ?_) mv2) hT2 hl2 kp3
        rw [sb.2 b fun z => hb (z ▸ List.mem_cons_self)]
        exact e
/-- set(xs), xs a list of tuples of numbers -/
theorem call_set_U {l : Addr} {items : Array Value} (ks : List (Addr × List Int)) {Q : Value → Shared → Prop} (hh : A.handled = none) (hl : s.heap.IsList l items) (hit : items.toList = ks.map fun p => Value.ref p.1)
    (hk : ∀ p ∈ ks, IsT P w s.heap p.2 p.1) (hr : (runU (ks.map fun p => thash P w p.2) 7 []).isSome = true) (hu : A.units + 3 < cLine)
    (h : ∀ (g : Heap) (tk : Nat) (m : Nat) (T : List (Nat × Int)), IsU g s.heap.objs.size m T → T.length = ks.length → (∀ b o, s.heap.get? b = some o → g.get? b = some o) → Q (.ref s.heap.objs.size) { s with heap := g, toks := tk }) :
    wpAny (model P w) A (call (.type "set") [.ref l]) Q E s := by
  have hz : items.size = ks.length := by
    have q := congrArg List.length hit
    rw [Array.length_toList, List.length_map] at q
    exact q
  have hv : ∀ (i : Nat) (v : Value), items[i]? = some v → ∃ p, ks[i]? = some p ∧ v = .ref p.1 := fun i v hv => by
    have q : items.toList[i]? = some v := by rw [Array.getElem?_toList]; exact hv
    rw [hit, List.getElem?_map] at q
    cases hq : ks[i]? with
    | none => rw [hq] at q; cases q
    | some p =>
      rw [hq] at q
      exact ⟨p, rfl, (Option.some.inj q).symm⟩
  obtain ⟨c, tl, hmro⟩ := F.called_set.mro
  have hmade := F.called_set.made
  have hsub := F.called_set.sub
  apply wpAny_call
  apply codeAny_of_tree
  show wpAny _ _ (callAny (.type "set") _) _ _ _
  refine wpAny_pure ⟨Code.quiet_builtin _ (by decide +kernel), codeAny_builtin F.entry_type_call ?_⟩
  rw [Around.under_plain (weight_type_call_type "set" [.ref l] []) rfl]
  have h1 := F.called_set.notType
  have h2 := F.called_set.canCreate
  have hct := F.typeCall_set_1 (.ref l)
  repeat (any_goals (first | assumption | wp_step))
  let N : Obj := { cls := .type "set", dict := none, data := .set #[] 0 (.fresh 0 0 (!w.params.followText "set-order")) }
  refine codeAny_mono (code_set_led1 (.ref l) (E := E) (Q₁ := fun obj u => obj = .ref s.heap.objs.size ∧ u = { s with heap := s.heap.push N }) ⟨rfl, rfl⟩) fun r u hr' => ?_
  cases r with
  | error e => exact hr'
  | ok fl =>
    cases fl with
    | ret obj =>
      obtain ⟨rfl, rfl⟩ := hr'
      have hS : (s.heap.push N).get? s.heap.objs.size = some N := Heap.get?_push_size _ rfl
      have hT : Shared.TypeIs { s with heap := s.heap.push N } (.ref s.heap.objs.size) "set" := ⟨_, hS, rfl⟩
      have hli := F.called_set.init.lookup
      have hbi := F.called_set.init.bind (.ref s.heap.objs.size)
      repeat (any_goals (first | assumption | wp_step))
      refine codeAny_mono (codeAny_call_builtin (R := wants (fun r u => r = .none ∧ ∃ g tk m T, u = { s with heap := g, toks := tk } ∧ IsU g s.heap.objs.size m T ∧ T.length = ks.length ∧ ∀ b o, s.heap.get? b = some o → g.get? b = some o) E)
        F.called_set.init.plain F.entry_set_init (check_set_init_1 hT ?_)) fun r u hr' => ?_
      · have hl1 : (s.heap.push N).IsList l items := hl.push _
        have hlS : l < s.heap.objs.size := by
          obtain ⟨o, ho, _⟩ := hl
          exact Heap.lt_size ho
        have hsls := F.sub_list_set
        have hslf := F.sub_list_frozenset
        have hne : (Value.type "list" == Value.type "dict") = false := by decide
        obtain ⟨ol, hol, hcl, nl, hdl⟩ := id hl1
        have hTl : Shared.TypeIs { s with heap := s.heap.push N } (.ref l) "list" := ⟨ol, hol, hcl⟩
        unfold Builtin.«set.__init__» noKeywords Builtin.Frozenset.updateFrom
        generalize hPI : pyIter = PI
        wp_walk
        subst hPI
        have hneI : l ≠ (s.heap.push N).objs.size := by
          rw [Heap.size_push]
          exact Nat.ne_of_lt (Nat.lt_succ_of_lt hlS)
        have away : s.heap.objs.size ∉ [(s.heap.push N).objs.size, l] := by
          rw [Heap.size_push]
          intro z
          rcases List.mem_cons.mp z with z | z
          · exact Nat.ne_of_lt (Nat.lt_succ_self _) z
          · exact Nat.ne_of_gt hlS (List.mem_singleton.mp z)
        have hd : A.in1.in1.in1.handled = none := by simp [hh]
        have none_of : ∀ b, s.heap.objs.size ≤ b → s.heap.get? b = none := fun b hb => by
          cases q : s.heap.get? b with
          | none => rfl
          | some o => exact absurd (Nat.lt_of_lt_of_le (Heap.lt_size q) hb) (Nat.lt_irrefl _)
        refine wpAny_pyIter_list hl1 ?_
        apply wpAny_bind
        apply wpAny_runValue
        refine u_update ((Walks.list hd _ l hneI items).toS) away hz hv s.heap hk (none_of _ (Nat.le_refl _)) (fun b hb => none_of b (by
            rw [List.mem_singleton.mp hb, Heap.size_push]
            exact Nat.le_succ _)) hu (items.size - 0) 0 _ (by omega) (Nat.zero_le _) ⟨⟨_, Heap.get?_push_size _ rfl, rfl, rfl⟩, hl1.push _⟩
          (fun b o e => Heap.get?_push_of_some _ (Heap.get?_push_of_some _ e)) ⟨7, [], (IsU.fresh s.heap _).keep fun o e => Heap.get?_push_of_some _ e, rfl, by rw [List.drop_zero]; exact hr⟩ fun u m T mv hT hl2 kp => ?_
        obtain ⟨g, gn, dr, tk, os⟩ := u
        obtain rfl : gn = s.gens := mv.gens
        obtain rfl : dr = s.drawn := mv.drawn
        obtain rfl : os = s.os := mv.os
        show wpAny _ _ _ _ _ _
        apply wpAny_pure
        show wpAny _ _ (ret Value.none) _ _ _
        exact wpAny_pure ⟨rfl, g, tk, m, T, rfl, hT, by rw [hl2, hz], kp⟩
      · cases r with
        | error e => exact hr'
        | ok fl =>
          cases fl with
          | ret r =>
            obtain ⟨rfl, g, tk, m, T, rfl, q1, q2, q3⟩ := hr'
            repeat (any_goals (first | assumption | wp_step))
            exact h _ _ _ _ q1 q2 q3
          | _ => exact hr'.elim
    | _ => exact hr'.elim
end
end DL
set_option Elab.async false
set_option linter.all false
set_option maxRecDepth 100000
set_option maxHeartbeats 1000000
namespace DL
open PySem L2
abbrev RTN := Addr × List Int
def keyTN (r : RTN) : List (Int ⊕ List Nat) := r.2.map Sum.inl
theorem lex_ints : ∀ (a b : List Int), PyProof.Rows.lexLt PyProof.Rows.itemOrd (a.map Sum.inl) (b.map Sum.inl) = decide (a < b)
  | [], [] => by
    rw [decide_eq_false (List.lt_irrefl _)]
    rfl
  | [], y :: b => by
    rw [decide_eq_true (List.nil_lt_cons _ _)]
    rfl
  | x :: a, [] => by
    rw [decide_eq_false (List.not_lt_nil _)]
    rfl
  | x :: a, y :: b => by
    rw [List.map_cons, List.map_cons, PyProof.Rows.lex_cons, lex_ints a b]
    show (decide (x < y) || (!decide (y < x) && decide (a < b))) = decide (x :: a < y :: b)
    rw [Bool.eq_iff_iff]
    simp only [Bool.or_eq_true, Bool.and_eq_true, Bool.not_eq_true', decide_eq_true_eq, decide_eq_false_iff_not, List.cons_lt_cons_iff]
    constructor
    · rintro (h | ⟨h1, h2⟩)
      · exact .inl h
      · by_cases c : x < y
        · exact .inl c
        · exact .inr ⟨by omega, h2⟩
    · rintro (h | ⟨h1, h2⟩)
      · exact .inl h
      · exact .inr ⟨by omega, h2⟩
def rSortedTN (K : PySem.W.Frag) : List V → Hp → VK → Prop := fun vs H Q => ∃ (a : Addr) (rs : List RTN), vs = [.ref a] ∧ SqL K H a (rs.map fun r => V.ref r.1) ∧ (∀ r ∈ rs, SqT K H r.1 (r.2.map V.int) ∧ r.2 ≠ []) ∧
  ∀ (rs' : List RTN) (p : Addr), rs'.Perm rs → rs'.Pairwise (fun r q => ¬ q.2 < r.2) → H p = none → Q (.ref p) (upd H p (.lst (rs'.map fun r => V.ref r.1)))
theorem zip_refsT : ∀ rs : List RTN, (rs.map fun r => Value.ref r.1).zip (rs.map fun r => Value.ref r.1) = rs.map fun r => (Value.ref r.1, Value.ref r.1)
  | [] => rfl
  | r :: rs => by rw [List.map_cons, List.map_cons, List.zip_cons_cons, zip_refsT rs]
theorem items_ints : ∀ (i : Nat) {ns : List Int} {us : List Value}, Vals (ns.map V.int) us → PyProof.Rows.tupItems (fun _ => false) i us = some (ns.map Sum.inl)
  | _, [], _, .nil => rfl
  | i, n :: ns, _, .cons r t => by
    obtain ⟨tk, rfl⟩ := r
    show (if (false = true) then none else (PyProof.Rows.tupItems (fun _ => false) (i + 1) _).map (Sum.inl n :: ·)) = _
    rw [if_neg Bool.false_ne_true, items_ints (i + 1) t]
    rfl
theorem cr_sortedTN {X : Cx} : CallR X (.builtin "sorted") (rSortedTN X.K) := by
  intro pins s σ H vs us Q I r h
  obtain ⟨a, rs, rfl, hs, ht, q⟩ := h
  obtain ⟨its, rv, hl, hz⟩ := I.list hs
  obtain ⟨u, rfl, ru⟩ := vals1 r
  obtain rfl : u = Value.ref a := ru
  have eits := refs_of_vals rv
  subst eits
  have at_ : ∀ r ∈ rs, ∃ o us n, s.heap.get? r.1 = some o ∧ o.cls = .type "tuple" ∧ o.data = .seq us.toArray n ∧ Vals (r.2.map V.int) us := fun r hr => by
    obtain ⟨its2, r2, ⟨o, ho, hc, n, hd⟩, _⟩ := I.tuple (ht r hr).1
    exact ⟨o, its2, n, ho, hc, hd, r2⟩
  have key : ∀ r ∈ rs, PyProof.Rows.G.tupKeyC s.heap (fun _ => false) (.ref r.1) = some (keyTN r) := fun r hr => by
    obtain ⟨o, us, n, ho, hc, hd, hv⟩ := at_ r hr
    have e := items_ints 0 hv
    simp [PyProof.Rows.G.tupKeyC, PyProof.Rows.G.isTupObj, PyProof.Rows.tupKey, ho, hc, hd, keyTN, e]
  have tups : ∀ l : List RTN, (∀ r ∈ l, r ∈ rs) → ∃ fs, PyProof.Rows.TupsOf s.heap (fun _ => false) (l.map fun r => Value.ref r.1) fs := fun l => by
    induction l with
    | nil => exact fun _ => ⟨[], .nil⟩
    | cons r l ih =>
      intro hm
      obtain ⟨fs, hf⟩ := ih fun x hx => hm x (List.mem_cons_of_mem _ hx)
      obtain ⟨o, us, n, ho, hc, hd, hv⟩ := at_ r (hm r List.mem_cons_self)
      have ne := (ht r (hm r List.mem_cons_self)).2
      cases e2 : r.2 with
      | nil => exact absurd e2 ne
      | cons i is =>
        rw [e2] at hv
        cases hv with
        | cons h1 h2 =>
          obtain ⟨tk, rfl⟩ := h1
          exact ⟨.int i tk :: fs, .cons ⟨r.1, o, _, n, rfl, ho, hc, hd, rfl, fun _ => ⟨_, _, rfl⟩, fun z => by simp at z⟩ hf⟩
  obtain ⟨fs, hf⟩ := tups rs fun _ h => h
  have hlen : (rs.map fun r => Value.ref r.1).length ≤ sizeLine := by
    rw [List.length_map] at hz ⊢
    exact hz
  refine PyProof.Rows.G.sorted_tups hl.isList hf (fun v hv => ?_) hlen fun st' hp hsd _ => ?_
  · obtain ⟨r, hr, rfl⟩ := List.mem_map.mp hv
    exact ⟨_, key r hr⟩
  · obtain ⟨ep, he'⟩ := PyProof.Rows.sortedAll_at s.heap (rs.map fun r => Value.ref r.1) ((PyProof.Rows.arrOf st').map (·.2))
    have hp' : (PyProof.Rows.arrOf st').toList.Perm (rs.map fun r => (Value.ref r.1, Value.ref r.1)) := by
      have e : (PyProof.Rows.pairsOf (rs.map fun r => Value.ref r.1)).toList = rs.map fun r => (Value.ref r.1, Value.ref r.1) := by
        rw [PyProof.Rows.pairsOf_toList]
        exact zip_refsT rs
      rw [← e]
      exact Array.perm_iff_toList_perm.mp hp
    obtain ⟨rs', p2, e2⟩ := perm_map_inv (f := fun r : RTN => (Value.ref r.1, Value.ref r.1)) hp' rs rfl
    have eo : ((PyProof.Rows.arrOf st').map (·.2)).toList = rs'.map fun r => Value.ref r.1 := by
      rw [Array.toList_map, e2, List.map_map]
      rfl
    have hin : ∀ r ∈ rs', r ∈ rs := fun r hr => p2.mem_iff.mp hr
    have kk : ∀ (i : Nat) r, rs'[i]? = some r → PyProof.Rows.KK (PyProof.Rows.G.tupKindC s.heap (fun _ => false)) (PyProof.Rows.arrOf st') i = keyTN r := fun i r e => by
      have h1 : (PyProof.Rows.arrOf st')[i]? = some (Value.ref r.1, Value.ref r.1) := by
        rw [← Array.getElem?_toList, e2, List.getElem?_map, e]
        rfl
      unfold PyProof.Rows.KK
      rw [h1]
      show (PyProof.Rows.G.tupKeyC s.heap (fun _ => false) (.ref r.1)).getD _ = _
      rw [key r (hin r (List.mem_of_getElem? e))]
      rfl
    have srt : rs'.Pairwise (fun r q => ¬ q.2 < r.2) := by
      rw [List.pairwise_iff_getElem]
      intro i j hi hj hij
      have hjs : j < (PyProof.Rows.pairsOf (rs.map fun r => Value.ref r.1)).size := by
        rw [PyProof.Rows.pairsOf_size, List.length_map, ← p2.length_eq]
        exact hj
      have := hsd i j (Nat.le_of_lt hij) hjs
      rw [kk i _ (List.getElem?_eq_getElem hi), kk j _ (List.getElem?_eq_getElem hj)] at this
      have h' : PyProof.Rows.lexLt PyProof.Rows.itemOrd (keyTN rs'[j]) (keyTN rs'[i]) = false := this
      unfold keyTN at h'
      rw [lex_ints] at h'
      exact of_decide_eq_false h'
    refine ⟨.ref (s.heap.objs.size + 1), upd H (s.heap.objs.size + 1) (.lst (rs'.map fun r => V.ref r.1)), I.laid (t' := s.toks) (fun _ _ => PyProof.Rows.sortedAll_old) (Nat.le_succ _) ⟨?_, rs'.map fun r => Value.ref r.1, ep, vals_of_refs rs', ?_⟩, rfl,
      q rs' _ p2 srt (I.hok.fresh (Nat.le_succ _))⟩
    · rw [List.length_map, p2.length_eq, ← List.length_map (f := fun r : RTN => V.ref r.1)]
      exact hz
    · rw [he', ← eo]
def UO (a : Addr) (n : Nat) : HO := .ext fun h => ∃ m T, IsU h a m T ∧ T.length = n
theorem uo_ok {P : Program} {w : World} {H : Hp} {h : Heap} {a : Addr} {n : Nat} {m : Nat} {T : List (Nat × Int)} (R : IsU h a m T) (e : T.length = n) : ObjOk P w H h a (UO a n) := by
  have R' := R
  obtain ⟨o, es, ep, tb, U⟩ := R
  exact ⟨⟨m, T, R', e⟩, ⟨o, U.at_⟩, fun _ _ ⟨m, T, p, e⟩ k => ⟨m, T, IsU.keep p k, e⟩⟩
def rSetU (K : PySem.W.Frag) (P : Program) (w : World) : List V → Hp → VK → Prop := fun xs H Q => ∃ (l : Addr) (ks : List RTN), xs = [.ref l] ∧ SqL K H l (ks.map fun p => V.ref p.1) ∧ (∀ p ∈ ks, SqT K H p.1 (p.2.map V.int)) ∧ (runU (ks.map fun p => thash P w p.2) 7 []).isSome = true ∧ ∀ a, H a = none → Q (.ref a) (upd H a (UO a ks.length))
section
variable {X : Cx}
theorem cr_setU (hc : X.calm = true) (hu : X.A.units + 3 < cLine) : CallR X (.type "set") (rSetU X.K X.prog X.w) := by
  intro pins s σ H xs us Q I r h
  obtain ⟨l, ks, rfl, hl, hk, hf, q⟩ := h
  rw [Vals.ref1 r]
  obtain ⟨its, rv, pl, hz⟩ := I.list hl
  refine call_set_U (P := X.prog) (w := X.w) ks (I.ok.hd hc) pl.isList (by simpa using refs_of_vals rv) (fun p hp => I.isT (hk p hp)) hf hu fun g tk m T R e kp => ?_
  exact ⟨.ref _, upd H s.heap.objs.size (UO s.heap.objs.size ks.length), I.laid (t' := tk) kp (Nat.le_refl _) (uo_ok R e), rfl, q _ (I.hok.fresh (Nat.le_refl _))⟩
def rLenU : List V → Hp → VK → Prop := fun xs H Q => ∃ (a : Addr) (n : Nat), xs = [.ref a] ∧ H a = some (UO a n) ∧ Q (.int n) H
theorem cr_lenU : CallR X (.builtin "len") rLenU := by
  intro pins s σ H xs us Q I r h
  obtain ⟨a, n, rfl, ha, q⟩ := h
  rw [Vals.ref1 r]
  obtain ⟨m, T, ⟨o, es, ep, tb, U⟩, e⟩ := (I.hok a _ ha).1
  obtain ⟨z1, z2⟩ := U.size
  have big := U.big
  have room := U.room
  refine call_len_set U.at_ U.ex U.dat U.fits (by rw [z1]; omega) ?_
  rw [z1, e]
  exact ⟨.int (n : Nat), H, I.tok _, ⟨_, rfl⟩, q⟩
end
end DL
set_option Elab.async false
set_option linter.all false
set_option maxRecDepth 100000
set_option maxHeartbeats 1000000
namespace DL
open PySem L2
def intsO (o : List Nat) : List Int := o.map fun (n : Nat) => (n : Int)
theorem nats_intsO (o : List Nat) : nats o = (intsO o).map D.int := by
  unfold nats intsO
  rw [List.map_map]
  rfl
theorem intsO_lt : ∀ {a b : List Nat}, intsO a < intsO b ↔ a < b
  | [], [] => by simp [intsO]
  | [], y :: b => by simp [intsO]
  | x :: a, [] => by simp [intsO]
  | x :: a, y :: b => by
    have ih := intsO_lt (a := a) (b := b)
    unfold intsO at ih ⊢
    rw [List.map_cons, List.map_cons, List.cons_lt_cons_iff, List.cons_lt_cons_iff, ih, show ((x : Int) < (y : Int)) = (x < y) from propext Int.ofNat_lt, show ((x : Int) = (y : Int)) = (x = y) from propext (by omega : (x : Int) = (y : Int) ↔ x = y)]
/-- tuples of numbers at their addresses -/
theorem rpa_TN {K : PySem.W.Frag} {F : Hp} {R : List Addr} : ∀ {vs : List V} {xs : List (List Nat)}, RpA K F R vs (tups xs) → ∃ rs : List RTN, vs = rs.map (fun r => V.ref r.1) ∧ rs.map (·.2) = xs.map intsO ∧ ∀ r ∈ rs, SqT K F r.1 (r.2.map V.int)
  | _, [], .nil => ⟨[], rfl, rfl, fun _ h => by cases h⟩
  | _, x :: xs, h => by
    have h' : RpA K F R _ (D.tup (nats x) :: tups xs) := h
    cases h' with
    | cons a t =>
      cases a with
      | @tup a vs ds hs b =>
        rw [nats_intsO] at b
        have e := b.ints
        subst e
        obtain ⟨rs, e1, e2, h2⟩ := rpa_TN t
        refine ⟨(_, intsO x) :: rs, by rw [e1]; rfl, by rw [List.map_cons, List.map_cons, e2], fun r hr => ?_⟩
        rcases List.mem_cons.mp hr with rfl | hr
        · exact hs
        · exact h2 r hr
theorem TN_rpa {K : PySem.W.Frag} {F : Hp} {R : List Addr} : ∀ {rs : List RTN} {xs : List (List Nat)}, rs.map (·.2) = xs.map intsO → (∀ r ∈ rs, SqT K F r.1 (r.2.map V.int)) → RpA K F R (rs.map fun r => V.ref r.1) (tups xs)
  | [], [], _, _ => .nil
  | [], _ :: _, e, _ => by cases e
  | _ :: _, [], e, _ => by cases e
  | r :: rs, x :: xs, e, h => by
    rw [List.map_cons, List.map_cons] at e
    injection e with e1 e2
    refine .cons (.tup (h r List.mem_cons_self) ?_) (TN_rpa e2 fun y hy => h y (List.mem_cons_of_mem _ hy))
    rw [nats_intsO, ← e1]
    exact ints_rpa _
section
variable {M : Ghost} {C : Ct M} {e : Expr} {wA : AW M} {p p2 pos pos2 : Pos}
/-- sorted of a list of tuples of numbers -/
def cSortedTN (ds : List D) (q : List D → Prop) : Prop := ∃ xs : List (List Nat), ds = [.lst (tups xs)] ∧ (∀ x ∈ xs, x ≠ []) ∧ ∀ ys : List (List Nat), ys.Perm xs → ys.Pairwise (fun a b => ¬ b < a) → q (tups ys)
theorem calln_sortedTN : CallN C (.builtin "sorted") cSortedTN := by
  refine ⟨_, cr_sortedTN, fun W vs ds Q q k r hQ h => ?_⟩
  obtain ⟨xs, rfl, ne, h⟩ := h
  obtain ⟨v, rfl, r0⟩ := pair1 r
  obtain ⟨p, vs, rfl, hp, np, ra⟩ := r0.lst_inv k
  obtain ⟨rs, rfl, e2, hs⟩ := rpa_TN ra
  refine ⟨p, rs, rfl, .of hp, fun r hr => ⟨same_tup k.sub (hs r hr), fun z => ?_⟩, fun rs' t p2 srt ht => ?_⟩
  · have : r.2 ∈ xs.map intsO := by rw [← e2]; exact List.mem_map_of_mem hr
    obtain ⟨x, hx, ex⟩ := List.mem_map.mp this
    rw [z] at ex
    exact ne x hx (List.map_eq_nil_iff.mp ex)
  have pm : (rs'.map (·.2)).Perm (xs.map intsO) := by rw [← e2]; exact p2.map _
  obtain ⟨ys, py, ey⟩ := perm_map_inv (f := intsO) pm xs rfl
  refine hQ t _ _ (W.new t (.lst _)) (Go.new k ht) (k.new ht) rfl upd_same (k.noF ht) (k.noR ht) ht (TN_rpa ey fun r hr => hs r (p2.mem_iff.mp hr)) (h ys py ?_)
  have h2 : (ys.map intsO).Pairwise fun a b => ¬ b < a := by
    rw [← ey, List.pairwise_map]
    exact srt
  rw [List.pairwise_map] at h2
  exact h2.imp fun {a b} h z => h (intsO_lt.mpr z)
def tHash (o : List Nat) : Int := reduceHash (Builtin.Tuple.tupleHashOf (o.map fun (n : Nat) => hashInt (n : Int)))
theorem thash_ints (P : Program) (w : World) (o : List Nat) : thash P w (intsO o) = tHash o := by
  show reduceHash (Builtin.Tuple.tupleHashOf ((intsO o).map hashInt)) = _
  unfold intsO tHash
  rw [List.map_map]
  rfl
/-- the number of members of a set of tuples, all apart -/
def cLenSetU (ds : List D) (q : D → Prop) : Prop := ∃ xs : List (List Nat), ds = [.lst (tups xs)] ∧ (runU (xs.map tHash) 7 []).isSome = true ∧ q (.int (xs.length : Nat))
theorem de_lenSetU {k : Nat} (hc : C.X.calm = true) (hr : Room k C.X.A) (hm : C.X.mg "len" = none) (hm2 : C.X.mg "set" = none) (ha : DAP C [e] wA) (hg : Gl C.X "len" := by rfl) (hg2 : Gl C.X "set" := by rfl)
    (he : starEach [e] C.X.env = (false, eval e C.X.env) :: starEach [] C.X.env := by rfl)
    (he2 : starEach [.Call (.Name "set" p2) [e] [] pos2] C.X.env = (false, eval (.Call (.Name "set" p2) [e] [] pos2) C.X.env) :: starEach [] C.X.env := by rfl) :
    DE C (.Call (.Name "len" p) [.Call (.Name "set" p2) [e] [] pos2] [] pos) (wCB cLenSetU wA) := ⟨fun σ ρ W Q q Sa hQ hw => by
  refine tOf_of (pe_callB cr_lenU hg hm (by decide +kernel) (pa_cons (pe_callTy (cr_setU hc (by have := hr.un; omega)) hg2 hm2 (by decide +kernel) pa_tOf (by decide) (by decide) he) pa_nil he2) (by decide) (by decide) he2) ?_
  refine ha.run σ ρ W _ _ Sa (fun vs ds W1 g1 k1 r1 q1 => ?_) hw
  obtain ⟨xs, rfl, hrun, q1⟩ := q1
  obtain ⟨v, rfl, r0⟩ := pair1 r1
  obtain ⟨l, vs, rfl, hp, np, ra⟩ := r0.lst_inv k1
  obtain ⟨rs, rfl, e2, hs⟩ := rpa_TN ra
  have len : rs.length = xs.length := by
    have := congrArg List.length e2
    rw [List.length_map, List.length_map] at this
    exact this
  have hh : (rs.map fun p => thash C.X.prog C.X.w p.2) = xs.map tHash := by
    have : (rs.map fun p => thash C.X.prog C.X.w p.2) = (rs.map (·.2)).map (thash C.X.prog C.X.w) := by rw [List.map_map]; rfl
    rw [this, e2, List.map_map]
    exact List.map_congr_left fun x _ => thash_ints _ _ x
  refine ⟨l, rs, rfl, .of hp, fun r hr => same_tup k1.sub (hs r hr), by rw [hh]; exact hrun, fun a ha => ?_⟩
  refine ⟨a, rs.length, rfl, upd_same, ?_⟩
  rw [← len] at q1
  exact hQ _ _ (W1.new a (UO a rs.length)) (g1.trans (Go.new k1 ha)) (k1.new ha) (.int _) q1⟩
end
end DL
set_option Elab.async false
set_option maxRecDepth 1000000
namespace DL
open PySem L2
theorem r5 : (runU ((allO 5).map tHash) 7 []).isSome = true := by decide +kernel
theorem r6 : (runU ((allO 6).map tHash) 7 []).isSome = true := by decide +kernel
end DL
set_option Elab.async false
set_option linter.all false
set_option maxRecDepth 100000
set_option maxHeartbeats 1000000
namespace DL
open PySem L2
theorem isPl_inv {n : Nat} {d : D} (h : isPl n d = true) : ∃ i : Nat, d = .int i ∧ i < n := by
  unfold isPl isInt at h
  cases d with
  | int i =>
    simp at h
    exact ⟨i.toNat, by congr 1; omega, by omega⟩
  | _ => cases h
theorem isPl_nat {n i : Nat} : isPl n (.int i) = decide (i < n) := by
  unfold isPl isInt
  by_cases c : i < n
  · simp [c]; omega
  · simp [c]; omega
@[simp] theorem natD_int {i : Nat} : natD (.int i) = i := rfl
theorem ok_int {i : Int} : okD (.int i) := ⟨_, rfl⟩
theorem oErr_tup {xs : List D} : oErr (.tup xs) = if xs = [] ∨ 24 < xs.length then .tup [.non, .str sOrder] else match (List.range xs.length).find? (badO xs) with
    | some i => .tup [.int (i : Int), .str sPlace]
    | none => .non := rfl
theorem oErr_bad {xs : List D} (h : xs = [] ∨ 24 < xs.length) : oErr (.tup xs) = .tup [.non, .str sOrder] := by rw [oErr_tup, if_pos h]
theorem oErr_at {xs : List D} (h : ¬ (xs = [] ∨ 24 < xs.length)) {i : Nat} (hi : i < xs.length) (hb : badO xs i = true) (ha : ∀ j, j < i → badO xs j = false) : oErr (.tup xs) = .tup [.int (i : Int), .str sPlace] := by
  have e : (List.range xs.length).find? (badO xs) = some i := by
    rw [List.find?_range_eq_some]
    exact ⟨hb, List.mem_range.mpr hi, fun j hj => by rw [ha j hj]; rfl⟩
  rw [oErr_tup, if_neg h, e]
theorem oErr_ok {xs : List D} (h : ¬ (xs = [] ∨ 24 < xs.length)) (ha : ∀ j, j < xs.length → badO xs j = false) : oErr (.tup xs) = .non := by
  have e : (List.range xs.length).find? (badO xs) = none := List.find?_eq_none.mpr fun j hj => by rw [ha j (List.mem_range.mp hj)]; exact Bool.false_ne_true
  rw [oErr_tup, if_neg h, e]
theorem badO_get {xs : List D} {i : Nat} (h : i < xs.length) : badO xs i = (!isPl xs.length xs[i] || decide (natD xs[i] ∈ (xs.take i).map natD)) := by
  unfold badO
  rw [List.getElem?_eq_getElem h]
end DL
set_option Elab.async false
set_option linter.all false
set_option maxRecDepth 100000
set_option maxHeartbeats 1000000
namespace DL
open PySem L2
theorem tls_of {w : List Nat} {ys : List (List Nat × Int)} (hp : ys.Perm ((List.range w.length).map fun i : Nat => (w.drop i, (i : Int)))) (hs : ys.Pairwise leTI) : ys.map pairTI = tlsW w := by
  have h1 := sorted_TO hp hs
  obtain ⟨o, ho, rfl⟩ := perm_map_inv (f := fun i : Nat => (w.drop i, (i : Int))) hp _ rfl
  have h2 : nats o = nats (tOrd w) := by
    rw [← h1, List.map_map]
    rfl
  have h3 := nats_inj.mp h2
  subst h3
  unfold tlsW
  rw [List.map_map]
  rfl
/-- an order, grown by a first place of a rank -/
def grwW (o : List Nat) (s : Nat) : List Nat := (o.take s).map (· + 1) ++ 0 :: (o.drop s).map (· + 1)
theorem grw_len (o : List Nat) (s : Nat) : (grwW o s).length = o.length + 1 := by
  unfold grwW
  rw [List.length_append, List.length_cons, List.length_map, List.length_map, List.length_take, List.length_drop]
  omega
theorem grw_perm {o : List Nat} (h : isPerm o) (s : Nat) : isPerm (grwW o s) := by
  unfold isPerm
  rw [grw_len, List.range_succ_eq_map]
  unfold grwW
  refine List.perm_middle.trans (List.Perm.cons _ ?_)
  rw [← List.map_append, List.take_append_drop]
  exact List.Perm.map _ h
theorem grw_nats (o : List Nat) (s : Nat) : ((o.take s).map fun i : Nat => D.int ((i : Int) + 1)) ++ D.int 0 :: ((o.drop s).map fun i : Nat => D.int ((i : Int) + 1)) = nats (grwW o s) := by
  unfold grwW nats
  rw [List.map_append, List.map_cons, List.map_map, List.map_map]
  rfl
end DL
set_option Elab.async false
set_option linter.all false
set_option maxRecDepth 100000
set_option maxHeartbeats 1000000
namespace DL
open PySem L2
theorem adj_all {α : Type} {R : α → α → Prop} (tr : ∀ {a b c}, R a b → R b c → R a c) {n : Nat} {f : Nat → α} (h : ∀ k, 1 ≤ k → k < n → R (f (k - 1)) (f k)) : ∀ j i, i < j → j < n → R (f i) (f j) := by
  intro j
  induction j with
  | zero => intro i h; omega
  | succ j ih =>
    intro i hi hj
    have h1 : R (f j) (f (j + 1)) := h (j + 1) (by omega) hj
    by_cases c : i = j
    · rw [c]; exact h1
    · exact tr (ih i (by omega) (by omega)) h1
theorem pw_getD {α : Type} {R : α → α → Prop} {o : List α} {z : α} (h : ∀ j i, i < j → j < o.length → R (o.getD i z) (o.getD j z)) : o.Pairwise R := by
  rw [List.pairwise_iff_getElem]
  intro i j hi hj hij
  have := h j i hij hj
  rwa [List.getD_eq_getElem?_getD, List.getD_eq_getElem?_getD, List.getElem?_eq_getElem hi, List.getElem?_eq_getElem hj] at this
theorem getD_pw {α : Type} {R : α → α → Prop} {o : List α} {z : α} (h : o.Pairwise R) {i j : Nat} (hij : i < j) (hj : j < o.length) : R (o.getD i z) (o.getD j z) := by
  rw [List.pairwise_iff_getElem] at h
  rw [List.getD_eq_getElem?_getD, List.getD_eq_getElem?_getD, List.getElem?_eq_getElem (Nat.lt_trans hij hj), List.getElem?_eq_getElem hj]
  exact h i j _ hj hij
theorem isTO_of_adj {w o : List Nat} (ho : isPerm o) (hl : o.length = w.length) (h : ∀ k, 1 ≤ k → k < o.length → w.drop (o.getD (k - 1) 0) < w.drop (o.getD k 0)) : o = tOrd w :=
  IsTO.eq ⟨hl ▸ ho, pw_getD (z := 0) fun j i hij hj => adj_all (R := fun a b => w.drop a < w.drop b) (f := fun k => o.getD k 0) (fun h1 h2 => List.lt_trans h1 h2) h j i hij hj⟩
theorem adj_of_isTO {w o : List Nat} (e : o = tOrd w) {i j : Nat} (hij : i < j) (hj : j < o.length) : w.drop (o.getD i 0) < w.drop (o.getD j 0) := by
  subst e
  exact getD_pw (R := fun a b => w.drop a < w.drop b) (tOrd_is w).2 hij hj
theorem perm_lt {o : List Nat} (ho : isPerm o) {k : Nat} (hk : k < o.length) : o.getD k 0 < o.length := by
  rw [List.getD_eq_getElem?_getD, List.getElem?_eq_getElem hk]
  exact ho.lt (List.getElem_mem hk)
theorem perm_inj {o : List Nat} (ho : isPerm o) {i j : Nat} (hi : i < o.length) (hj : j < o.length) (e : o.getD i 0 = o.getD j 0) : i = j := by
  rw [List.getD_eq_getElem?_getD, List.getElem?_eq_getElem hi, List.getD_eq_getElem?_getD, List.getElem?_eq_getElem hj] at e
  have e' : o[i] = o[j] := e
  have h1 := idx_of_get ho.nodup (List.getElem?_eq_getElem hi)
  have h2 := idx_of_get ho.nodup (List.getElem?_eq_getElem hj)
  rw [e'] at h1
  exact h1.symm.trans h2
theorem rkE_in {o : List Nat} {p : Nat} (h : p < o.length) : rkE o p = o.idxOf p := by
  unfold rkE
  rw [List.getD_eq_getElem?_getD, List.getElem?_append_left (by rw [List.length_map, inv_len]; exact h), List.getElem?_map, inv_get h]
  rfl
theorem rkE_end {o : List Nat} : rkE o o.length = -1 := by
  unfold rkE
  rw [List.getD_eq_getElem?_getD, List.getElem?_append_right (by rw [List.length_map, inv_len]; exact Nat.le_refl _), List.length_map, inv_len, Nat.sub_self]
  rfl
theorem idx_lt {o : List Nat} (ho : isPerm o) {p : Nat} (h : p < o.length) : o.idxOf p < o.length := by
  have := get_idx (o := o) (ho.mem h)
  exact (List.getElem?_eq_some_iff.mp this).1
theorem idx_getD {o : List Nat} (ho : isPerm o) {p : Nat} (h : p < o.length) : o.getD (o.idxOf p) 0 = p := by
  rw [List.getD_eq_getElem?_getD, get_idx (ho.mem h)]
  rfl
theorem rkE_inj {o : List Nat} (ho : isPerm o) {p p' : Nat} (h : p ≤ o.length) (h' : p' ≤ o.length) (e : rkE o p = rkE o p') : p = p' := by
  by_cases c : p < o.length
  · by_cases c' : p' < o.length
    · rw [rkE_in c, rkE_in c'] at e
      have e2 : o.idxOf p = o.idxOf p' := by omega
      have := idx_getD ho c
      rw [e2, idx_getD ho c'] at this
      exact this.symm
    · have : p' = o.length := by omega
      subst this
      rw [rkE_in c, rkE_end] at e
      omega
  · have : p = o.length := by omega
    subst this
    by_cases c' : p' < o.length
    · rw [rkE_in c', rkE_end] at e
      omega
    · omega
/-- the letter at an index of an order -/
def ltrW (w o : List Nat) (k : Nat) : Nat := w.getD (o.getD k 0) 0
theorem mem_stp {o : List Nat} {k : Nat} (h1 : 1 ≤ k) (h2 : k < o.length) : k ∈ stpW o ↔ rkE o (o.getD k 0 + 1) < rkE o (o.getD (k - 1) 0 + 1) := by
  unfold stpW
  rw [List.mem_map]
  constructor
  · rintro ⟨i, hi, rfl⟩
    have := (List.mem_filter.mp hi).2
    simpa using this
  · intro h
    refine ⟨k - 1, List.mem_filter.mpr ⟨List.mem_range.mpr (by omega), ?_⟩, by omega⟩
    rw [show k - 1 + 1 = k by omega]
    simpa using h
/-- no letter falls, and each strict step rises -/
def fitB (w o : List Nat) (k : Nat) : Bool := decide (ltrW w o k < ltrW w o (k - 1)) || (decide (ltrW w o k = ltrW w o (k - 1)) && decide (k ∈ stpW o))
theorem drop_ltr {w o : List Nat} (ho : isPerm o) (hl : o.length = w.length) {k : Nat} (hk : k < o.length) : w.drop (o.getD k 0) = ltrW w o k :: w.drop (o.getD k 0 + 1) := by
  have h := perm_lt ho hk
  rw [hl] at h
  unfold ltrW
  rw [List.drop_eq_getElem_cons h, List.getD_eq_getElem?_getD (l := w), List.getElem?_eq_getElem h]
  rfl
theorem fits_lt {w o : List Nat} (ho : isPerm o) (hl : o.length = w.length) (h : ∀ k, 1 ≤ k → k < o.length → fitB w o k = false) : ∀ m i j, i < j → j < o.length → o.length - o.getD i 0 ≤ m → w.drop (o.getD i 0) < w.drop (o.getD j 0) := by
  have up : ∀ j i, i < j → j < o.length → ltrW w o i ≤ ltrW w o j := adj_all (R := fun a b : Nat => a ≤ b) (fun a b => Nat.le_trans a b) fun k h1 h2 => by
    have := h k h1 h2
    unfold fitB at this
    simp at this
    omega
  have up' : ∀ j i, i ≤ j → j < o.length → ltrW w o i ≤ ltrW w o j := fun j i hij hj => by
    by_cases c : i = j
    · rw [c]; exact Nat.le_refl _
    · exact up j i (by omega) hj
  intro m
  induction m with
  | zero =>
    intro i j hij hj hm
    have := perm_lt ho (Nat.lt_trans hij hj)
    omega
  | succ m ih =>
    intro i j hij hj hm
    have hi := Nat.lt_trans hij hj
    rw [drop_ltr ho hl hi, drop_ltr ho hl hj, List.cons_lt_cons_iff]
    have u := up j i hij hj
    by_cases c : ltrW w o i = ltrW w o j
    · refine .inr ⟨c, ?_⟩
      -- the ranks behind never fall in between
      have r : rkE o (o.getD i 0 + 1) ≤ rkE o (o.getD j 0 + 1) := by
        have key : ∀ d, i + d ≤ j → rkE o (o.getD i 0 + 1) ≤ rkE o (o.getD (i + d) 0 + 1) := by
          intro d
          induction d with
          | zero => intro _; exact Int.le_refl _
          | succ d ihd =>
            intro hd
            have h0 := ihd (by omega)
            have h1 := h (i + (d + 1)) (by omega) (by omega)
            have e : ltrW w o (i + (d + 1)) = ltrW w o (i + (d + 1) - 1) := by
              have a1 := up' (i + (d + 1)) (i + (d + 1) - 1) (by omega) (by omega)
              have a2 := up' (i + (d + 1) - 1) i (by omega) (by omega)
              have a3 := up' j (i + (d + 1)) hd hj
              omega
            unfold fitB at h1
            rw [e] at h1
            simp at h1
            have h2 : ¬ _ := fun z => h1 ((mem_stp (o := o) (k := i + (d + 1)) (by omega) (by omega)).mpr z)
            rw [show i + (d + 1) - 1 = i + d by omega] at h2
            omega
        have := key (j - i) (by omega)
        rwa [show i + (j - i) = j by omega] at this
      have li := perm_lt ho hi
      have lj := perm_lt ho hj
      have ne : rkE o (o.getD i 0 + 1) ≠ rkE o (o.getD j 0 + 1) := fun e => by
        have := rkE_inj ho (by omega) (by omega) e
        have := perm_inj ho hi hj (by omega)
        omega
      have lt : rkE o (o.getD i 0 + 1) < rkE o (o.getD j 0 + 1) := by omega
      by_cases ci : o.getD i 0 + 1 = o.length
      · rw [ci, hl, List.drop_length]
        have : o.getD j 0 + 1 < w.length := by
          have : o.getD i 0 ≠ o.getD j 0 := fun e => by have := perm_inj ho hi hj e; omega
          omega
        rw [List.drop_eq_getElem_cons this]
        exact List.nil_lt_cons _ _
      · have ci' : o.getD i 0 + 1 < o.length := by omega
        rw [rkE_in ci'] at lt
        have cj : o.getD j 0 + 1 ≠ o.length := fun e => by
          rw [e, rkE_end] at lt
          omega
        have cj' : o.getD j 0 + 1 < o.length := by omega
        rw [rkE_in cj'] at lt
        have := ih (o.idxOf (o.getD i 0 + 1)) (o.idxOf (o.getD j 0 + 1)) (by omega) (idx_lt ho cj') (by rw [idx_getD ho ci']; omega)
        rwa [idx_getD ho ci', idx_getD ho cj'] at this
    · exact .inl (by omega)
theorem fits_iff {w o : List Nat} (ho : isPerm o) (hl : o.length = w.length) : (∀ k, 1 ≤ k → k < o.length → fitB w o k = false) ↔ o = tOrd w := by
  constructor
  · exact fun h => isTO_of_adj ho hl fun k h1 h2 => fits_lt ho hl h _ (k - 1) k (by omega) h2 (Nat.le_refl _)
  · intro e k h1 h2
    have a := adj_of_isTO e (i := k - 1) (j := k) (by omega) h2
    rw [drop_ltr ho hl (show k - 1 < o.length by omega), drop_ltr ho hl h2, List.cons_lt_cons_iff] at a
    unfold fitB
    rcases a with a | ⟨a, b⟩
    · simp
      omega
    · rw [a]
      simp
      rw [mem_stp h1 h2]
      have li := perm_lt ho (show k - 1 < o.length by omega)
      have lj := perm_lt ho h2
      have cj : o.getD k 0 + 1 ≠ o.length := fun z => by
        rw [z, hl, List.drop_length] at b
        exact List.not_lt_nil _ b
      rw [rkE_in (p := o.getD k 0 + 1) (by omega)]
      by_cases ci : o.getD (k - 1) 0 + 1 = o.length
      · rw [ci, rkE_end]
        omega
      · rw [rkE_in (p := o.getD (k - 1) 0 + 1) (by omega)]
        intro lt
        have lt' : o.idxOf (o.getD k 0 + 1) < o.idxOf (o.getD (k - 1) 0 + 1) := by omega
        have := adj_of_isTO e lt' (idx_lt ho (by omega))
        rw [idx_getD ho (by omega), idx_getD ho (by omega)] at this
        exact lt_asymmL b this
theorem shp_tups {a : List Nat} : shp (.tup (nats a)) = true := (sh_tup (sh_nats a)).ok (by decide)
theorem nats_take {a : List Nat} {n : Nat} : (nats a).take n = nats (a.take n) := by unfold nats; rw [List.map_take]
end DL
set_option Elab.async false
set_option linter.all false
set_option maxRecDepth 100000
set_option maxHeartbeats 1000000
namespace DL
open PySem L2
end DL
set_option Elab.async false
set_option linter.all false
set_option maxRecDepth 100000
set_option maxHeartbeats 1000000
namespace DL
open PySem L2
theorem grn_eq (o : List Nat) (s : Nat) : grnW o s = grwW o s := rfl
theorem allO_ok : ∀ n, ∀ o ∈ allO n, isPerm o ∧ o.length = n
  | 0, o, h => by
    rw [List.mem_singleton.mp h]
    exact ⟨.refl _, rfl⟩
  | n + 1, o, h => by
    obtain ⟨p, hp, ho⟩ := List.mem_flatMap.mp h
    obtain ⟨s, _, rfl⟩ := List.mem_map.mp ho
    obtain ⟨h1, h2⟩ := allO_ok n p hp
    exact ⟨grw_perm h1 s, by rw [grn_eq, grw_len, h2]⟩
theorem allO_small : ∀ n : Nat, n < 7 → (allO n).length ≤ 1000 := by decide +kernel
end DL
set_option Elab.async false
set_option linter.all false
set_option maxRecDepth 100000
set_option maxHeartbeats 1000000
namespace DL
open PySem L2
/-- the places whose tails are less stand in front -/
theorem front {α : Type} {R : α → α → Prop} {P : α → Bool} (dn : ∀ a b, R a b → P b = true → P a = true) : ∀ {l : List α}, l.Pairwise R → (∀ a ∈ l.take (l.countP P), P a = true) ∧ ∀ a ∈ l.drop (l.countP P), P a = false
  | [], _ => ⟨by simp, by simp⟩
  | x :: l, h => by
    obtain ⟨h1, h2⟩ := List.pairwise_cons.mp h
    obtain ⟨i1, i2⟩ := front dn h2
    by_cases c : P x = true
    · rw [List.countP_cons_of_pos c]
      refine ⟨fun a ha => ?_, i2⟩
      rw [List.take_succ_cons] at ha
      rcases List.mem_cons.mp ha with rfl | ha
      · exact c
      · exact i1 a ha
    · have all_ : ∀ a ∈ l, P a = false := fun a ha => by
        cases e : P a with
        | false => rfl
        | true => exact absurd (dn x a (h1 a ha) e) c
      have z : (x :: l).countP P = 0 := by
        rw [List.countP_eq_zero]
        intro a ha
        rcases List.mem_cons.mp ha with rfl | ha
        · exact c
        · rw [all_ a ha]; exact Bool.false_ne_true
      rw [z]
      refine ⟨by simp, fun a ha => ?_⟩
      rcases List.mem_cons.mp ha with rfl | ha
      · simpa using c
      · exact all_ a ha
/-- the number of later tails that are less -/
def lessW (w : List Nat) : Nat := (List.range' 1 (w.length - 1)).countP fun p => tlt w p 0
theorem grn_TO {w : List Nat} (hn : w ≠ []) : grnW (tOrd (w.drop 1)) (lessW w) = tOrd w := by
  have pos : 0 < w.length := List.length_pos_iff.mpr hn
  have hl : (tOrd (w.drop 1)).length = w.length - 1 := by rw [tOrd_len, List.length_drop]
  have cnt : lessW w = (tOrd (w.drop 1)).countP fun p => tlt w (p + 1) 0 := by
    have p := (tOrd_is (w.drop 1)).1
    rw [List.length_drop] at p
    rw [p.countP_eq]
    unfold lessW
    have e : List.range' 1 (w.length - 1) = (List.range (w.length - 1)).map (· + 1) := by
      apply List.ext_getElem?
      intro i
      rw [List.getElem?_map]
      by_cases c : i < w.length - 1
      · rw [List.getElem?_range' c, List.getElem?_range c]
        simp [Nat.add_comm]
      · rw [List.getElem?_eq_none (by rw [List.length_range']; omega), List.getElem?_eq_none (by rw [List.length_range]; omega)]
        rfl
    rw [e, List.countP_map]
    rfl
  have pw := (tOrd_is (w.drop 1)).2
  obtain ⟨f1, f2⟩ := front (P := fun p => tlt w (p + 1) 0) (fun a b hab hb => by
    have hb' : w.drop (b + 1) < w.drop 0 := of_decide_eq_true hb
    rw [List.drop_drop, List.drop_drop, Nat.add_comm 1 a, Nat.add_comm 1 b] at hab
    exact decide_eq_true (List.lt_trans hab hb')) pw
  rw [← cnt] at f1 f2
  have pg := grw_perm (tOrd_perm (w.drop 1)) (lessW w)
  have lg := grw_len (tOrd (w.drop 1)) (lessW w)
  rw [grn_eq]
  refine IsTO.eq ⟨?_, ?_⟩
  · unfold isPerm at pg
    rw [lg, hl, show w.length - 1 + 1 = w.length by omega] at pg
    exact pg
  · unfold grwW
    have up : ∀ {l : List Nat}, (∀ x, x ∈ l → True) → l.Pairwise (fun i j => (w.drop 1).drop i < (w.drop 1).drop j) → (l.map (· + 1)).Pairwise (fun i j => w.drop i < w.drop j) := fun _ h => by
      rw [List.pairwise_map]
      refine h.imp fun {a b} hab => ?_
      rw [List.drop_drop, List.drop_drop, Nat.add_comm 1 a, Nat.add_comm 1 b] at hab
      exact hab
    rw [List.pairwise_append]
    refine ⟨up (fun _ _ => trivial) (pw.sublist (List.take_sublist _ _)), ?_, ?_⟩
    · rw [List.pairwise_cons]
      refine ⟨fun b hb => ?_, up (fun _ _ => trivial) (pw.sublist (List.drop_sublist _ _))⟩
      obtain ⟨p, hp, rfl⟩ := List.mem_map.mp hb
      have h1 : ¬ w.drop (p + 1) < w.drop 0 := of_decide_eq_false (f2 p hp)
      have hp2 : p < w.length - 1 := by have := tOrd_lt (List.mem_of_mem_drop hp); rw [List.length_drop] at this; exact this
      by_cases c : w.drop 0 < w.drop (p + 1)
      · exact c
      · have e := List.le_antisymm (List.not_lt.mp h1) (List.not_lt.mp c)
        have := drop_inj (w := w) (i := 0) (j := p + 1) pos (by omega) e
        omega
    · intro a ha b hb
      obtain ⟨p, hp, rfl⟩ := List.mem_map.mp ha
      have h1 : w.drop (p + 1) < w.drop 0 := of_decide_eq_true (f1 p hp)
      rcases List.mem_cons.mp hb with rfl | hb
      · exact h1
      · obtain ⟨r, hr, rfl⟩ := List.mem_map.mp hb
        have h2 : ¬ w.drop (r + 1) < w.drop 0 := of_decide_eq_false (f2 r hr)
        by_cases c : w.drop (r + 1) < w.drop (p + 1)
        · exact absurd (List.lt_trans c h1) h2
        · by_cases e : w.drop (p + 1) < w.drop (r + 1)
          · exact e
          · have e' := List.le_antisymm (List.not_lt.mp c) (List.not_lt.mp e)
            rw [e'] at h1
            exact absurd h1 h2
theorem less_le (w : List Nat) : lessW w ≤ w.length - 1 := by
  unfold lessW
  have := List.countP_le_length (p := fun p => tlt w p 0) (l := List.range' 1 (w.length - 1))
  rw [List.length_range'] at this
  exact this
end DL
set_option Elab.async false
set_option linter.all false
set_option maxRecDepth 100000
set_option maxHeartbeats 1000000
namespace DL
open PySem L2
end DL
set_option Elab.async false
set_option linter.all false
set_option maxRecDepth 100000
set_option maxHeartbeats 1000000
namespace DL
open PySem L2
end DL
set_option Elab.async false
set_option linter.all false
set_option maxRecDepth 100000
set_option maxHeartbeats 1000000
namespace DL
open PySem L2
theorem stp_rise (o : List Nat) : (stpW o).Pairwise (· < ·) := by
  unfold stpW
  rw [List.pairwise_map]
  exact (List.pairwise_lt_range.sublist List.filter_sublist).imp fun h => by omega
theorem cnt_rise : ∀ {l : List Nat}, l.Pairwise (· < ·) → ∀ k, l.countP (fun s => decide (s ≤ k + 1)) = l.countP (fun s => decide (s ≤ k)) + if k + 1 ∈ l then 1 else 0
  | [], _, k => rfl
  | x :: l, h, k => by
    obtain ⟨h1, h2⟩ := List.pairwise_cons.mp h
    have ih := cnt_rise h2 k
    rw [List.countP_cons, List.countP_cons, ih]
    by_cases e : x = k + 1
    · subst e
      have n1 : k + 1 ∉ l := fun z => Nat.lt_irrefl _ (h1 _ z)
      simp [n1]
    · have e' : (k + 1 ∈ x :: l) ↔ k + 1 ∈ l := by
        rw [List.mem_cons]
        exact ⟨fun z => z.elim (fun y => absurd y.symm e) id, .inr⟩
      by_cases c : x ≤ k
      · have c2 : x ≤ k + 1 := by omega
        simp only [e', c, c2, decide_true, if_true]
        omega
      · have c2 : ¬ x ≤ k + 1 := by omega
        simp only [e', c, c2, decide_false, Bool.false_eq_true, if_false]
        omega
theorem numW_step (o : List Nat) (k : Nat) : numW o (k + 1) = numW o k + if k + 1 ∈ stpW o then 1 else 0 := cnt_rise (stp_rise o) k
theorem lst_len (o : List Nat) : (lstW o).length = o.length := by unfold lstW; simp
theorem lst_at {o : List Nat} {p : Nat} (h : p < o.length) : (lstW o)[p]? = some (97 + numW o (o.idxOf p)) := by
  unfold lstW
  rw [List.getElem?_map, List.getElem?_range h]
  rfl
theorem idx_at {o : List Nat} (ho : isPerm o) {k : Nat} (hk : k < o.length) : o.idxOf (o.getD k 0) = k := by
  refine idx_of_get ho.nodup ?_
  rw [List.getD_eq_getElem?_getD, List.getElem?_eq_getElem hk]
  rfl
theorem lst_ltr {o : List Nat} (ho : isPerm o) {k : Nat} (hk : k < o.length) : ltrW (lstW o) o k = 97 + numW o k := by
  unfold ltrW
  rw [List.getD_eq_getElem?_getD, lst_at (perm_lt ho hk), idx_at ho hk]
  rfl
theorem lst_TO {o : List Nat} (ho : isPerm o) : tOrd (lstW o) = o := by
  refine ((fits_iff ho (lst_len o).symm).mp fun k h1 h2 => ?_).symm
  unfold fitB
  obtain ⟨j, rfl⟩ : ∃ j, k = j + 1 := ⟨k - 1, by omega⟩
  rw [lst_ltr ho h2, show j + 1 - 1 = j by omega, lst_ltr ho (by omega), numW_step]
  by_cases c : j + 1 ∈ stpW o
  · simp [c]
  · simp [c]
end DL
set_option Elab.async false
set_option linter.all false
set_option maxRecDepth 100000
set_option maxHeartbeats 1000000
namespace DL
open PySem L2
theorem shr_grn (o : List Nat) (s : Nat) : shrW (grnW o s) = o := by
  unfold shrW grnW
  rw [List.filter_append, List.filter_cons_of_neg (by decide), List.filter_eq_self.mpr (fun a ha => by
    obtain ⟨x, _, rfl⟩ := List.mem_map.mp ha
    simp), List.filter_eq_self.mpr (fun a ha => by
    obtain ⟨x, _, rfl⟩ := List.mem_map.mp ha
    simp), ← List.map_append, List.take_append_drop, List.map_map]
  exact (List.map_congr_left (g := id) fun a _ => by simp).trans (List.map_id _)
theorem grn_zero {o : List Nat} {s : Nat} (hs : s ≤ o.length) : (grnW o s).idxOf 0 = s := by
  unfold grnW
  rw [List.idxOf_append, if_neg (fun z => by
    obtain ⟨x, _, e⟩ := List.mem_map.mp z
    omega)]
  simp
  omega
end DL
set_option Elab.async false
set_option linter.all false
set_option maxRecDepth 100000
set_option maxHeartbeats 1000000
namespace DL
open PySem L2
theorem allO_all : ∀ (n : Nat) {o : List Nat}, isPerm o → o.length = n → o ∈ allO n
  | 0, o, _, h => by
    rw [List.eq_nil_of_length_eq_zero h]
    exact List.mem_singleton.mpr rfl
  | n + 1, o, ho, h => by
    have e := lst_TO ho
    have ne : lstW o ≠ [] := fun z => by
      have := lst_len o
      rw [z] at this
      simp at this
      omega
    have g := grn_TO ne
    rw [e] at g
    have ll := lst_len o
    have lt := tOrd_len ((lstW o).drop 1)
    rw [List.length_drop] at lt
    have := less_le (lstW o)
    show o ∈ (allO n).flatMap fun o => (List.range (n + 1)).map fun s => grnW o s
    rw [List.mem_flatMap]
    exact ⟨_, allO_all n (tOrd_perm _) (by omega), List.mem_map.mpr ⟨lessW (lstW o), List.mem_range.mpr (by omega), g⟩⟩
end DL
set_option Elab.async false
set_option linter.all false
set_option maxRecDepth 100000
set_option maxHeartbeats 1000000
namespace DL
open PySem L2
end DL
set_option Elab.async false
set_option linter.all false
set_option maxRecDepth 100000
set_option maxHeartbeats 1000000
namespace DL
open PySem L2
theorem perm_goodT {o : List Nat} (ho : isPerm o) {j : Nat} (hj : j < o.length) : badO (nats o) j = false := by
  have hop : o[j]? = some o[j] := List.getElem?_eq_getElem hj
  have e : (nats o)[j]? = some (.int (o[j] : Nat)) := by
    unfold nats
    rw [List.getElem?_map, hop]
    rfl
  unfold badO
  rw [e, nats_take]
  show (!isPl (nats o).length (.int (o[j] : Nat)) || decide (natD (.int (o[j] : Nat)) ∈ (nats (o.take j)).map natD)) = false
  have m : (nats (o.take j)).map natD = o.take j := by
    unfold nats
    rw [List.map_map]
    exact (List.map_congr_left (g := id) fun a _ => by simp).trans (List.map_id _)
  rw [nats_len, isPl_nat, decide_eq_true (ho.lt (List.getElem_mem hj)), m, natD_int]
  have nin : o[j] ∉ o.take j := fun z => by
    obtain ⟨k, hk, ek⟩ := List.getElem_of_mem z
    rw [List.length_take] at hk
    rw [List.getElem_take] at ek
    have h1 := idx_of_get ho.nodup (List.getElem?_eq_getElem (show k < o.length by omega))
    have h2 := idx_of_get ho.nodup hop
    rw [ek] at h1
    omega
  rw [decide_eq_false nin]
  rfl
theorem ord_good {o : List Nat} (ho : isPerm o) (h1 : 1 ≤ o.length) (h2 : o.length ≤ 24) : isN (oErr (.tup (nats o))) = true := by
  rw [oErr_ok (fun z => by
    rcases z with z | z
    · have : (nats o).length = 0 := by rw [z]; rfl
      rw [nats_len] at this
      omega
    · rw [nats_len] at z
      omega) fun j hj => perm_goodT ho (by rwa [nats_len] at hj)]
  rfl
end DL
set_option Elab.async false
set_option linter.all false
set_option maxRecDepth 100000
set_option maxHeartbeats 4000000
namespace LW
open PySem L2 DL
def topS (i : Nat) : Stmt := PySem.Challenge.pw_tailranks_k15_whole_orders_grown_and_shr.main.body.getD i (.Pass ⟨0, 0, 0, 0⟩)
abbrev sStream : Stmt := topS 15
abbrev sDraw : Stmt := topS 16
theorem scStream : FnScope ["_law_script", "_law_cells", "_law_cell"] ["_law_script"] (defScope sStream) := ⟨rfl, rfl, rfl, by decide +kernel, rfl, by decide +kernel, by decide +kernel⟩
section
variable {P : Program} {w : World} {K : PySem.W.Frag} {mg : Str → Option Value} {base : Heap}
theorem ok_stream {f : Addr} {fd : FuncData} (F : Fun K "_law_stream" "_law_stream" sStream f fd) (ml : mg "len" = none) (ma : mg "abs" = none) : FnG P w K mg base 1 f fd ["_law_script"] (spStream K) := by
  refine fng_of F scStream (fun vs H Q E h => ?_) (fun cdv A outer s H vs Q E hr hgd h => ?_)
  · obtain ⟨a, ns, rfl, _⟩ := h
    rfl
  · obtain ⟨a, ns, rfl, hS, hlen, hQ⟩ := h
    refine ⟨_, PSs.nox (pss_cons (ps_setLc (i := 1) (own := [("_law_cell", 2)]) (g := gName 2) (tt := tYes) rfl scStream.nd rfl rfl (sw_true rfl rfl rfl (by decide +kernel)) (pi_list (pv 0))
        (blkOk_by (own := [("_law_cell", 2)]) (N := ["_law_script", "_law_cells", "_law_cell"]) (sc := defScope sStream) (by decide +kernel)) (fun _ _ _ _ _ => pg_name (i := 2) scStream.nd rfl (Or.inl rfl)) (fun _ _ _ _ _ => pts_nil)
        (fun _ _ _ _ _ => pe_callB call_abs (by rfl) ma (by decide +kernel) (pa_cons (pv 2) pa_nil)))
      (pss_one (ps_ret (pe_lst (pa_cons (pe_lc (own := [("_law_cell", 2)]) (g := gName 2) (tt := _) rfl scStream.nd (pi_list (pv 1))
          (blkOk_by (own := [("_law_cell", 2)]) (N := ["_law_script", "_law_cells", "_law_cell"]) (sc := defScope sStream) (by decide +kernel)) (fun _ _ _ _ _ => pg_name (i := 2) scStream.nd rfl (Or.inl rfl))
          (fun _ _ _ _ _ => pts_one (pt_cmpR op_ge (pv 2) (pe_op op_pow pe_int pe_int) (nomark _))) (fun _ _ _ _ _ => pv 2))
        (pa_cons (pe_op op_cat (pv 1) (pe_lst (pa_cons (pe_op op_add (pe_callB call_len_seq (by rfl) ml PySem.boot_len (pa_cons (pv 1) pa_nil)) pe_int) pa_nil))) (pa_cons pe_int pa_nil))))))), ?_⟩
    -- _law_cells
    refine ⟨.ref a, rfl, a, rfl, ⟨_, hS⟩, fun D hD => ?_⟩
    have hAD : ∀ o, H a = some o → a ≠ D := fun o e => ne_of_none e hD
    refine lc_list (K := K) (a := a) (xs := ns.map V.int) (fun i H1 => Same H H1 ∧ H1 D = some (.lst ((ns.take i).map fun n => V.int (if n < 0 then -n else n)))) ⟨same_new hD, upd_same⟩ (fun i H1 _ h => h.1.seq hS) (fun i x H1 hx h => ?_) (fun H1 h => ?_)
    · obtain ⟨j, rfl, hj⟩ := map_int_get hx
      refine ⟨rfl, iteT (B := Same H H1 ∧ H1 D = some (.lst ((ns.take (i + 1)).map fun n => V.int (if n < 0 then -n else n)))) ?_⟩
      refine ⟨.int j, rfl, j, rfl, _, h.2, ?_, ?_, ?_⟩
      · rw [List.length_map, List.length_take]
        exact Nat.lt_of_le_of_lt (Nat.min_le_right _ _) (small1000 (by omega))
      · intro b o e
        rw [upd_ne (show b ≠ D from ne_of_none e hD)]
        exact h.1 _ _ e
      · rw [upd_same, List.take_add_one, hj, List.map_append]
        rfl
    · obtain ⟨sm, hD1⟩ := h
      rw [List.length_map, List.take_length] at hD1
      generalize hcl : ns.map (fun n => if n < 0 then -n else n) = cells at hD1
      have hD2 : H1 D = some (.lst (cells.map V.int)) := by rw [hD1, ← hcl, List.map_map]; rfl
      have clen : cells.length = ns.length := by rw [← hcl, List.length_map]
      -- the large cells
      refine ⟨.ref D, rfl, D, rfl, ⟨_, .of hD2⟩, fun D2 hD3 => ?_⟩
      have dne : D ≠ D2 := ne_of_none hD2 hD3
      refine lc_list (K := K) (a := D) (xs := cells.map V.int) (fun i H2 => Same H1 H2 ∧ ∃ L : List Int, L.length ≤ i ∧ H2 D2 = some (.lst (L.map V.int))) ⟨same_new hD3, [], Nat.le_refl _, upd_same⟩ (fun i H2 _ h => .of (h.1 _ _ hD2)) (fun i x H2 hx h => ?_) (fun H2 h => ?_)
      · obtain ⟨sm2, L, hl, hL⟩ := h
        obtain ⟨j, rfl, hj⟩ := map_int_get hx
        have hi : i < cells.length := (List.getElem?_eq_some_iff.mp hj).1
        refine ⟨rfl, .int j, rfl, 10, 18, rfl, rfl, ⟨by decide, by decide, by decide⟩, j, _, rfl, rfl, _, rfl, ite2 (fun _ => ?_) (fun _ => ?_)⟩
        · refine ⟨.int j, rfl, _, hL, ?_, ?_, L ++ [j], ?_, ?_⟩
          · rw [List.length_map]
            exact small1000 (by omega)
          · intro b o e
            rw [upd_ne (show b ≠ D2 from ne_of_none e hD3)]
            exact sm2 _ _ e
          · rw [List.length_append, List.length_singleton]
            omega
          · rw [upd_same, List.map_append]
            rfl
        · exact ⟨sm2, L, by omega, hL⟩
      · obtain ⟨sm2, L, hl, hL⟩ := h
        have hD4 := sm2 _ _ hD2
        -- all cells
        refine ⟨.ref D, rfl, .ref D, rfl, D, _, rfl, .inl (.of hD4), _, 29, rfl, rfl, by show 1 ≤ sizeLine; decide, fun p np => ?_⟩
        have pD : D ≠ p := ne_of_none hD4 np
        have pD2 : D2 ≠ p := ne_of_none hL np
        refine ⟨D, p, _, _, rfl, rfl, (upd_ne pD).trans hD4, upd_same, ?_, fun c nc => ?_⟩
        · rw [List.length_map, clen]
          exact Nat.le_of_lt (small1000 (by show ns.length + 1 ≤ 1000; omega))
        have cD : D ≠ c := ne_of_none ((upd_ne pD).trans hD4) nc
        have cD2 : D2 ≠ c := ne_of_none ((upd_ne pD2).trans hL) nc
        have cp : p ≠ c := ne_of_none (o := .lst [V.int (((cells.map V.int).length : Nat) + 29)]) upd_same nc
        refine ⟨by show 3 ≤ sizeLine; decide, fun q nq => ?_⟩
        have sm3 := ((sm.trans sm2).trans (same_new (o := .lst [V.int (((cells.map V.int).length : Nat) + 29)]) np)).trans (same_new (o := .lst (cells.map V.int ++ [V.int (((cells.map V.int).length : Nat) + 29)])) nc)
        have hLc := (upd_ne (o := .lst (cells.map V.int ++ [V.int (((cells.map V.int).length : Nat) + 29)])) cD2).trans ((upd_ne (o := .lst [V.int (((cells.map V.int).length : Nat) + 29)]) pD2).trans hL)
        have q2 : D2 ≠ q := ne_of_none hLc nq
        have qc : c ≠ q := ne_of_none (o := .lst (cells.map V.int ++ [V.int (((cells.map V.int).length : Nat) + 29)])) upd_same nq
        refine hQ _ q D2 c L (cells ++ [(((cells.map V.int).length : Nat) : Int) + 29]) (sm3.trans (same_new nq)) (sm3.free nq) (sm.free hD3) ((sm.trans sm2).free ((same_new np).free nc)) (Ne.symm q2) (Ne.symm qc) cD2 upd_same ((upd_ne q2).trans hLc) ((upd_ne qc).trans ?_) (by simp)
        rw [upd_same, List.map_append]
        rfl
end
theorem scDraw : FnScope ["_law_stream_here", "_law_many", "_law_rest", "_law_turn", "_law_cell", "_law_mixed"] ["_law_stream_here", "_law_many"] (defScope sDraw) := ⟨rfl, rfl, rfl, by decide +kernel, rfl, by decide +kernel, by decide +kernel⟩
section
variable {P : Program} {w : World} {K : PySem.W.Frag} {mg : Str → Option Value} {base : Heap}
theorem ok_draw {f : Addr} {fd : FuncData} (F : Fun K "_law_draw" "_law_draw" sDraw f fd) (ml : mg "len" = none) : FnG P w K mg base 1 f fd ["_law_stream_here", "_law_many"] (liftSp K mg 2 dDraw) := by
  refine fng_of F scDraw (fun vs H Q E h => ?_) (fun cdv A outer s H vs Q E hr hgd h => ?_)
  · obtain ⟨W, ds, q, ex, _, _, r, hl, _⟩ := h
    rw [r.length, hl]
    rfl
  · obtain ⟨W, ds, q, ex, rfl, ok, r, hl, ⟨many, rfl, hm0, hm1, hg, hq⟩, hQ, hE⟩ := h
    have hml : many.natAbs.log2 < 9000 := Nat.lt_of_lt_of_le ((Nat.log2_lt (k := 60) (by omega)).mpr (by omega)) (by decide)
    have hu : (A.deeper (PyProof.Rows.envOfC "_law_draw" (defScope sDraw) s.heap.objs.size f cdv)).units + 64 < cLine := hr.units
    refine ⟨_, PSs.nox (pss_cons (ps_while PassesOwn.never (pt_cmpR (op_neD hu) (pe_ix ix_list (pv 0) pe_int (fun _ _ => rfl)) (pe_lst pa_nil) (nomark _))
        (pss_cons (ps_set (i := 2) scDraw.nd rfl (.inl rfl) (pe_ix ix_list (pe_ix ix_list (pv 0) pe_int (fun _ _ => rfl)) pe_int (fun _ _ => rfl)))
        (pss_cons (ps_if (pt_cmpR op_gt (pv 2) pe_int (nomark _))
          (pss_cons (ps_asg (pe_op op_fdivW (pv 2) (pv 1)) (pg_sub (pe_ix ix_list (pv 0) pe_int (fun _ _ => rfl)) pe_int set_list)) (pss_one (ps_ret (pe_op op_mod (pv 2) (pv 1))))) pss_nil)
        (pss_one (ps_expr (pe_bm PySem.F.plainAttrs_list PySem.F.slot_list_pop PySem.F.type_list_pop mt_popAt (pe_ix ix_list (pv 0) pe_int (fun _ _ => rfl)) (pa_cons pe_int pa_nil)))))))
      (pss_cons (ps_set (i := 3) scDraw.nd rfl (.inl rfl) (pe_op op_add (pe_ix ix_list (pv 0) pe_int (fun _ _ => rfl)) pe_int))
      (pss_cons (ps_asg (pv 3) (pg_sub (pv 0) pe_int set_list))
      (pss_cons (ps_set (i := 4) scDraw.nd rfl (.inl rfl) (pe_op op_mod (pe_ix ix_list (pe_ix ix_list (pv 0) pe_int (fun _ _ => rfl)) (pe_op op_mod (pv 3) (pe_callB call_len_seq (by rfl) ml PySem.boot_len (pa_cons (pe_ix ix_list (pv 0) pe_int (fun _ _ => rfl)) pa_nil))) (fun _ _ => rfl)) pe_int))
      (pss_cons (ps_set (i := 5) scDraw.nd rfl (.inl rfl) (pe_op op_mod (pe_op op_add (pe_op op_add (pe_op op_mul (pv 4) (pe_op op_add pe_int (pe_op op_mul pe_int (pv 3)))) (pe_op op_mul (pe_op op_mul pe_int (pv 3)) (pv 3))) pe_int) pe_int))
      (pss_one (ps_ret (pe_op op_mod (pe_op op_fdiv (pe_op op_mod (pe_op op_mul (pv 5) (pv 5)) pe_int) pe_int) (pv 1))))))))), ?_⟩
    obtain ⟨a, b, c, L, cs, m, h1, h2, h3, h4, h5, h6, h7, h8, h9⟩ := ok.gh.2 (Nat.le_trans (Nat.le_succ _) hg)
    obtain ⟨va, vm, rfl, ra, rm⟩ : ∃ va vm, vs = [va, vm] ∧ Rp K W.F W.R va (.ob 0) ∧ Rp K W.F W.R vm (.int many) := by
      cases r with
      | cons x t =>
        cases t with
        | cons y t =>
          cases t
          exact ⟨_, _, rfl, x, y⟩
    cases rm
    obtain rfl : va = .ref a := by
      cases ra with
      | ob e => rw [h1] at e; cases e; rfl
    have d0 : DrawAt K W W a b c L cs m := ⟨Go.refl W, ok, rfl, h1, h2, h3, h4, h5, h6, h7, h8, h9⟩
    refine ⟨fun n σ H => ∃ (W1 : Wd stg) (L : List Int) (y : Option V), W1.H = H ∧ n = L.length ∧ σ = [some (.ref a), some (.int many), y, none, none, none] ∧ DrawAt K W W1 a b c L cs m, ⟨_, W, L, none, rfl, rfl, rfl, d0⟩, ?_⟩
    rintro n σ H ⟨W1, L1, y, rfl, rfl, rfl, d⟩
    -- _law_stream_here[0] != []
    refine ⟨.ref a, rfl, a, _, 0, .ref b, rfl, rfl, .of d.ha, atI_nat (j := 0) rfl, Nat.zero_le _, fun p np => ?_⟩
    have d1 := d.new (o := .lst []) np
    have e1 : Dp K (upd W1.H p (.lst [])) (.ref b) (.list (L1.map PyData.int)) := .lst (.of d1.hb) (by
      clear d1 d
      induction L1 with
      | nil => exact .nil
      | cons x r ih => exact .cons (.int x) ih)
    have sh : SeqAt.shaped (.list (L1.map PyData.int)) = true := by
      have c1 : ∀ L : List Int, PyData.canLayAll0 (L.map PyData.int) = true := fun L => by
        induction L with
        | nil => rfl
        | cons x r ih => simp [PyData.canLayAll0, PyData.canLay0, ih]
      have c2 : ∀ L : List Int, PyData.depthAll (L.map PyData.int) = 0 := fun L => by
        induction L with
        | nil => rfl
        | cons x r ih => simp [PyData.depthAll, PyData.depth, ih]
      simp [SeqAt.shaped, PyData.canLay0, PyData.depth, c1, c2]
    refine ⟨.list (L1.map PyData.int), .list [], e1, .lst (.of upd_same) .nil, sh, by decide, _, rfl, ?_⟩
    cases L1 with
    | nil =>
      refine iteF ?_
      -- _law_turn = _law_stream_here[2] + 1
      refine ⟨.ref a, rfl, a, _, 2, .int m, rfl, rfl, .of d1.ha, atI_nat (j := 2) rfl, m, 1, rfl, rfl, ?_⟩
      -- _law_stream_here[2] = _law_turn
      refine ⟨.int (m + 1), rfl, .ref a, rfl, a, _, 2, 2, rfl, rfl, d1.ha, rfl, ?_⟩
      have hra : a ∈ (W1.new p (.lst [])).R := List.mem_of_getElem? d1.r0
      have hcn : c ≠ a := fun z => by
        have := d1.ok.rf a hra
        rw [← z, d1.hc] at this
        cases this
      have hc1 := d1.ok.sub _ _ d1.hc
      have go2 : Go W ((W1.new p (.lst [])).reg a (.lst [.ref b, .ref c, .int (m + 1)]) (W.g + 1)) := d1.go.trans (Go.reg' hra)
      have ok2 : Wok K ((W1.new p (.lst [])).reg a (.lst [.ref b, .ref c, .int (m + 1)]) (W.g + 1)) := by
        refine d1.ok.reg hra ⟨d1.ok.gh.1, fun hn => ⟨a, b, c, [], cs, m + 1, d1.r0, d1.r1, d1.ne, upd_same, (upd_ne d1.ne.symm).trans d1.hb, d1.hc, by have := d1.m0; omega, ?_, d1.cs0⟩⟩
        show m + 1 ≤ ((W.g : Nat) : Int) + 1
        have := d1.mn
        exact Int.add_le_add_right this 1
      have hA : (upd (upd W1.H p (.lst [])) a (.lst [.ref b, .ref c, .int (m + 1)])) a = some (.lst [.ref b, .ref c, .int (m + 1)]) := upd_same
      have hC : (upd (upd W1.H p (.lst [])) a (.lst [.ref b, .ref c, .int (m + 1)])) c = some (.lst (cs.map V.int)) := (upd_ne hcn).trans hc1
      have hm : m + 1 ≤ 2 ^ 60 := by
        have h1 := d1.mn
        have h2 : ((W.g : Nat) : Int) + 1 ≤ 2 ^ 60 := by
          have : ((W.g + 1 : Nat) : Int) ≤ ((2 ^ 60 : Nat) : Int) := Int.ofNat_le.mpr hg
          exact this
        omega
      have hm0' := d1.m0
      have clen : 0 < ((cs.map V.int).length : Int) := by
        rw [List.length_map]
        cases cs with
        | nil => exact absurd rfl d1.cs0
        | cons x r => rw [List.length_cons]; omega
      have ilt := Int.emod_lt_of_pos (m + 1) clen
      have ige := Int.emod_nonneg (m + 1) (show ((cs.map V.int).length : Int) ≠ 0 by omega)
      obtain ⟨j, hj⟩ := Int.eq_ofNat_of_zero_le ige
      have jlt : j < cs.length := by
        rw [List.length_map] at ilt
        rw [List.length_map] at hj
        omega
      have c0 := Int.emod_nonneg cs[j] (show (2147483587 : Int) ≠ 0 by decide)
      have c1 := Int.emod_lt_of_pos cs[j] (show (0 : Int) < 2147483587 by decide)
      have e64 : (2 : Int) ^ 64 = 18446744073709551616 := by decide
      have e60 : (2 : Int) ^ 60 = 1152921504606846976 := by decide
      have hix : atI (cs.map V.int) ((m + 1) % ((cs.map V.int).length : Int)) = some (.int cs[j]) := by
        rw [hj]
        exact atI_nat (by rw [List.getElem?_map, List.getElem?_eq_getElem jlt]; rfl)
      have c2 : -(2 ^ 64) < cs[j] % 2147483587 ∧ cs[j] % 2147483587 < 2 ^ 64 := ⟨by omega, by omega⟩
      have c3 : -(2 ^ 64) < m + 1 ∧ m + 1 < 2 ^ 64 := ⟨by omega, by omega⟩
      have d64 : ∀ y : Int, -(2 ^ 64) < y % 2147483647 ∧ y % 2147483647 < 2 ^ 64 := fun y => by
        have a1 := Int.emod_nonneg y (show (2147483647 : Int) ≠ 0 by decide)
        have a2 := Int.emod_lt_of_pos y (show (0 : Int) < 2147483647 by decide)
        exact ⟨by omega, by omega⟩
      -- _law_cell
      refine ⟨.ref a, rfl, a, _, 1, .ref c, rfl, rfl, .of hA, atI_nat (j := 1) rfl, .int (m + 1), rfl, .ref a, rfl, a, _, 1, .ref c, rfl, rfl, .of hA, atI_nat (j := 1) rfl, c, cs.map V.int, rfl, .inl (.of hC), ?_⟩
      refine ⟨m + 1, _, rfl, rfl, clen, c, cs.map V.int, _, .int cs[j], rfl, rfl, .of hC, hix, ?_⟩
      refine ⟨cs[j], 2147483587, rfl, rfl, (by decide : (0 : Int) < 2147483587), ?_⟩
      -- _law_mixed
      refine ⟨.int (cs[j] % 2147483587), rfl, .int (m + 1), rfl, _, m + 1, rfl, rfl, .inl ⟨by decide, by decide⟩, _, _, rfl, rfl, cs[j] % 2147483587, _, rfl, rfl, .inl c2, ?_⟩
      refine ⟨.int (m + 1), rfl, _, m + 1, rfl, rfl, .inl ⟨by decide, by decide⟩, .int (m + 1), rfl, _, m + 1, rfl, rfl, .inr c3, _, _, rfl, rfl, _, _, rfl, rfl, _, 2147483647, rfl, rfl, (by decide : (0 : Int) < 2147483647), ?_⟩
      refine ⟨_, rfl, _, rfl, _, _, rfl, rfl, .inl (d64 _), _, 2147483629, rfl, rfl, (by decide : (0 : Int) < 2147483629), _, 16, rfl, rfl, ⟨by decide, by decide⟩, .int many, rfl, _, many, rfl, rfl, hm0, ?_⟩
      exact hQ (.int _) (.int _) _ go2 ok2 (.int _) (hq _ (Int.emod_nonneg _ (by omega)) (Int.emod_lt_of_pos _ hm0))
    | cons x L1 =>
      refine iteT ⟨fun σ H => ∃ (W1 : Wd stg) (y : Option V), W1.H = H ∧ σ = [some (.ref a), some (.int many), y, none, none, none] ∧ DrawAt K W W1 a b c L1 cs m, ?_, ?_⟩
      · rintro σ' H' ⟨W3, y3, e1, e2, e3⟩
        exact ⟨L1.length, by rw [List.length_cons]; omega, W3, L1, y3, e1, rfl, e2, e3⟩
      have ix0 : ixN ((x :: L1).map V.int).length 0 = some 0 := by
        unfold ixN
        rw [if_pos (by decide), if_pos (by rw [List.length_map, List.length_cons]; omega)]
        rfl
      have sx0 := (ixN_seq ix0).1
      -- _law_rest = _law_stream_here[0][0]
      refine ⟨.ref a, rfl, a, _, 0, .ref b, rfl, rfl, .of d1.ha, atI_nat (j := 0) rfl, b, _, 0, .int x, rfl, rfl, .of d1.hb, atI_nat (j := 0) rfl, ?_⟩
      refine ⟨.int x, rfl, x, 0, rfl, rfl, _, rfl, ite2 (fun hx => ?_) (fun hx => ?_)⟩
      · -- _law_stream_here[0][0] = _law_rest // _law_many
        refine ⟨.int x, rfl, .int many, rfl, x, many, rfl, rfl, ⟨hm0, hml⟩, .ref a, rfl, a, _, 0, .ref b, rfl, rfl, .of d1.ha, atI_nat (j := 0) rfl, b, _, 0, 0, rfl, rfl, d1.hb, ix0, ?_⟩
        refine ⟨.int x, rfl, .int many, rfl, x, many, rfl, rfl, hm0, ?_⟩
        have d2 := d1.setB (x / many :: L1)
        have le1 : ((W1.new p (.lst [])).reg b (.lst ((x / many :: L1).map V.int)) (W1.new p (.lst [])).g).g ≤ W.g + 1 := by
          show W1.g ≤ W.g + 1
          rw [show W1.g = W.g from d.g]
          exact Nat.le_succ _
        exact hQ (.int (x % many)) (.int (x % many)) _ (d2.go.trans (go_more (n := W.g + 1))) (wok_more d2.ok le1) (.int _) (hq _ (Int.emod_nonneg _ (by omega)) (Int.emod_lt_of_pos _ hm0))
      · -- _law_stream_here[0].pop(0)
        refine ⟨.ref a, rfl, a, _, 0, .ref b, rfl, rfl, .of d1.ha, atI_nat (j := 0) rfl, .inl ⟨rfl, _, .of d1.hb⟩, b, _, 0, 0, .int x, rfl, rfl, d1.hb, by decide, by decide, sx0, rfl, ?_⟩
        exact ⟨_, some (.int x), rfl, rfl, d1.setB L1⟩
end
abbrev s_is_integer : Stmt := topS 6
abbrev s_ranks_in : Stmt := topS 7
abbrev s_order_error : Stmt := topS 9
abbrev s_is_order : Stmt := topS 10
abbrev s_ranks_of : Stmt := topS 11
abbrev s_shrunk : Stmt := topS 12
abbrev s_grown : Stmt := topS 13
abbrev s_l_pick : Stmt := topS 17
abbrev s_l_drawn : Stmt := topS 18
abbrev s_l_tails : Stmt := topS 19
abbrev s_l_by_tails : Stmt := topS 20
abbrev s_l_ordered : Stmt := topS 21
abbrev s_l_all_orders : Stmt := topS 22
abbrev s_law : Stmt := topS 23
theorem sc_is_integer : FnScope ["value", "low", "high"] ["value", "low", "high"] (defScope s_is_integer) := ⟨rfl, rfl, rfl, by decide +kernel, rfl, by decide +kernel, by decide +kernel⟩
def w_is_integer (ex : Exn → stg.G → Prop) : SW stg :=
  (wRet (wAndV (wIsi "int" (wVar 0)) (wAndV (wNotV (wIsi "bool" (wVar 0))) (wChain oLe oLe (wVar 1) (wVar 0) (wVar 2)))))
theorem ok_is_integer {P : Program} {w : World} {K : PySem.W.Frag} {mg : Str → Option Value} {base : Heap} {f : Addr} {fd : FuncData} (F : Fun K "is_integer" "is_integer" s_is_integer f fd) (g : mg "is_integer" = some (.ref f)) (m_bool : mg "bool" = none) (m_int : mg "int" = none) (m_isinstance : mg "isinstance" = none)
    (hp : ∀ (ds : List D) (g : Nat) (q : D → Nat → Prop) (ex : Exn → Nat → Prop), ds.length = 3 → d_is_integer ds g q ex → w_is_integer ex (kEndS q) (startD ["value", "low", "high"] ds) g) : FnB P w K mg base 1 "is_integer" ["value", "low", "high"] (liftSp K mg 3 d_is_integer) :=
  fnB_of F g (fnS_of (wb := w_is_integer) F sc_is_integer (fun cdv A outer s H E W0 ex hr hgd tk => (dss_one (ds_ret (de_and (de_isi kit_int (DE.p (de_var (pv 0))) m_isinstance m_int (by decide +kernel)) (de_and (de_not (de_isi kit_bool (DE.p (de_var (pv 0))) m_isinstance m_bool (by decide +kernel))) (de_one (de_chain opd_le opd_le (DE.p (de_var (pv 1))) (DE.p (de_var (pv 0))) (DE.p (de_var (pv 2)))))))))) hp) (F.binds (ps := ["value", "low", "high"]) fun _ _ _ _ _ _ us hl => match us, hl with | [_, _, _], _ => rfl)
theorem sc_ranks_in : FnScope ["order", "ranks", "rank", "place"] ["order"] (defScope s_ranks_in) := ⟨rfl, rfl, rfl, by decide +kernel, rfl, by decide +kernel, by decide +kernel⟩
def w_ranks_in (ex : Exn → stg.G → Prop) : SW stg :=
  (wSeq (wSet 1 (wO (wBinN oRep (wL (wLst (wACons (wC (.int 0)) wANil))) (wCB cLen (wACons (wVar 0) wANil)))))
    (wSeq (wFor (wEnum (wVar 0)) (gwT 2 (gwCons (gwN 2) (gwCons (gwN 3) gwNil))) (wStore 1 (wVar 2) (wVar 3)))
    (wRet (wCB cTuple (wACons (wPk 1) wANil)))))
theorem ok_ranks_in {P : Program} {w : World} {K : PySem.W.Frag} {mg : Str → Option Value} {base : Heap} {f : Addr} {fd : FuncData} (F : Fun K "ranks_in" "ranks_in" s_ranks_in f fd) (g : mg "ranks_in" = some (.ref f)) (m_enumerate : mg "enumerate" = none) (m_len : mg "len" = none) (m_tuple : mg "tuple" = none)
    (hp : ∀ (ds : List D) (g : Nat) (q : D → Nat → Prop) (ex : Exn → Nat → Prop), ds.length = 1 → d_ranks_in ds g q ex → w_ranks_in ex (kEndS q) (startD ["order", "ranks", "rank", "place"] ds) g) : FnB P w K mg base 1 "ranks_in" ["order"] (liftSp K mg 1 d_ranks_in) :=
  fnB_of F g (fnS_of (wb := w_ranks_in) F sc_ranks_in (fun cdv A outer s H E W0 ex hr hgd tk => (dss_cons (ds_set (i := 1) sc_ranks_in.nd rfl (.inl rfl) (DN.v (dn_op opn_rep (DN.p (dn_lst (da_cons de_int da_nil))) (DE.p (de_callB calld_len (by rfl) m_len (by decide +kernel) (dap_cons (DE.p (de_var (pv 0))) dap_nil))))))
      (dss_cons (ds_for (passes_of rfl) rfl (di_enum m_enumerate (de_var (pv 0))) (dg_tup rfl (dgs_cons (dg_name (pg_name (i := 2) sc_ranks_in.nd rfl (Or.inl rfl))) (dgs_cons (dg_name (pg_name (i := 3) sc_ranks_in.nd rfl (Or.inl rfl))) dgs_nil))) (dss_one (ds_store (i := 1) (pv 1) (de_var (pv 2)) (de_var (pv 3)))))
      (dss_one (ds_ret (de_callTy calld_tuple (by rfl) m_tuple (by decide +kernel) (dap_cons (dp_own (pv 1)) dap_nil))))))) hp) (F.binds (ps := ["order"]) fun _ _ _ _ _ _ us hl => match us, hl with | [_], _ => rfl)
theorem sc_order_error : FnScope ["value", "known", "index", "item"] ["value"] (defScope s_order_error) := ⟨rfl, rfl, rfl, by decide +kernel, rfl, by decide +kernel, by decide +kernel⟩
def w_order_error (ex : Exn → stg.G → Prop) : SW stg :=
  (wSeq (wIfS (wOr (wNot (wB (wIsi "tuple" (wVar 0)))) (wNot (wB (wChain oLe oLe (wC (.int 1)) (wCB cLen (wACons (wVar 0) wANil)) (wC (.int 24)))))) (wRet (wTup (wACons (wC .non) (wACons (wC (.str [111, 114, 100, 101, 114])) wANil)))) wNext)
    (wSeq (wSet 1 (wO (wBinN oRep (wL (wLst (wACons (wC (.bl false)) wANil))) (wCB cLen (wACons (wVar 0) wANil)))))
    (wSeq (wFor (wEnum (wVar 0)) (gwT 2 (gwCons (gwN 2) (gwCons (gwN 3) gwNil))) (wSeq (wIfS (wOr (wNot (wB (wCallB 3 d_is_integer (wACons (wVar 3) (wACons (wC (.int 0)) (wACons (wBin oSub (wCB cLen (wACons (wVar 0) wANil)) (wC (.int 1))) wANil))) (xk ex)))) (wB (wBin oIx (wPk 1) (wVar 3)))) (wRet (wTup (wACons (wVar 2) (wACons (wC (.str [112, 108, 97, 99, 101])) wANil)))) wNext)
    (wStore 1 (wC (.bl true)) (wVar 3))))
    (wRet (wC .non)))))
theorem ok_order_error {P : Program} {w : World} {K : PySem.W.Frag} {mg : Str → Option Value} {base : Heap} {f : Addr} {fd : FuncData} (F : Fun K "order_error" "order_error" s_order_error f fd) (g : mg "order_error" = some (.ref f)) (F_is_integer : FnB P w K mg base 1 "is_integer" ["value", "low", "high"] (liftSp K mg 3 d_is_integer)) (m_enumerate : mg "enumerate" = none) (m_isinstance : mg "isinstance" = none) (m_len : mg "len" = none) (m_tuple : mg "tuple" = none) (c_MAX_WORD : GlI (mg "MAX_WORD") (24))
    (hp : ∀ (ds : List D) (g : Nat) (q : D → Nat → Prop) (ex : Exn → Nat → Prop), ds.length = 1 → d_order_error ds g q ex → w_order_error ex (kEndS q) (startD ["value", "known", "index", "item"] ds) g) : FnB P w K mg base 2 "order_error" ["value"] (liftSp K mg 1 d_order_error) :=
  fnB_of F g (fnS_of (wb := w_order_error) F sc_order_error (fun cdv A outer s H E W0 ex hr hgd tk => (dss_cons (ds_if (DW.t (dw_or (dt_not (dt_val (de_isi kit_tuple (DE.p (de_var (pv 0))) m_isinstance m_tuple (by decide +kernel)))) (dw_or1 (dt_not (dt_chain opd_le opd_le (DE.p de_int) (DE.p (de_callB calld_len (by rfl) m_len (by decide +kernel) (dap_cons (DE.p (de_var (pv 0))) dap_nil))) (DE.p (de_glI c_MAX_WORD))))))) (dss_one (ds_ret (de_tup (da_cons de_non (da_cons (de_str [111, 114, 100, 101, 114]) da_nil))))) dss_nil)
      (dss_cons (ds_set (i := 1) sc_order_error.nd rfl (.inl rfl) (DN.v (dn_op opn_rep (DN.p (dn_lst (da_cons de_bl da_nil))) (DE.p (de_callB calld_len (by rfl) m_len (by decide +kernel) (dap_cons (DE.p (de_var (pv 0))) dap_nil))))))
      (dss_cons (ds_for (passes_of rfl) rfl (di_enum m_enumerate (de_var (pv 0))) (dg_tup rfl (dgs_cons (dg_name (pg_name (i := 2) sc_order_error.nd rfl (Or.inl rfl))) (dgs_cons (dg_name (pg_name (i := 3) sc_order_error.nd rfl (Or.inl rfl))) dgs_nil))) (dss_cons (ds_if (DW.t (dw_or (dt_not (dt_val (de_callF F_is_integer hgd hr tk (da_cons (de_var (pv 3)) (da_cons de_int (da_cons (de_op opd_sub (DE.p (de_callB calld_len (by rfl) m_len (by decide +kernel) (dap_cons (DE.p (de_var (pv 0))) dap_nil))) (DE.p de_int)) da_nil)))))) (dw_or1 (dt_val (de_ix (dp_own (pv 1)) (DE.p (de_var (pv 3))) (fun _ _ => rfl)))))) (dss_one (ds_ret (de_tup (da_cons (de_var (pv 2)) (da_cons (de_str [112, 108, 97, 99, 101]) da_nil))))) dss_nil)
      (dss_one (ds_store (i := 1) (pv 1) de_bl (de_var (pv 3))))))
      (dss_one (ds_ret de_non)))))) hp) (F.binds (ps := ["value"]) fun _ _ _ _ _ _ us hl => match us, hl with | [_], _ => rfl)
theorem sc_is_order : FnScope ["value"] ["value"] (defScope s_is_order) := ⟨rfl, rfl, rfl, by decide +kernel, rfl, by decide +kernel, by decide +kernel⟩
def w_is_order (ex : Exn → stg.G → Prop) : SW stg :=
  (wRet (wBin oIsN (wCallB 1 d_order_error (wACons (wVar 0) wANil) (xk ex)) (wC .non)))
theorem ok_is_order {P : Program} {w : World} {K : PySem.W.Frag} {mg : Str → Option Value} {base : Heap} {f : Addr} {fd : FuncData} (F : Fun K "is_order" "is_order" s_is_order f fd) (g : mg "is_order" = some (.ref f)) (F_order_error : FnB P w K mg base 2 "order_error" ["value"] (liftSp K mg 1 d_order_error))
    (hp : ∀ (ds : List D) (g : Nat) (q : D → Nat → Prop) (ex : Exn → Nat → Prop), ds.length = 1 → d_is_order ds g q ex → w_is_order ex (kEndS q) (startD ["value"] ds) g) : FnB P w K mg base 3 "is_order" ["value"] (liftSp K mg 1 d_is_order) :=
  fnB_of F g (fnS_of (wb := w_is_order) F sc_is_order (fun cdv A outer s H E W0 ex hr hgd tk => (dss_one (ds_ret (de_cmp opd_isN (DE.p (de_callF F_order_error hgd hr tk (da_cons (de_var (pv 0)) da_nil))) (DE.p de_non) (nomark _))))) hp) (F.binds (ps := ["value"]) fun _ _ _ _ _ _ us hl => match us, hl with | [_], _ => rfl)
theorem sc_ranks_of : FnScope ["order"] ["order"] (defScope s_ranks_of) := ⟨rfl, rfl, rfl, by decide +kernel, rfl, by decide +kernel, by decide +kernel⟩
def w_ranks_of (ex : Exn → stg.G → Prop) : SW stg :=
  (wRet (wCallB 1 d_ranks_in (wACons (wVar 0) wANil) (xk ex)))
theorem ok_ranks_of {P : Program} {w : World} {K : PySem.W.Frag} {mg : Str → Option Value} {base : Heap} {f : Addr} {fd : FuncData} (F : Fun K "ranks_of" "ranks_of" s_ranks_of f fd) (g : mg "ranks_of" = some (.ref f)) (F_ranks_in : FnB P w K mg base 1 "ranks_in" ["order"] (liftSp K mg 1 d_ranks_in))
    (hp : ∀ (ds : List D) (g : Nat) (q : D → Nat → Prop) (ex : Exn → Nat → Prop), ds.length = 1 → d_ranks_of ds g q ex → w_ranks_of ex (kEndS q) (startD ["order"] ds) g) : FnB P w K mg base 2 "ranks_of" ["order"] (liftSp K mg 1 d_ranks_of) :=
  fnB_of F g (fnS_of (wb := w_ranks_of) F sc_ranks_of (fun cdv A outer s H E W0 ex hr hgd tk => (dss_one (ds_ret (de_callF F_ranks_in hgd hr tk (da_cons (de_var (pv 0)) da_nil))))) hp) (F.binds (ps := ["order"]) fun _ _ _ _ _ _ us hl => match us, hl with | [_], _ => rfl)
theorem sc_shrunk : FnScope ["order", "place"] ["order"] (defScope s_shrunk) := ⟨rfl, rfl, rfl, by decide +kernel, rfl, by decide +kernel, by decide +kernel⟩
def w_shrunk (ex : Exn → stg.G → Prop) : SW stg :=
  (wRet (wCB cTuple (wACons (wL (wLc (wItems (wVar 0)) (gwN 1) (wB (wBin oGt (wVar 1) (wC (.int 0)))) (wBin oSub (wVar 1) (wC (.int 1))) [1])) wANil)))
theorem ok_shrunk {P : Program} {w : World} {K : PySem.W.Frag} {mg : Str → Option Value} {base : Heap} {f : Addr} {fd : FuncData} (F : Fun K "shrunk" "shrunk" s_shrunk f fd) (g : mg "shrunk" = some (.ref f)) (m_tuple : mg "tuple" = none)
    (hp : ∀ (ds : List D) (g : Nat) (q : D → Nat → Prop) (ex : Exn → Nat → Prop), ds.length = 1 → d_shrunk ds g q ex → w_shrunk ex (kEndS q) (startD ["order", "place"] ds) g) : FnB P w K mg base 1 "shrunk" ["order"] (liftSp K mg 1 d_shrunk) :=
  fnB_of F g (fnS_of (wb := w_shrunk) F sc_shrunk (fun cdv A outer s H E W0 ex hr hgd tk => (dss_one (ds_ret (de_callTy calld_tuple (by rfl) m_tuple (by decide +kernel) (dap_cons (DN.p (dn_lc (own := [("place", 1)]) rfl sc_shrunk.nd (di_seq (de_var (pv 0))) (blkOk_by (own := [("place", 1)]) (N := ["order", "place"]) (sc := defScope s_shrunk) (by decide +kernel)) (by decide) (fun _ _ _ _ _ => (dg_name (pg_name (i := 1) sc_shrunk.nd rfl (Or.inl rfl)))) (fun _ _ _ _ _ => (dts_one (dt_cmp opd_gt (DE.p (de_var (pv 1))) (DE.p de_int) (nomark _)))) (fun _ _ _ _ _ => (de_op opd_sub (DE.p (de_var (pv 1))) (DE.p de_int))))) dap_nil))))) hp) (F.binds (ps := ["order"]) fun _ _ _ _ _ _ us hl => match us, hl with | [_], _ => rfl)
theorem sc_grown : FnScope ["order", "index", "moved", "place"] ["order", "index"] (defScope s_grown) := ⟨rfl, rfl, rfl, by decide +kernel, rfl, by decide +kernel, by decide +kernel⟩
def w_grown (ex : Exn → stg.G → Prop) : SW stg :=
  (wSeq (wIfS (wNot (wB (wCallB 3 d_is_integer (wACons (wVar 1) (wACons (wC (.int 0)) (wACons (wCB cLen (wACons (wVar 0) wANil)) wANil))) (xk ex)))) (wRaise "NoIndex" "value" (wVar 1) (xk ex)) wNext)
    (wSeq (wIfS (wB (wBin oEq (wCB cLen (wACons (wVar 0) wANil)) (wC (.int 24)))) (wRaise "TooLong" "limit" (wC (.int 24)) (xk ex)) wNext)
    (wSeq (wSet 2 (wI (wL (wLc (wItems (wVar 0)) (gwN 3) wYes (wBin oAdd (wVar 3) (wC (.int 1))) [3]))))
    (wRet (wTup (wAStar (wL (wSlN (wVar 2) wONone (wOSome (wVar 1)))) (wACons (wC (.int 0)) (wAStar (wL (wSlN (wVar 2) (wOSome (wVar 1)) wONone)) wANil))))))))
theorem ok_grown {P : Program} {w : World} {K : PySem.W.Frag} {mg : Str → Option Value} {base : Heap} {f : Addr} {fd : FuncData} (F : Fun K "grown" "grown" s_grown f fd) (g : mg "grown" = some (.ref f)) (F_is_integer : FnB P w K mg base 1 "is_integer" ["value", "low", "high"] (liftSp K mg 3 d_is_integer)) (m_len : mg "len" = none) (c_MAX_WORD : GlI (mg "MAX_WORD") (24)) (xr_NoIndex : RaisesF K "NoIndex" "value") (xr_TooLong : RaisesF K "TooLong" "limit")
    (hp : ∀ (ds : List D) (g : Nat) (q : D → Nat → Prop) (ex : Exn → Nat → Prop), ds.length = 2 → d_grown ds g q ex → w_grown ex (kEndS q) (startD ["order", "index", "moved", "place"] ds) g) : FnB P w K mg base 2 "grown" ["order", "index"] (liftSp K mg 2 d_grown) :=
  fnB_of F g (fnS_of (wb := w_grown) F sc_grown (fun cdv A outer s H E W0 ex hr hgd tk => (dss_cons (ds_if (dt_not (dt_val (de_callF F_is_integer hgd hr tk (da_cons (de_var (pv 1)) (da_cons de_int (da_cons (de_callB calld_len (by rfl) m_len (by decide +kernel) (dap_cons (DE.p (de_var (pv 0))) dap_nil)) da_nil)))))) (dss_one (ds_raise xr_NoIndex rfl hr tk (de_var (pv 1)))) dss_nil)
      (dss_cons (ds_if (dt_cmp (opd_eq hr.units) (DE.p (de_callB calld_len (by rfl) m_len (by decide +kernel) (dap_cons (DE.p (de_var (pv 0))) dap_nil))) (DE.p (de_glI c_MAX_WORD)) (nomark _)) (dss_one (ds_raise xr_TooLong rfl hr tk (de_glI c_MAX_WORD))) dss_nil)
      (dss_cons (ds_setLcI (i := 2) (own := [("place", 3)]) rfl sc_grown.nd rfl rfl (sw_true rfl rfl rfl (by decide +kernel)) (di_seq (de_var (pv 0))) (blkOk_by (own := [("place", 3)]) (N := ["order", "index", "moved", "place"]) (sc := defScope s_grown) (by decide +kernel)) (by decide) (fun _ _ _ _ _ => (dg_name (pg_name (i := 3) sc_grown.nd rfl (Or.inl rfl)))) (fun _ _ _ _ _ => dts_nil) (fun _ _ _ _ _ => (de_op opd_add (DE.p (de_var (pv 3))) (DE.p de_int))))
      (dss_one (ds_ret (de_tup (da_star (DN.p (dn_slice (DE.p (de_var (pv 2))) do_none (do_some (de_var (pv 1))))) (da_cons de_int (da_star (DN.p (dn_slice (DE.p (de_var (pv 2))) (do_some (de_var (pv 1))) do_none)) da_nil)))))))))) hp) (F.binds (ps := ["order", "index"]) fun _ _ _ _ _ _ us hl => match us, hl with | [_, _], _ => rfl)
theorem sc_l_pick : FnScope ["_law_stream_here", "_law_items"] ["_law_stream_here", "_law_items"] (defScope s_l_pick) := ⟨rfl, rfl, rfl, by decide +kernel, rfl, by decide +kernel, by decide +kernel⟩
def w_l_pick (ex : Exn → stg.G → Prop) : SW stg :=
  (wRet (wBin oIx (wVar 1) (wCallB 2 d_l_draw (wACons (wVar 0) (wACons (wCB cLen (wACons (wVar 1) wANil)) wANil)) (xk ex))))
theorem ok_l_pick {P : Program} {w : World} {K : PySem.W.Frag} {mg : Str → Option Value} {base : Heap} {f : Addr} {fd : FuncData} (F : Fun K "_law_pick" "_law_pick" s_l_pick f fd) (g : mg "_law_pick" = some (.ref f)) (F_l_draw : FnB P w K mg base 1 "_law_draw" ["_law_stream_here", "_law_many"] (liftSp K mg 2 d_l_draw)) (m_len : mg "len" = none)
    (hp : ∀ (ds : List D) (g : Nat) (q : D → Nat → Prop) (ex : Exn → Nat → Prop), ds.length = 2 → d_l_pick ds g q ex → w_l_pick ex (kEndS q) (startD ["_law_stream_here", "_law_items"] ds) g) : FnB P w K mg base 2 "_law_pick" ["_law_stream_here", "_law_items"] (liftSp K mg 2 d_l_pick) :=
  fnB_of F g (fnS_of (wb := w_l_pick) F sc_l_pick (fun cdv A outer s H E W0 ex hr hgd tk => (dss_one (ds_ret (de_ix (DE.p (de_var (pv 1))) (DE.p (de_callF F_l_draw hgd hr tk (da_cons (de_var (pv 0)) (da_cons (de_callB calld_len (by rfl) m_len (by decide +kernel) (dap_cons (DE.p (de_var (pv 1))) dap_nil)) da_nil)))) (fun _ _ => rfl))))) hp) (F.binds (ps := ["_law_stream_here", "_law_items"]) fun _ _ _ _ _ _ us hl => match us, hl with | [_, _], _ => rfl)
theorem sc_l_drawn : FnScope ["_law_stream_here", "_law_most", "_law_size", "_law_letters", "_law_found", "_law_k", "_law_many"] ["_law_stream_here", "_law_most"] (defScope s_l_drawn) := ⟨rfl, rfl, rfl, by decide +kernel, rfl, by decide +kernel, by decide +kernel⟩
def w_l_drawn (ex : Exn → stg.G → Prop) : SW stg :=
  (wSeq (wSet 2 (wI (wBin oAdd (wC (.int 1)) (wCallB 2 d_l_draw (wACons (wVar 0) (wACons (wVar 1) wANil)) (xk ex)))))
    (wSeq (wSet 3 (wI (wCallB 2 d_l_pick (wACons (wVar 0) (wACons (wL (wLst (wACons (wC (.str [97])) (wACons (wC (.str [97, 98])) (wACons (wC (.str [97, 98, 99])) (wACons (wC (.str [97, 122])) (wACons (wC (.str [97, 97, 98])) (wACons (wC (.str [97, 98, 99, 100, 101, 102, 103, 104, 105, 106, 107, 108, 109, 110, 111, 112, 113, 114, 115, 116, 117, 118, 119, 120, 121, 122])) wANil)))))))) wANil)) (xk ex))))
    (wSeq (wSet 4 (wO (wLc (wRng1 (wVar 2)) (gwN 5) wYes (wCallB 2 d_l_pick (wACons (wVar 0) (wACons (wVar 3) wANil)) xno) [5])))
    (wSeq (wIfS (wB (wBin oEq (wCallB 2 d_l_draw (wACons (wVar 0) (wACons (wC (.int 3)) wANil)) (xk ex)) (wC (.int 0)))) (wSeq (wSet 6 (wI (wBin oAdd (wC (.int 1)) (wCallB 2 d_l_draw (wACons (wVar 0) (wACons (wCB cMin2 (wACons (wVar 2) (wACons (wC (.int 5)) wANil))) wANil)) (xk ex)))))
    (wSeq (wSet 4 (wO (wLc (wRng1 (wVar 2)) (gwN 5) wYes (wBin oIx (wPk 4) (wBin oMod (wVar 5) (wVar 6))) [5])))
    (wIfS (wB (wBin oEq (wCallB 2 d_l_draw (wACons (wVar 0) (wACons (wC (.int 2)) wANil)) (xk ex)) (wC (.int 0)))) (wStore 4 (wCallB 2 d_l_pick (wACons (wVar 0) (wACons (wC (.str [97, 98, 122])) wANil)) (xk ex)) (wCallB 2 d_l_draw (wACons (wVar 0) (wACons (wVar 2) wANil)) (xk ex))) wNext))) wNext)
    (wRet (wJoin (wC (.str [])) (wPk 4)))))))
theorem ok_l_drawn {P : Program} {w : World} {K : PySem.W.Frag} {mg : Str → Option Value} {base : Heap} {f : Addr} {fd : FuncData} (F : Fun K "_law_drawn" "_law_drawn" s_l_drawn f fd) (g : mg "_law_drawn" = some (.ref f)) (F_l_draw : FnB P w K mg base 1 "_law_draw" ["_law_stream_here", "_law_many"] (liftSp K mg 2 d_l_draw)) (F_l_pick : FnB P w K mg base 2 "_law_pick" ["_law_stream_here", "_law_items"] (liftSp K mg 2 d_l_pick)) (m_min : mg "min" = none) (m_range : mg "range" = none)
    (hp : ∀ (ds : List D) (g : Nat) (q : D → Nat → Prop) (ex : Exn → Nat → Prop), ds.length = 2 → d_l_drawn ds g q ex → w_l_drawn ex (kEndS q) (startD ["_law_stream_here", "_law_most", "_law_size", "_law_letters", "_law_found", "_law_k", "_law_many"] ds) g) : FnB P w K mg base 3 "_law_drawn" ["_law_stream_here", "_law_most"] (liftSp K mg 2 d_l_drawn) :=
  fnB_of F g (fnS_of (wb := w_l_drawn) F sc_l_drawn (fun cdv A outer s H E W0 ex hr hgd tk => (dss_cons (ds_set (i := 2) sc_l_drawn.nd rfl (.inl rfl) (DE.v (de_op opd_add (DE.p de_int) (DE.p (de_callF F_l_draw hgd (hr.mono (by decide)) tk (da_cons (de_var (pv 0)) (da_cons (de_var (pv 1)) da_nil)))))))
      (dss_cons (ds_set (i := 3) sc_l_drawn.nd rfl (.inr rfl) (DE.v (de_callF F_l_pick hgd hr tk (da_cons (de_var (pv 0)) (da_cons (DN.fr (dn_lst (da_cons (de_str [97]) (da_cons (de_str [97, 98]) (da_cons (de_str [97, 98, 99]) (da_cons (de_str [97, 122]) (da_cons (de_str [97, 97, 98]) (da_cons (de_str [97, 98, 99, 100, 101, 102, 103, 104, 105, 106, 107, 108, 109, 110, 111, 112, 113, 114, 115, 116, 117, 118, 119, 120, 121, 122]) da_nil)))))))) da_nil)))))
      (dss_cons (ds_set (i := 4) sc_l_drawn.nd rfl (.inr rfl) (DN.v (dn_lc (own := [("_law_k", 5)]) rfl sc_l_drawn.nd (di_range1 m_range (de_var (pv 2))) (blkOk_by (own := [("_law_k", 5)]) (N := ["_law_stream_here", "_law_most", "_law_size", "_law_letters", "_law_found", "_law_k", "_law_many"]) (sc := defScope s_l_drawn) (by decide +kernel)) (by decide) (fun _ _ _ _ _ => (dg_name (pg_name (i := 5) sc_l_drawn.nd rfl (Or.inl rfl)))) (fun _ _ _ _ _ => dts_nil) (fun _ _ _ _ _ => (de_callF F_l_pick hgd hr takesD_blk (da_cons (de_var (pv 0)) (da_cons (de_var (pv 3)) da_nil)))))))
      (dss_cons (ds_if (dt_cmp (opd_eq hr.units) (DE.p (de_callF F_l_draw hgd (hr.mono (by decide)) tk (da_cons (de_var (pv 0)) (da_cons de_int da_nil)))) (DE.p de_int) (nomark _)) (dss_cons (ds_set (i := 6) sc_l_drawn.nd rfl (.inr rfl) (DE.v (de_op opd_add (DE.p de_int) (DE.p (de_callF F_l_draw hgd (hr.mono (by decide)) tk (da_cons (de_var (pv 0)) (da_cons (de_callB (calld_min2 rfl) (by rfl) m_min (by decide +kernel) (dap_cons (DE.p (de_var (pv 2))) (dap_cons (DE.p de_int) dap_nil))) da_nil)))))))
      (dss_cons (ds_set (i := 4) sc_l_drawn.nd rfl (.inr rfl) (DN.v (dn_lc (own := [("_law_k", 5)]) rfl sc_l_drawn.nd (di_range1 m_range (de_var (pv 2))) (blkOk_by (own := [("_law_k", 5)]) (N := ["_law_stream_here", "_law_most", "_law_size", "_law_letters", "_law_found", "_law_k", "_law_many"]) (sc := defScope s_l_drawn) (by decide +kernel)) (by decide) (fun _ _ _ _ _ => (dg_name (pg_name (i := 5) sc_l_drawn.nd rfl (Or.inl rfl)))) (fun _ _ _ _ _ => dts_nil) (fun _ _ _ _ _ => (de_ix (dp_own (pv 4)) (DE.p (de_op opd_mod (DE.p (de_var (pv 5))) (DE.p (de_var (pv 6))))) (fun _ _ => rfl))))))
      (dss_one (ds_if (dt_cmp (opd_eq hr.units) (DE.p (de_callF F_l_draw hgd (hr.mono (by decide)) tk (da_cons (de_var (pv 0)) (da_cons de_int da_nil)))) (DE.p de_int) (nomark _)) (dss_one (ds_store (i := 4) (pv 4) (de_callF F_l_pick hgd hr tk (da_cons (de_var (pv 0)) (da_cons (de_str [97, 98, 122]) da_nil))) (de_callF F_l_draw hgd (hr.mono (by decide)) tk (da_cons (de_var (pv 0)) (da_cons (de_var (pv 2)) da_nil))))) dss_nil)))) dss_nil)
      (dss_one (ds_ret (de_join (de_str []) (dp_own (pv 4)))))))))) hp) (F.binds (ps := ["_law_stream_here", "_law_most"]) fun _ _ _ _ _ _ us hl => match us, hl with | [_, _], _ => rfl)
theorem sc_l_tails : FnScope ["_law_word", "_law_place"] ["_law_word"] (defScope s_l_tails) := ⟨rfl, rfl, rfl, by decide +kernel, rfl, by decide +kernel, by decide +kernel⟩
def w_l_tails (ex : Exn → stg.G → Prop) : SW stg :=
  (wRet (wL (wCN cSortedTI (wACons (wL (wLc (wRng1 (wCB cLen (wACons (wVar 0) wANil))) (gwN 1) wYes (wTup (wACons (wSl (wVar 0) (wOSome (wVar 1)) wONone) (wACons (wVar 1) wANil))) [1])) wANil))))
theorem ok_l_tails {P : Program} {w : World} {K : PySem.W.Frag} {mg : Str → Option Value} {base : Heap} {f : Addr} {fd : FuncData} (F : Fun K "_law_tails" "_law_tails" s_l_tails f fd) (g : mg "_law_tails" = some (.ref f)) (m_len : mg "len" = none) (m_range : mg "range" = none) (m_sorted : mg "sorted" = none)
    (hp : ∀ (ds : List D) (g : Nat) (q : D → Nat → Prop) (ex : Exn → Nat → Prop), ds.length = 1 → d_l_tails ds g q ex → w_l_tails ex (kEndS q) (startD ["_law_word", "_law_place"] ds) g) : FnB P w K mg base 1 "_law_tails" ["_law_word"] (liftSp K mg 1 d_l_tails) :=
  fnB_of F g (fnS_of (wb := w_l_tails) F sc_l_tails (fun cdv A outer s H E W0 ex hr hgd tk => (dss_one (ds_ret (DN.fr (dn_callB calln_sortedTI (by rfl) m_sorted (by decide +kernel) (dap_cons (DN.p (dn_lc (own := [("_law_place", 1)]) rfl sc_l_tails.nd (di_range1 m_range (de_callB calld_len (by rfl) m_len (by decide +kernel) (dap_cons (DE.p (de_var (pv 0))) dap_nil))) (blkOk_by (own := [("_law_place", 1)]) (N := ["_law_word", "_law_place"]) (sc := defScope s_l_tails) (by decide +kernel)) (by decide) (fun _ _ _ _ _ => (dg_name (pg_name (i := 1) sc_l_tails.nd rfl (Or.inl rfl)))) (fun _ _ _ _ _ => dts_nil) (fun _ _ _ _ _ => (de_tup (da_cons (de_slice (DE.p (de_var (pv 0))) (do_some (de_var (pv 1))) do_none) (da_cons (de_var (pv 1)) da_nil)))))) dap_nil)))))) hp) (F.binds (ps := ["_law_word"]) fun _ _ _ _ _ _ us hl => match us, hl with | [_], _ => rfl)
theorem sc_l_by_tails : FnScope ["_law_word", "_law_tail", "_law_place"] ["_law_word"] (defScope s_l_by_tails) := ⟨rfl, rfl, rfl, by decide +kernel, rfl, by decide +kernel, by decide +kernel⟩
def w_l_by_tails (ex : Exn → stg.G → Prop) : SW stg :=
  (wRet (wCB cTuple (wACons (wL (wLc (wItems (wCallB 1 d_l_tails (wACons (wVar 0) wANil) (xk ex))) (gwT 2 (gwCons (gwN 1) (gwCons (gwN 2) gwNil))) wYes (wVar 2) [1, 2])) wANil)))
theorem ok_l_by_tails {P : Program} {w : World} {K : PySem.W.Frag} {mg : Str → Option Value} {base : Heap} {f : Addr} {fd : FuncData} (F : Fun K "_law_by_tails" "_law_by_tails" s_l_by_tails f fd) (g : mg "_law_by_tails" = some (.ref f)) (F_l_tails : FnB P w K mg base 1 "_law_tails" ["_law_word"] (liftSp K mg 1 d_l_tails)) (m_tuple : mg "tuple" = none)
    (hp : ∀ (ds : List D) (g : Nat) (q : D → Nat → Prop) (ex : Exn → Nat → Prop), ds.length = 1 → d_l_by_tails ds g q ex → w_l_by_tails ex (kEndS q) (startD ["_law_word", "_law_tail", "_law_place"] ds) g) : FnB P w K mg base 2 "_law_by_tails" ["_law_word"] (liftSp K mg 1 d_l_by_tails) :=
  fnB_of F g (fnS_of (wb := w_l_by_tails) F sc_l_by_tails (fun cdv A outer s H E W0 ex hr hgd tk => (dss_one (ds_ret (de_callTy calld_tuple (by rfl) m_tuple (by decide +kernel) (dap_cons (DN.p (dn_lc (own := [("_law_tail", 1), ("_law_place", 2)]) rfl sc_l_by_tails.nd (di_seq (de_callF F_l_tails hgd hr tk (da_cons (de_var (pv 0)) da_nil))) (blkOk_by (own := [("_law_tail", 1), ("_law_place", 2)]) (N := ["_law_word", "_law_tail", "_law_place"]) (sc := defScope s_l_by_tails) (by decide +kernel)) (by decide) (fun _ _ _ _ _ => (dg_tup rfl (dgs_cons (dg_name (pg_name (i := 1) sc_l_by_tails.nd rfl (Or.inl rfl))) (dgs_cons (dg_name (pg_name (i := 2) sc_l_by_tails.nd rfl (Or.inl rfl))) dgs_nil)))) (fun _ _ _ _ _ => dts_nil) (fun _ _ _ _ _ => (de_var (pv 2))))) dap_nil))))) hp) (F.binds (ps := ["_law_word"]) fun _ _ _ _ _ _ us hl => match us, hl with | [_], _ => rfl)
theorem sc_l_ordered : FnScope ["_law_stream_here", "_law_most", "_law_way", "_law_many", "_law_found", "_law_size", "_law_spot", "_law_place"] ["_law_stream_here", "_law_most"] (defScope s_l_ordered) := ⟨rfl, rfl, rfl, by decide +kernel, rfl, by decide +kernel, by decide +kernel⟩
def w_l_ordered (ex : Exn → stg.G → Prop) : SW stg :=
  (wSeq (wPar 2 3 (wI (wCallB 2 d_l_draw (wACons (wVar 0) (wACons (wC (.int 4)) wANil)) (xk ex))) (wI (wBin oAdd (wC (.int 1)) (wCallB 2 d_l_draw (wACons (wVar 0) (wACons (wVar 1) wANil)) (xk ex)))))
    (wSeq (wIfS (wB (wBin oEq (wVar 2) (wC (.int 0)))) (wRet (wCallB 1 d_l_by_tails (wACons (wCallB 2 d_l_drawn (wACons (wVar 0) (wACons (wVar 1) wANil)) (xk ex)) wANil) (xk ex))) wNext)
    (wSeq (wSet 4 (wI (wL (wLst wANil))))
    (wSeq (wFor (wRng1 (wVar 3)) (gwN 5) (wSeq (wSet 6 (wI (wBin oIx (wL (wLst (wACons (wCallB 2 d_l_draw (wACons (wVar 0) (wACons (wBin oAdd (wVar 5) (wC (.int 1))) wANil)) (xk ex)) (wACons (wC (.int 0)) (wACons (wVar 5) (wACons (wCB cMin2 (wACons (wVar 5) (wACons (wCallB 2 d_l_draw (wACons (wVar 0) (wACons (wC (.int 3)) wANil)) (xk ex)) wANil))) wANil)))))) (wCallB 2 d_l_draw (wACons (wVar 0) (wACons (wC (.int 4)) wANil)) (xk ex)))))
    (wSet 4 (wI (wL (wBinN oCat (wL (wBinN oCat (wL (wLc (wItems (wL (wSlN (wVar 4) wONone (wOSome (wVar 6))))) (gwN 7) wYes (wBin oAdd (wVar 7) (wC (.int 1))) [7])) (wL (wLst (wACons (wC (.int 0)) wANil))))) (wL (wLc (wItems (wL (wSlN (wVar 4) (wOSome (wVar 6)) wONone))) (gwN 7) wYes (wBin oAdd (wVar 7) (wC (.int 1))) [7]))))))))
    (wRet (wCB cTuple (wACons (wVar 4) wANil)))))))
theorem ok_l_ordered {P : Program} {w : World} {K : PySem.W.Frag} {mg : Str → Option Value} {base : Heap} {f : Addr} {fd : FuncData} (F : Fun K "_law_ordered" "_law_ordered" s_l_ordered f fd) (g : mg "_law_ordered" = some (.ref f)) (F_l_draw : FnB P w K mg base 1 "_law_draw" ["_law_stream_here", "_law_many"] (liftSp K mg 2 d_l_draw)) (F_l_drawn : FnB P w K mg base 3 "_law_drawn" ["_law_stream_here", "_law_most"] (liftSp K mg 2 d_l_drawn)) (F_l_by_tails : FnB P w K mg base 2 "_law_by_tails" ["_law_word"] (liftSp K mg 1 d_l_by_tails)) (m_min : mg "min" = none) (m_range : mg "range" = none) (m_tuple : mg "tuple" = none)
    (hp : ∀ (ds : List D) (g : Nat) (q : D → Nat → Prop) (ex : Exn → Nat → Prop), ds.length = 2 → d_l_ordered ds g q ex → w_l_ordered ex (kEndS q) (startD ["_law_stream_here", "_law_most", "_law_way", "_law_many", "_law_found", "_law_size", "_law_spot", "_law_place"] ds) g) : FnB P w K mg base 4 "_law_ordered" ["_law_stream_here", "_law_most"] (liftSp K mg 2 d_l_ordered) :=
  fnB_of F g (fnS_of (wb := w_l_ordered) F sc_l_ordered (fun cdv A outer s H E W0 ex hr hgd tk => (dss_cons (ds_par (i := 2) (j := 3) rfl sc_l_ordered.nd rfl rfl (by decide) rfl rfl (DE.v (de_callF F_l_draw hgd (hr.mono (by decide)) tk (da_cons (de_var (pv 0)) (da_cons de_int da_nil)))) (DE.v (de_op opd_add (DE.p de_int) (DE.p (de_callF F_l_draw hgd (hr.mono (by decide)) tk (da_cons (de_var (pv 0)) (da_cons (de_var (pv 1)) da_nil)))))))
      (dss_cons (ds_if (dt_cmp (opd_eq hr.units) (DE.p (de_var (pv 2))) (DE.p de_int) (nomark _)) (dss_one (ds_ret (de_callF F_l_by_tails hgd (hr.mono (by decide)) tk (da_cons (de_callF F_l_drawn hgd hr tk (da_cons (de_var (pv 0)) (da_cons (de_var (pv 1)) da_nil))) da_nil)))) dss_nil)
      (dss_cons (ds_set (i := 4) sc_l_ordered.nd rfl (.inl rfl) (DE.v (DN.fr (dn_lst da_nil))))
      (dss_cons (ds_for (passes_of rfl) rfl (di_range1 m_range (de_var (pv 3))) (dg_name (pg_name (i := 5) sc_l_ordered.nd rfl (Or.inl rfl))) (dss_cons (ds_set (i := 6) sc_l_ordered.nd rfl (.inl rfl) (DE.v (de_ix (DN.p (dn_lst (da_cons (de_callF F_l_draw hgd (hr.mono (by decide)) tk (da_cons (de_var (pv 0)) (da_cons (de_op opd_add (DE.p (de_var (pv 5))) (DE.p de_int)) da_nil))) (da_cons de_int (da_cons (de_var (pv 5)) (da_cons (de_callB (calld_min2 rfl) (by rfl) m_min (by decide +kernel) (dap_cons (DE.p (de_var (pv 5))) (dap_cons (DE.p (de_callF F_l_draw hgd (hr.mono (by decide)) tk (da_cons (de_var (pv 0)) (da_cons de_int da_nil)))) dap_nil))) da_nil)))))) (DE.p (de_callF F_l_draw hgd (hr.mono (by decide)) tk (da_cons (de_var (pv 0)) (da_cons de_int da_nil)))) (fun _ _ => rfl))))
      (dss_one (ds_set (i := 4) sc_l_ordered.nd rfl (.inl rfl) (DE.v (DN.fr (dn_op opn_cat (DN.p (dn_op opn_cat (DN.p (dn_lc (own := [("_law_place", 7)]) rfl sc_l_ordered.nd (di_seq (DN.fr (dn_slice (DE.p (de_var (pv 4))) do_none (do_some (de_var (pv 6)))))) (blkOk_by (own := [("_law_place", 7)]) (N := ["_law_stream_here", "_law_most", "_law_way", "_law_many", "_law_found", "_law_size", "_law_spot", "_law_place"]) (sc := defScope s_l_ordered) (by decide +kernel)) (by decide) (fun _ _ _ _ _ => (dg_name (pg_name (i := 7) sc_l_ordered.nd rfl (Or.inl rfl)))) (fun _ _ _ _ _ => dts_nil) (fun _ _ _ _ _ => (de_op opd_add (DE.p (de_var (pv 7))) (DE.p de_int))))) (DN.p (dn_lst (da_cons de_int da_nil))))) (DN.p (dn_lc (own := [("_law_place", 7)]) rfl sc_l_ordered.nd (di_seq (DN.fr (dn_slice (DE.p (de_var (pv 4))) (do_some (de_var (pv 6))) do_none))) (blkOk_by (own := [("_law_place", 7)]) (N := ["_law_stream_here", "_law_most", "_law_way", "_law_many", "_law_found", "_law_size", "_law_spot", "_law_place"]) (sc := defScope s_l_ordered) (by decide +kernel)) (by decide) (fun _ _ _ _ _ => (dg_name (pg_name (i := 7) sc_l_ordered.nd rfl (Or.inl rfl)))) (fun _ _ _ _ _ => dts_nil) (fun _ _ _ _ _ => (de_op opd_add (DE.p (de_var (pv 7))) (DE.p de_int))))))))))))
      (dss_one (ds_ret (de_callTy calld_tuple (by rfl) m_tuple (by decide +kernel) (dap_cons (DE.p (de_var (pv 4))) dap_nil))))))))) hp) (F.binds (ps := ["_law_stream_here", "_law_most"]) fun _ _ _ _ _ _ us hl => match us, hl with | [_, _], _ => rfl)
theorem sc_l_all_orders : FnScope ["_law_size", "_law_found", "_law_many", "_law_longer", "_law_order", "_law_moved", "_law_place", "_law_spot"] ["_law_size"] (defScope s_l_all_orders) := ⟨rfl, rfl, rfl, by decide +kernel, rfl, by decide +kernel, by decide +kernel⟩
def w_l_all_orders (ex : Exn → stg.G → Prop) : SW stg :=
  (wSeq (wSet 1 (wI (wL (wLst (wACons (wTup wANil) wANil)))))
    (wSeq (wFor (wRng1 (wVar 0)) (gwN 2) (wSeq (wSet 3 (wO (wLst wANil)))
    (wSeq (wFor (wItems (wVar 1)) (gwN 4) (wSeq (wSet 5 (wI (wCB cTuple (wACons (wL (wLc (wItems (wVar 4)) (gwN 6) wYes (wBin oAdd (wVar 6) (wC (.int 1))) [6])) wANil))))
    (wExt 3 (wL (wLc (wRng1 (wBin oAdd (wVar 2) (wC (.int 1)))) (gwN 7) wYes (wBin oAdd (wBin oAdd (wSl (wVar 5) wONone (wOSome (wVar 7))) (wTup (wACons (wC (.int 0)) wANil))) (wSl (wVar 5) (wOSome (wVar 7)) wONone)) [7])))))
    (wFrz 3 (wSet 1 (wI (wVar 3)))))))
    (wRet (wVar 1))))
theorem ok_l_all_orders {P : Program} {w : World} {K : PySem.W.Frag} {mg : Str → Option Value} {base : Heap} {f : Addr} {fd : FuncData} (F : Fun K "_law_all_orders" "_law_all_orders" s_l_all_orders f fd) (g : mg "_law_all_orders" = some (.ref f)) (m_range : mg "range" = none) (m_tuple : mg "tuple" = none)
    (hp : ∀ (ds : List D) (g : Nat) (q : D → Nat → Prop) (ex : Exn → Nat → Prop), ds.length = 1 → d_l_all_orders ds g q ex → w_l_all_orders ex (kEndS q) (startD ["_law_size", "_law_found", "_law_many", "_law_longer", "_law_order", "_law_moved", "_law_place", "_law_spot"] ds) g) : FnB P w K mg base 1 "_law_all_orders" ["_law_size"] (liftSp K mg 1 d_l_all_orders) :=
  fnB_of F g (fnS_of (wb := w_l_all_orders) F sc_l_all_orders (fun cdv A outer s H E W0 ex hr hgd tk => (dss_cons (ds_set (i := 1) sc_l_all_orders.nd rfl (.inl rfl) (DE.v (DN.fr (dn_lst (da_cons (de_tup da_nil) da_nil)))))
      (dss_cons (ds_for (passes_of rfl) rfl (di_range1 m_range (de_var (pv 0))) (dg_name (pg_name (i := 2) sc_l_all_orders.nd rfl (Or.inl rfl))) (dss_cons (ds_set (i := 3) sc_l_all_orders.nd rfl (.inl rfl) (DN.v (dn_lst da_nil)))
      (dss_cons (ds_for (passes_of rfl) rfl (di_seq (de_var (pv 1))) (dg_name (pg_name (i := 4) sc_l_all_orders.nd rfl (Or.inl rfl))) (dss_cons (ds_set (i := 5) sc_l_all_orders.nd rfl (.inr rfl) (DE.v (de_callTy calld_tuple (by rfl) m_tuple (by decide +kernel) (dap_cons (DN.p (dn_lc (own := [("_law_place", 6)]) rfl sc_l_all_orders.nd (di_seq (de_var (pv 4))) (blkOk_by (own := [("_law_place", 6)]) (N := ["_law_size", "_law_found", "_law_many", "_law_longer", "_law_order", "_law_moved", "_law_place", "_law_spot"]) (sc := defScope s_l_all_orders) (by decide +kernel)) (by decide) (fun _ _ _ _ _ => (dg_name (pg_name (i := 6) sc_l_all_orders.nd rfl (Or.inl rfl)))) (fun _ _ _ _ _ => dts_nil) (fun _ _ _ _ _ => (de_op opd_add (DE.p (de_var (pv 6))) (DE.p de_int))))) dap_nil))))
      (dss_one (ds_extend (i := 3) (pv 3) (DN.fr (dn_lc (own := [("_law_spot", 7)]) rfl sc_l_all_orders.nd (di_range1 m_range (de_op opd_add (DE.p (de_var (pv 2))) (DE.p de_int))) (blkOk_by (own := [("_law_spot", 7)]) (N := ["_law_size", "_law_found", "_law_many", "_law_longer", "_law_order", "_law_moved", "_law_place", "_law_spot"]) (sc := defScope s_l_all_orders) (by decide +kernel)) (by decide) (fun _ _ _ _ _ => (dg_name (pg_name (i := 7) sc_l_all_orders.nd rfl (Or.inl rfl)))) (fun _ _ _ _ _ => dts_nil) (fun _ _ _ _ _ => (de_op opd_add (DE.p (de_op opd_add (DE.p (de_slice (DE.p (de_var (pv 5))) do_none (do_some (de_var (pv 7))))) (DE.p (de_tup (da_cons de_int da_nil))))) (DE.p (de_slice (DE.p (de_var (pv 5))) (do_some (de_var (pv 7))) do_none))))))))))
      (dss_frz 3 (dss_one (ds_set (i := 1) sc_l_all_orders.nd rfl (.inl rfl) (DE.v (de_var (pv 3)))))))))
      (dss_one (ds_ret (de_var (pv 1))))))) hp) (F.binds (ps := ["_law_size"]) fun _ _ _ _ _ _ us hl => match us, hl with | [_], _ => rfl)
theorem sc_law : FnScope ["_law_script", "_law_stream_here", "_law_turn", "_law_order", "_law_index", "_law_longer", "_law_many", "_law_found"] ["_law_script"] (defScope s_law) := ⟨rfl, rfl, rfl, by decide +kernel, rfl, by decide +kernel, by decide +kernel⟩
def w_law : SW stg :=
  (wSeq (wFor (wRng1 (wC (.int 8))) (gwN 2) (wSeq (wSet 3 (wI (wCallB 2 d_l_ordered (wACons (wVar 1) (wACons (wC (.int 23)) wANil)) xno)))
    (wSeq (wFor (wRng1 (wBin oAdd (wCB cLen (wACons (wVar 3) wANil)) (wC (.int 1)))) (gwN 4) (wSeq (wSet 5 (wI (wCallB 2 d_grown (wACons (wVar 3) (wACons (wVar 4) wANil)) xno)))
    (wIfS (wOr (wB (wBin oNotT (wCallB 1 d_is_order (wACons (wVar 5) wANil) xno) (wC (.bl true)))) (wOr (wB (wBin oNe (wCallB 1 d_shrunk (wACons (wVar 5) wANil) xno) (wVar 3))) (wB (wBin oNe (wBin oIx (wCallB 1 d_ranks_of (wACons (wVar 5) wANil) xno) (wC (.int 0))) (wVar 4))))) (wRet (wC (.bl false))) wNext)))
    (wIfS (wAnd (wB (wBin oGt (wCB cLen (wACons (wVar 3) wANil)) (wC (.int 1)))) (wB (wBin oNe (wCallB 2 d_grown (wACons (wCallB 1 d_shrunk (wACons (wVar 3) wANil) xno) (wACons (wBin oIx (wCallB 1 d_ranks_of (wACons (wVar 3) wANil) xno) (wC (.int 0))) wANil)) xno) (wVar 3)))) (wRet (wC (.bl false))) wNext))))
    (wSeq (wSet 6 (wI (wBin oAdd (wC (.int 1)) (wCallB 2 d_l_draw (wACons (wVar 1) (wACons (wC (.int 5)) wANil)) xno))))
    (wSeq (wSet 7 (wO (wLst wANil)))
    (wSeq (wFor (wItems (wCallB 1 d_l_all_orders (wACons (wVar 6) wANil) xno)) (gwN 3) (wExt 7 (wL (wLc (wRng1 (wBin oAdd (wVar 6) (wC (.int 1)))) (gwN 4) wYes (wCallB 2 d_grown (wACons (wVar 3) (wACons (wVar 4) wANil)) xno) [4]))))
    (wRet (wAndV (wBin oEq (wL (wCN cSortedTN (wACons (wPk 7) wANil))) (wL (wCN cSortedTN (wACons (wCallB 1 d_l_all_orders (wACons (wBin oAdd (wVar 6) (wC (.int 1))) wANil) xno) wANil)))) (wBin oEq (wCB cLenSetU (wACons (wPk 7) wANil)) (wCB cLen (wACons (wPk 7) wANil)))))))))
theorem ok_law {P : Program} {w : World} {K : PySem.W.Frag} {mg : Str → Option Value} {base : Heap} {f fs : Addr} {fd fds : FuncData} (F : Fun K "law" "law" s_law f fd) (FS : FnG P w K mg base 1 fs fds ["_law_script"] (spStream K)) (gs : mg "_law_stream" = some (.ref fs)) (ks : PySem.W.keepIn K (.ref fs) = true) (bs : Binds K fds ["_law_script"] []) (F_l_ordered : FnB P w K mg base 4 "_law_ordered" ["_law_stream_here", "_law_most"] (liftSp K mg 2 d_l_ordered)) (F_grown : FnB P w K mg base 2 "grown" ["order", "index"] (liftSp K mg 2 d_grown)) (F_is_order : FnB P w K mg base 3 "is_order" ["value"] (liftSp K mg 1 d_is_order)) (F_shrunk : FnB P w K mg base 1 "shrunk" ["order"] (liftSp K mg 1 d_shrunk)) (F_ranks_of : FnB P w K mg base 2 "ranks_of" ["order"] (liftSp K mg 1 d_ranks_of)) (F_l_draw : FnB P w K mg base 1 "_law_draw" ["_law_stream_here", "_law_many"] (liftSp K mg 2 d_l_draw)) (F_l_all_orders : FnB P w K mg base 1 "_law_all_orders" ["_law_size"] (liftSp K mg 1 d_l_all_orders)) (m_len : mg "len" = none) (m_range : mg "range" = none) (m_set : mg "set" = none) (m_sorted : mg "sorted" = none)
    (hp : w_law kLaw (rhoLaw 8 1) (0 : Nat)) : FnG P w K mg base 5 f fd ["_law_script"] (spLaw K) :=
  law_of F sc_law (by decide) rfl (fun cdv A outer s H E hr hgd => ps_set (i := 1) sc_law.nd rfl (.inl rfl) (pe_callG FS hgd (hr.mono (by decide)) rfl gs ks bs (fun σ pins H s e s2 => passLN pins σ H s e s2) (pa_cons (pv 0) pa_nil)))
    (fun cdv A outer s H E W0 hr hgd tk => (dss_cons (ds_for (passes_of rfl) rfl (di_range1 m_range de_int) (dg_name (pg_name (i := 2) sc_law.nd rfl (Or.inl rfl))) (dss_cons (ds_set (i := 3) sc_law.nd rfl (.inr rfl) (DE.v (de_callF F_l_ordered hgd hr tk (da_cons (de_var (pv 1)) (da_cons de_int da_nil)))))
      (dss_cons (ds_for (passes_of rfl) rfl (di_range1 m_range (de_op opd_add (DE.p (de_callB calld_len (by rfl) m_len (by decide +kernel) (dap_cons (DE.p (de_var (pv 3))) dap_nil))) (DE.p de_int))) (dg_name (pg_name (i := 4) sc_law.nd rfl (Or.inl rfl))) (dss_cons (ds_set (i := 5) sc_law.nd rfl (.inl rfl) (DE.v (de_callF F_grown hgd (hr.mono (by decide)) tk (da_cons (de_var (pv 3)) (da_cons (de_var (pv 4)) da_nil)))))
      (dss_one (ds_if (DW.t (dw_or (dt_cmp opd_notT (DE.p (de_callF F_is_order hgd (hr.mono (by decide)) tk (da_cons (de_var (pv 5)) da_nil))) (DE.p de_bl) (nomark _)) (dw_or (dt_cmp (opd_ne hr.units) (DE.p (de_callF F_shrunk hgd (hr.mono (by decide)) tk (da_cons (de_var (pv 5)) da_nil))) (DE.p (de_var (pv 3))) (nomark _)) (dw_or1 (dt_cmp (opd_ne hr.units) (DE.p (de_ix (DE.p (de_callF F_ranks_of hgd (hr.mono (by decide)) tk (da_cons (de_var (pv 5)) da_nil))) (DE.p de_int) (fun _ _ => rfl))) (DE.p (de_var (pv 4))) (nomark _)))))) (dss_one (ds_ret de_bl)) dss_nil))))
      (dss_one (ds_if (DW.t (dw_and (dt_cmp opd_gt (DE.p (de_callB calld_len (by rfl) m_len (by decide +kernel) (dap_cons (DE.p (de_var (pv 3))) dap_nil))) (DE.p de_int) (nomark _)) (dw_and1 (dt_cmp (opd_ne hr.units) (DE.p (de_callF F_grown hgd (hr.mono (by decide)) tk (da_cons (de_callF F_shrunk hgd (hr.mono (by decide)) tk (da_cons (de_var (pv 3)) da_nil)) (da_cons (de_ix (DE.p (de_callF F_ranks_of hgd (hr.mono (by decide)) tk (da_cons (de_var (pv 3)) da_nil))) (DE.p de_int) (fun _ _ => rfl)) da_nil)))) (DE.p (de_var (pv 3))) (nomark _))))) (dss_one (ds_ret de_bl)) dss_nil)))))
      (dss_cons (ds_set (i := 6) sc_law.nd rfl (.inl rfl) (DE.v (de_op opd_add (DE.p de_int) (DE.p (de_callF F_l_draw hgd (hr.mono (by decide)) tk (da_cons (de_var (pv 1)) (da_cons de_int da_nil)))))))
      (dss_cons (ds_set (i := 7) sc_law.nd rfl (.inl rfl) (DN.v (dn_lst da_nil)))
      (dss_cons (ds_for (passes_of rfl) rfl (di_seq (de_callF F_l_all_orders hgd (hr.mono (by decide)) tk (da_cons (de_var (pv 6)) da_nil))) (dg_name (pg_name (i := 3) sc_law.nd rfl (Or.inr rfl))) (dss_one (ds_extend (i := 7) (pv 7) (DN.fr (dn_lc (own := [("_law_index", 4)]) rfl sc_law.nd (di_range1 m_range (de_op opd_add (DE.p (de_var (pv 6))) (DE.p de_int))) (blkOk_by (own := [("_law_index", 4)]) (N := ["_law_script", "_law_stream_here", "_law_turn", "_law_order", "_law_index", "_law_longer", "_law_many", "_law_found"]) (sc := defScope s_law) (by decide +kernel)) (by decide) (fun _ _ _ _ _ => (dg_name (pg_name (i := 4) sc_law.nd rfl (Or.inl rfl)))) (fun _ _ _ _ _ => dts_nil) (fun _ _ _ _ _ => (de_callF F_grown hgd (hr.mono (by decide)) takesD_blk (da_cons (de_var (pv 3)) (da_cons (de_var (pv 4)) da_nil)))))))))
      (dss_one (ds_ret (de_and (de_cmp (opd_eq hr.units) (DN.p (dn_callB calln_sortedTN (by rfl) m_sorted (by decide +kernel) (dap_cons (dp_own (pv 7)) dap_nil))) (DN.p (dn_callB calln_sortedTN (by rfl) m_sorted (by decide +kernel) (dap_cons (DE.p (de_callF F_l_all_orders hgd (hr.mono (by decide)) tk (da_cons (de_op opd_add (DE.p (de_var (pv 6))) (DE.p de_int)) da_nil))) dap_nil))) (nomark _)) (de_one (de_cmp (opd_eq hr.units) (DE.p (de_lenSetU rfl hr m_len m_set (dap_cons (dp_own (pv 7)) dap_nil))) (DE.p (de_callB calld_len (by rfl) m_len (by decide +kernel) (dap_cons (dp_own (pv 7)) dap_nil))) (nomark _))))))))))) hp

end LW
set_option Elab.async false
set_option linter.all false
set_option maxRecDepth 100000
set_option maxHeartbeats 4000000
namespace LW
open PySem L2 DL
theorem p_is_integer (ds : List D) (g : Nat) (q : D → Nat → Prop) (ex : Exn → Nat → Prop) (hl : ds.length = 3) (h : d_is_integer ds g q ex) : w_is_integer ex (kEndS q) (startD ["value", "low", "high"] ds) g := by
  obtain ⟨v, lo, hi, rfl, ⟨t, ht⟩, hq⟩ := h
  simp [w_is_integer]
  refine ⟨_, ht, ?_⟩
  cases v with
  | int i =>
    cases ht
    simp [isTyp, isInt] at hq ⊢
    by_cases c : lo ≤ i
    · rw [if_pos c]
      simp [c] at hq
      exact ⟨_, Nat.le_refl _, hq⟩
    · rw [if_neg c]
      simp [c] at hq
      exact ⟨_, Nat.le_refl _, hq⟩
  | bl b =>
    cases ht
    simp [isTyp, isInt] at hq ⊢
    exact ⟨_, Nat.le_refl _, hq⟩
  | ob => cases ht
  | exn => cases ht
  | tx => cases ht
  | cl => cases ht
  | _ =>
    cases ht
    simp [isTyp, isInt] at hq ⊢
    exact ⟨_, Nat.le_refl _, hq⟩
theorem p_ranks_in (ds : List D) (g : Nat) (q : D → Nat → Prop) (ex : Exn → Nat → Prop) (hl : ds.length = 1) (h : d_ranks_in ds g q ex) : w_ranks_in ex (kEndS q) (startD ["order", "ranks", "rank", "place"] ds) g := by
  obtain ⟨o, rfl, ho, hlen, hq⟩ := h
  simp [w_ranks_in, nats_len]
  refine ⟨small_line (by decide), by omega, small_line (by omega), ?_⟩
  refine forW_word (M := stg) (fun i ρ g' => g' = g ∧ ∃ F y2 y3, ρ = [.im (.tup (nats o)), .own F, y2, y3] ∧ F.length = o.length ∧ ∀ (j p : Nat), j < i → o[j]? = some p → F[p]? = some (.int j)) _ ⟨rfl, _, _, _, rfl, by simp, fun _ _ h => by omega⟩ (fun i d ρ g' K hd hI hK => ?_) (fun ρ g' hI => ?_)
  · obtain ⟨rfl, F, y2, y3, rfl, hF, hp⟩ := hI
    obtain ⟨e, he, rfl⟩ := en_get hd
    obtain ⟨p, hop, rfl⟩ := nats_get he
    have hp1 : p < F.length := by rw [hF]; exact ho.lt (List.mem_of_getElem? hop)
    simp [gwT]
    refine ⟨p, ixN_ofNat hp1, hK _ _ ⟨rfl, _, _, _, rfl, by rw [List.length_set]; exact hF, fun j p' hj hjp => ?_⟩⟩
    by_cases e : j = i
    · subst e
      rw [hop] at hjp
      cases hjp
      rw [List.getElem?_set_self hp1]
    · rw [List.getElem?_set_ne (fun z => e (by
        have h1 := idx_of_get ho.nodup hop
        have h2 := idx_of_get ho.nodup hjp
        rw [z] at h1
        omega))]
      exact hp j p' (by omega) hjp
  · obtain ⟨rfl, F, y2, y3, rfl, hF, hp⟩ := hI
    rw [enL_len, nats_len] at hp
    simp
    refine ⟨_, Nat.le_refl _, ?_⟩
    rw [filled_inv ho hF fun j p h => hp j p (List.getElem?_eq_some_iff.mp h).1 h]
    exact hq
theorem p_shrunk (ds : List D) (g : Nat) (q : D → Nat → Prop) (ex : Exn → Nat → Prop) (hl : ds.length = 1) (h : d_shrunk ds g q ex) : w_shrunk ex (kEndS q) (startD ["order", "place"] ds) g := by
  obtain ⟨o, rfl, hl, hq⟩ := h
  simp [w_shrunk]
  rw [nats_len]
  refine ⟨small_line (by omega), ?_⟩
  refine lcW_map (M := stg) (fun i : Nat => D.int i) (fun i : Nat => D.int ((i - 1 : Nat) : Int)) (fun p => decide (0 < p)) o (fun p hp k1 k0 hk => ?_) ⟨_, Nat.le_refl _, ?_⟩
  · simp
    by_cases c : 0 < p
    · rw [if_pos (decide_eq_true c)] at hk
      rw [if_pos (by omega), show (p : Int) - 1 = ((p - 1 : Nat) : Int) by omega]
      exact hk
    · rw [if_neg (by simpa using c)] at hk
      rw [if_neg (by omega)]
      exact hk
  · have e : (o.filter fun p => decide (0 < p)).map (fun i : Nat => D.int ((i - 1 : Nat) : Int)) = nats (shrW o) := by
      unfold shrW nats
      rw [List.map_map]
      rfl
    rw [e]
    exact hq
theorem p_l_tails (ds : List D) (g : Nat) (q : D → Nat → Prop) (ex : Exn → Nat → Prop) (hl : ds.length = 1) (h : d_l_tails ds g q ex) : w_l_tails ex (kEndS q) (startD ["_law_word", "_law_place"] ds) g := by
  obtain ⟨w, rfl, hw, hq⟩ := h
  simp [w_l_tails]
  refine ⟨small_line (by omega), by omega, by rw [rngL_len]; exact small_line (by omega), ?_⟩
  rw [rngL_0]
  refine lcW_all (M := stg) _ (fun i : Nat => pairTI (w.drop i, (i : Int))) (List.range w.length) (fun i hi k1 k0 hk => ?_) ?_
  · simp
    refine ⟨small_line (by omega), small_line (by decide), ?_⟩
    rw [cut_from]
    exact hk
  · refine ⟨(List.range w.length).map fun i : Nat => (w.drop i, (i : Int)), by rw [List.map_map]; rfl, fun ys hp hs => ⟨g, Nat.le_refl _, ?_⟩⟩
    rw [tls_of hp hs]
    exact hq
theorem grn_nats2 (o : List Nat) (s : Nat) : (((o.map fun i : Nat => D.int ((i : Int) + 1)).take s) ++ D.int 0 :: ((o.map fun i : Nat => D.int ((i : Int) + 1)).drop s)) = nats (grnW o s) := by
  unfold grnW nats
  rw [List.map_append, List.map_cons, List.map_map, List.map_map, ← List.map_take, ← List.map_drop]
  rfl
theorem p_l_all_orders (ds : List D) (g : Nat) (q : D → Nat → Prop) (ex : Exn → Nat → Prop) (hl : ds.length = 1) (h : d_l_all_orders ds g q ex) : w_l_all_orders ex (kEndS q) (startD ["_law_size", "_law_found", "_law_many", "_law_longer", "_law_order", "_law_moved", "_law_place", "_law_spot"] ds) g := by
  obtain ⟨n, rfl, hn, hq⟩ := h
  simp [w_l_all_orders]
  rw [rngL_0]
  refine ⟨small_line (by decide), by omega, ?_⟩
  refine forW_word (M := stg) (fun i ρ (g' : Nat) => g' = g ∧ ∃ y2 y3 y4 y5, ρ = [.im (.int n), .im (.lst (tups (allO i))), y2, y3, y4, y5, .no, .no]) _ ⟨rfl, _, _, _, _, rfl⟩ (fun i d ρ g' K hd hI hK => ?_) (fun ρ g' hI => ?_)
  · obtain ⟨rfl, y2, y3, y4, y5, rfl⟩ := hI
    have hi : i < n := by
      have := (List.getElem?_eq_some_iff.mp hd).1
      simpa using this
    have e : d = .int (i : Nat) := by
      rw [List.getElem?_map, List.getElem?_range hi] at hd
      cases hd
      rfl
    subst e
    have sm := allO_small (i + 1) (by omega)
    have part : ∀ j, (((allO i).take j).flatMap fun o => (List.range (i + 1)).map fun s => grnW o s).length ≤ 1000 := fun j => by
      refine Nat.le_trans ?_ sm
      show _ ≤ ((allO i).flatMap fun o => (List.range (i + 1)).map fun s => grnW o s).length
      have e : ((allO i).flatMap fun o => (List.range (i + 1)).map fun s => grnW o s) = (((allO i).take j).flatMap fun o => (List.range (i + 1)).map fun s => grnW o s) ++ (((allO i).drop j).flatMap fun o => (List.range (i + 1)).map fun s => grnW o s) := by
        rw [← List.flatMap_append, List.take_append_drop]
      rw [e, List.length_append]
      omega
    simp
    refine forW_word (M := stg) (fun j ρ (g2 : Nat) => g2 = g' ∧ ∃ y4 y5, ρ = [.im (.int n), .im (.lst (tups (allO i))), .im (.int (i : Int)), .own (tups (((allO i).take j).flatMap fun o => (List.range (i + 1)).map fun s => grnW o s)), y4, y5, .no, .no]) _ ⟨rfl, _, _, rfl⟩ (fun j d ρ g2 K1 hd1 hI1 hK1 => ?_) (fun ρ g2 hI1 => ?_)
    · obtain ⟨rfl, y4, y5, rfl⟩ := hI1
      unfold tups at hd1
      rw [List.getElem?_map] at hd1
      obtain ⟨o, ho, rfl⟩ := Option.map_eq_some_iff.mp hd1
      obtain ⟨po, lo⟩ := allO_ok i o (List.mem_of_getElem? ho)
      simp
      rw [nats_len]
      refine ⟨small_line (by omega), ?_⟩
      refine lcW_all (M := stg) (fun i : Nat => D.int i) (fun i : Nat => D.int ((i : Int) + 1)) o (fun p hp k1 k0 hk => ?_) ?_
      · simp
        exact hk
      · rw [show (i : Int) + 1 = ((i + 1 : Nat) : Int) by omega]
        rw [rngL_0]
        refine ⟨by omega, by omega, by rw [List.length_map, List.length_range]; exact small_line (by omega), ?_⟩
        refine lcW_all (M := stg) (fun i : Nat => D.int i) (fun s => D.tup (nats (grnW o s))) (List.range (i + 1)) (fun s hs k1 k0 hk => ?_) ?_
        · simp
          rw [cut_to, cut_from]
          have e : List.take s (List.map (fun i : Nat => D.int ((i : Int) + 1)) o) ++ D.int 0 :: List.drop s (List.map (fun i : Nat => D.int ((i : Int) + 1)) o) = nats (grnW o s) := grn_nats2 o s
          rw [e]
          refine ⟨small_line (by decide), by rw [List.length_take, List.length_map]; exact small_line (by omega), by rw [List.length_take, List.length_drop, List.length_map]; exact small_line (by omega), hk⟩
        · have e : tups (((allO i).take j).flatMap fun o => (List.range (i + 1)).map fun s => grnW o s) ++ (List.range (i + 1)).map (fun s => D.tup (nats (grnW o s))) = tups (((allO i).take (j + 1)).flatMap fun o => (List.range (i + 1)).map fun s => grnW o s) := by
            rw [List.take_succ, ho, List.flatMap_append]
            unfold tups
            rw [List.map_append]
            congr 1
            simp
          have l1 := part (j + 1)
          have l2 : (tups (((allO i).take j).flatMap fun o => (List.range (i + 1)).map fun s => grnW o s)).length + ((List.range (i + 1)).map (fun s => D.tup (nats (grnW o s)))).length ≤ sizeLine := by
            rw [← List.length_append, e]
            unfold tups
            rw [List.length_map]
            exact small_line (by omega)
          refine ⟨l2, ?_⟩
          rw [e]
          exact hK1 _ _ ⟨rfl, _, _, rfl⟩
    · obtain ⟨rfl, y4, y5, rfl⟩ := hI1
      rw [show (tups (allO i)).length = (allO i).length by unfold tups; rw [List.length_map], List.take_length]
      simp
      exact hK _ _ ⟨rfl, _, _, _, _, rfl⟩
  · obtain ⟨rfl, y2, y3, y4, y5, rfl⟩ := hI
    simp
    exact ⟨_, Nat.le_refl _, hq⟩
theorem p_order_error (ds : List D) (g : Nat) (q : D → Nat → Prop) (ex : Exn → Nat → Prop) (hl : ds.length = 1) (h : d_order_error ds g q ex) : w_order_error ex (kEndS q) (startD ["value", "known", "index", "item"] ds) g := by
  obtain ⟨v, rfl, ⟨t, ht⟩, hs, hq⟩ := h
  simp [w_order_error]
  refine ⟨_, ht, ?_⟩
  cases v with
  | tup x =>
    cases ht
    simp [isTyp]
    by_cases c1 : x = []
    · rw [oErr_bad (.inl c1)] at hq
      rw [if_neg (by rw [c1]; decide)]
      exact ⟨small_line (by decide), _, Nat.le_refl _, hq⟩
    · have pos := List.length_pos_iff.mpr c1
      rw [if_pos (by omega)]
      by_cases c2 : (x.length : Int) ≤ 24
      · rw [if_pos c2]
        have nc : ¬ (x = [] ∨ 24 < x.length) := fun z => by
          rcases z with z | z
          · exact c1 z
          · omega
        refine ⟨small_line (by decide), by omega, small_line (by omega), ?_⟩
        refine forW_word (M := stg) (fun i ρ (g' : Nat) => g' = g ∧ (∀ j, j < i → badO x j = false) ∧ ∃ F y2 y3, F.length = x.length ∧ (∀ j, j < x.length → F[j]? = some (.bl (decide (j ∈ (x.take i).map natD)))) ∧ ρ = [.im (.tup x), .own F, y2, y3]) _ ⟨rfl, fun j hj => by omega, _, _, _, by simp, fun j hj => by simp [hj], rfl⟩ (fun i d ρ g' K hd hI hK => ?_) (fun ρ g' hI => ?_)
        · obtain ⟨rfl, hI, F, y2, y3, hF, hFj, rfl⟩ := hI
          obtain ⟨e, he, rfl⟩ := en_get hd
          have hi : i < x.length := (List.getElem?_eq_some_iff.mp he).1
          rw [List.getElem?_eq_getElem hi] at he
          cases he
          simp [gwT]
          refine ⟨_, _, _, rfl, hs _ (List.getElem_mem hi), ?_⟩
          simp only [sm_isB]
          have eb := badO_get hi
          cases cp : isInt x[i] 0 (x.length - 1) with
          | false =>
            have : badO x i = true := by rw [eb]; unfold isPl; rw [cp]; rfl
            rw [oErr_at nc hi this hI] at hq
            simp
            exact ⟨small_line (by decide), _, Nat.le_refl _, hq⟩
          | true =>
            obtain ⟨p, hp, hp2⟩ := isPl_inv (n := x.length) cp
            rw [hp]
            simp
            refine ⟨_, atI_ofNat (hFj p hp2), ?_⟩
            simp
            by_cases cm : p ∈ (x.take i).map natD
            · have : badO x i = true := by rw [eb, hp, natD_int, decide_eq_true cm]; simp
              rw [oErr_at nc hi this hI] at hq
              rw [if_pos (by simpa using cm)]
              exact ⟨small_line (by decide), _, Nat.le_refl _, hq⟩
            · have : badO x i = false := by rw [eb, hp, natD_int, decide_eq_false cm]; unfold isPl; rw [← hp, cp]; rfl
              rw [if_neg (by simpa using cm)]
              refine ⟨p, ixN_ofNat (by rw [hF]; exact hp2), hK _ _ ⟨rfl, fun j hj => ?_, _, _, _, by rw [List.length_set]; exact hF, fun j hj => ?_, rfl⟩⟩
              · by_cases e : j = i
                · rw [e]; exact this
                · exact hI j (by omega)
              · rw [List.take_succ_eq_append_getElem hi, List.map_append, List.map_singleton, hp, natD_int]
                by_cases e : j = p
                · rw [e, List.getElem?_set_self (by rw [hF]; exact hp2)]
                  simp
                · rw [List.getElem?_set_ne (fun z => e z.symm), hFj j hj]
                  simp [e]
        · obtain ⟨rfl, hI, F, y2, y3, hF, hFj, rfl⟩ := hI
          rw [enL_len] at hI
          rw [oErr_ok nc hI] at hq
          simp
          exact ⟨_, Nat.le_refl _, hq⟩
      · rw [if_neg c2]
        rw [oErr_bad (.inr (by omega))] at hq
        exact ⟨small_line (by decide), _, Nat.le_refl _, hq⟩
  | ob => cases ht
  | exn => cases ht
  | tx => cases ht
  | cl => cases ht
  | _ =>
    cases ht
    simp [isTyp]
    exact ⟨small_line (by decide), _, Nat.le_refl _, hq⟩
theorem p_ranks_of (ds : List D) (g : Nat) (q : D → Nat → Prop) (ex : Exn → Nat → Prop) (hl : ds.length = 1) (h : d_ranks_of ds g q ex) : w_ranks_of ex (kEndS q) (startD ["order"] ds) g := by
  obtain ⟨o, rfl, ho, hlen, hq⟩ := h
  simp [w_ranks_of]
  exact ⟨o, rfl, ho, hlen, _, Nat.le_refl _, hq⟩
theorem grn_nats (o : List Nat) (s : Nat) : (((o.map fun i : Nat => D.int ((i : Int) + 1)).take s) ++ D.int 0 :: ((o.map fun i : Nat => D.int ((i : Int) + 1)).drop s)) = nats (grnW o s) := by
  unfold grnW nats
  rw [List.map_append, List.map_cons, List.map_map, List.map_map, ← List.map_take, ← List.map_drop]
  rfl
theorem p_grown (ds : List D) (g : Nat) (q : D → Nat → Prop) (ex : Exn → Nat → Prop) (hl : ds.length = 2) (h : d_grown ds g q ex) : w_grown ex (kEndS q) (startD ["order", "index", "moved", "place"] ds) g := by
  obtain ⟨o, v, rfl, hl, ov, hq⟩ := h
  simp [w_grown]
  rw [nats_len]
  refine ⟨v, _, _, rfl, ov, ?_⟩
  simp only [sm_isB]
  cases c : isInt v 0 (o.length : Int) with
  | false =>
    rw [c, if_neg (by decide)] at hq
    rw [if_neg (by decide)]
    exact hq
  | true =>
    rw [c, if_pos rfl] at hq
    rw [if_pos rfl]
    by_cases c2 : o.length = 24
    · rw [if_pos c2] at hq
      rw [if_pos (by omega)]
      exact hq
    · rw [if_neg c2] at hq
      rw [if_neg (by omega)]
      refine ⟨small_line (by omega), ?_⟩
      refine lcW_all (M := stg) (fun i : Nat => D.int i) (fun i : Nat => D.int ((i : Int) + 1)) o (fun p hp k1 k0 hk => ?_) ?_
      · simp
        exact hk
      · have hv : ∃ s : Nat, v = .int s := by
          cases v with
          | int i =>
            have c3 := c
            unfold isInt at c3
            simp at c3
            exact ⟨i.toNat, by congr 1; omega⟩
          | _ => cases c
        obtain ⟨s, rfl⟩ := hv
        simp
        rw [cut_to, cut_from]
        rw [natD_int, ← grn_nats] at hq
        refine ⟨by rw [List.length_take, List.length_drop, List.length_map]; exact small_line (by omega), _, Nat.le_refl _, hq⟩
theorem p_l_pick (ds : List D) (g : Nat) (q : D → Nat → Prop) (ex : Exn → Nat → Prop) (hl : ds.length = 2) (h : d_l_pick ds g q ex) : w_l_pick ex (kEndS q) (startD ["_law_stream_here", "_law_items"] ds) g := by
  obtain ⟨c, xs, rfl, hc, hne, hlen, hg, hq⟩ := h
  have hpos : 0 < xs.length := List.length_pos_iff.mpr hne
  cases c with
  | lst ds =>
    cases hc
    simp [w_l_pick]
    refine draw_n hpos (by omega) hg fun v hv => ?_
    simp
    exact ⟨_, atI_ofNat (List.getElem?_eq_getElem hv), _, Nat.le_refl _, hq _ (List.getElem_mem hv)⟩
  | tup ds =>
    cases hc
    simp [w_l_pick]
    refine draw_n hpos (by omega) hg fun v hv => ?_
    simp
    exact ⟨_, atI_ofNat (List.getElem?_eq_getElem hv), _, Nat.le_refl _, hq _ (List.getElem_mem hv)⟩
  | str x =>
    cases hc
    rw [List.length_map] at hpos hlen
    simp [w_l_pick]
    refine ⟨small_line hlen, draw_n hpos (by omega) hg fun v hv => ?_⟩
    simp
    exact ⟨small_line hlen, _, atI_ofNat (List.getElem?_eq_getElem hv), _, Nat.le_refl _, hq _ (List.mem_map.mpr ⟨_, List.getElem_mem hv, rfl⟩)⟩
  | _ => cases hc
theorem p_l_by_tails (ds : List D) (g : Nat) (q : D → Nat → Prop) (ex : Exn → Nat → Prop) (hl : ds.length = 1) (h : d_l_by_tails ds g q ex) : w_l_by_tails ex (kEndS q) (startD ["_law_word", "_law_tail", "_law_place"] ds) g := by
  obtain ⟨w, rfl, hw, hq⟩ := h
  simp [w_l_by_tails]
  refine ⟨w, rfl, hw, tlsW w, rfl, by unfold tlsW; rw [List.length_map, tOrd_len]; exact small_line (by omega), ?_⟩
  unfold tlsW
  refine lcW_all (M := stg) _ (fun i : Nat => D.int i) (tOrd w) (fun y hy k1 k0 hk => ?_) ⟨g, Nat.le_refl _, hq⟩
  simp [gwT]
  exact hk
theorem p_is_order (ds : List D) (g : Nat) (q : D → Nat → Prop) (ex : Exn → Nat → Prop) (hl : ds.length = 1) (h : d_is_order ds g q ex) : w_is_order ex (kEndS q) (startD ["value"] ds) g := by
  obtain ⟨v, rfl, ht, hs, hq⟩ := h
  simp [w_is_order]
  exact ⟨v, rfl, ht, hs, by simp; exact ⟨_, Nat.le_refl _, hq⟩⟩
theorem p_l_drawn (ds : List D) (g : Nat) (q : D → Nat → Prop) (ex : Exn → Nat → Prop) (hl : ds.length = 2) (h : d_l_drawn ds g q ex) : w_l_drawn ex (kEndS q) (startD ["_law_stream_here", "_law_most", "_law_size", "_law_letters", "_law_found", "_law_k", "_law_many"] ds) g := by
  obtain ⟨most, rfl, h1, h2, hg, hq⟩ := h
  -- the end: all found are letters
  have fin : ∀ (ys : List D) (g' : Nat), (∀ d ∈ ys, IsL d) → 1 ≤ ys.length → ys.length ≤ most → g' ≤ g + 40 → oJoin [] (.lst ys) fun r => ∃ n, g' ≤ n ∧ q r n := fun ys g' hy l1 l2 hg' => by
    obtain ⟨cs, rfl, hL, hc⟩ := isL_all hy
    refine ⟨_, cs.map fun c => [c], .inl rfl, by rw [List.map_map]; rfl, by rw [ones_sum, List.length_nil, Nat.mul_zero]; omega, g + 40, hg', ?_⟩
    rw [jn_ones]
    exact hq cs (by omega) (by omega) hL
  simp [w_l_drawn]
  refine draw_n (by omega) (by omega) (by omega) fun v hv => ?_
  simp
  refine ⟨small_line (by decide), pick_of (by omega) rfl (by simp) (by simp) fun L hL => ?_⟩
  have hLs : ∃ x : List Nat, L = .str x ∧ x ≠ [] ∧ x.length ≤ 26 ∧ Lets x := by
    have : ∀ x ∈ [[97], [97, 98], [97, 98, 99], [97, 122], [97, 97, 98], [97, 98, 99, 100, 101, 102, 103, 104, 105, 106, 107, 108, 109, 110, 111, 112, 113, 114, 115, 116, 117, 118, 119, 120, 121, 122]], x ≠ [] ∧ x.length ≤ 26 ∧ ∀ c ∈ x, 97 ≤ c ∧ c < 123 := by decide
    have hm : L ∈ ([[97], [97, 98], [97, 98, 99], [97, 122], [97, 97, 98], [97, 98, 99, 100, 101, 102, 103, 104, 105, 106, 107, 108, 109, 110, 111, 112, 113, 114, 115, 116, 117, 118, 119, 120, 121, 122]] : List (List Nat)).map D.str := hL
    obtain ⟨x, hx, rfl⟩ := List.mem_map.mp hm
    exact ⟨x, rfl, this x hx⟩
  obtain ⟨x, rfl, hx0, hxl, hxL⟩ := hLs
  have e1 : (1 : Int) + v = ((v + 1 : Nat) : Int) := by omega
  have rl : rngL 0 (1 + (v : Int)) = (List.range (v + 1)).map fun (i : Nat) => D.int (i : Int) := by rw [e1, rngL_0]
  refine ⟨by omega, by omega, by rw [rngL_len]; exact small_line (by omega), ?_⟩
  rw [rl]
  refine lcW_draw _ (fun _ d => IsL d) 1 (g + 40) (List.range (v + 1)) (by rw [List.length_range]; omega) (fun i hi g1 k1 k0 hg1 hk => ?_) fun ys hy => ?_
  · simp
    refine pick_of (by omega) rfl (by simpa using hx0) (by rw [List.length_map]; omega) fun d hd => hk d ?_
    obtain ⟨c, hc, rfl⟩ := List.mem_map.mp hd
    exact ⟨c, rfl, hxL c hc⟩
  · obtain ⟨hy1, hy2⟩ := paired_all hy
    rw [List.length_range] at hy2
    rw [List.length_range]
    refine draw_l (k := 3) (by omega) fun u hu => ?_
    simp
    split
    · -- repeated
      have em : (if (5 : Int) < 1 + (v : Int) then (5 : Int) else 1 + (v : Int)) = ((if 5 < 1 + v then 5 else 1 + v : Nat) : Int) := by split <;> split <;> omega
      rw [em]
      refine draw_n (by split <;> omega) (by split <;> omega) (by omega) fun m hm => ?_
      simp
      refine ⟨by omega, by omega, small_line (by omega), ?_⟩
      have pos : 0 < 1 + m := by omega
      have hm' : 1 + m ≤ ys.length := by split at hm <;> omega
      refine lcW_all (M := stg) _ (fun i => ys.getD (i % (1 + m)) .non) (List.range (v + 1)) (fun i hi k1 k0 hk => ?_) ?_
      · simp
        have lt := Nat.mod_lt i pos
        refine ⟨by omega, ?_⟩
        rw [show (1 : Int) + (m : Int) = ((1 + m : Nat) : Int) by omega, ← Int.natCast_emod]
        refine ⟨ys.getD (i % (1 + m)) .non, atI_ofNat ?_, hk⟩
        rw [List.getD_eq_getElem?_getD, List.getElem?_eq_getElem (by omega)]
        rfl
      · have zs : ∀ d ∈ (List.range (v + 1)).map (fun i => ys.getD (i % (1 + m)) D.non), IsL d := fun d hd => by
          obtain ⟨i, _, rfl⟩ := List.mem_map.mp hd
          have lt := Nat.mod_lt i pos
          rw [List.getD_eq_getElem?_getD, List.getElem?_eq_getElem (by omega)]
          exact hy1 _ (List.getElem_mem _)
        generalize hzs : (List.range (v + 1)).map (fun i => ys.getD (i % (1 + m)) D.non) = zs' at zs ⊢
        have hzl : zs'.length = v + 1 := by rw [← hzs]; simp
        refine draw_l (k := 2) (by omega) fun t ht => ?_
        simp
        split
        · refine pick_of (by omega) rfl (by simp) (by simp) fun d hd => ?_
          rw [e1]
          refine draw_n (by omega) (by omega) (by omega) fun s hs => ?_
          simp
          refine ⟨s, ixN_ofNat (by omega), ?_⟩
          have hd' : IsL d := by
            have : ∀ c ∈ [97, 98, 122], 97 ≤ c ∧ c < 123 := by decide
            have hm : d ∈ ([97, 98, 122] : List Nat).map (fun c => D.str [c]) := hd
            obtain ⟨c, hc, rfl⟩ := List.mem_map.mp hm
            exact ⟨c, rfl, this c hc⟩
          refine fin _ _ (fun d' hd2 => ?_) (by rw [List.length_set]; omega) (by rw [List.length_set]; omega) (by omega)
          rcases List.mem_or_eq_of_mem_set hd2 with h | rfl
          · exact zs d' h
          · exact hd'
        · exact fin zs' _ zs (by omega) (by omega) (by omega)
    · exact fin ys _ hy1 (by omega) (by omega) (by omega)
theorem p_l_ordered (ds : List D) (g : Nat) (q : D → Nat → Prop) (ex : Exn → Nat → Prop) (hl : ds.length = 2) (h : d_l_ordered ds g q ex) : w_l_ordered ex (kEndS q) (startD ["_law_stream_here", "_law_most", "_law_way", "_law_many", "_law_found", "_law_size", "_law_spot", "_law_place"] ds) g := by
  obtain ⟨most, rfl, h1, h2, hg, hq⟩ := h
  simp [w_l_ordered]
  refine draw_l (k := 4) (by omega) fun v hv => ?_
  simp
  refine draw_n (by omega) (by omega) (by omega) fun m hm => ?_
  simp
  by_cases c : v = 0
  · subst c
    simp
    refine ⟨most, rfl, h1, h2, by omega, fun w hw1 hw2 _ => ?_⟩
    simp
    refine ⟨w, rfl, by omega, _, ?_, hq (tOrd w) (by rw [tOrd_len]; exact hw1) (by rw [tOrd_len]; exact hw2) (tOrd_perm w)⟩
    omega
  · rw [if_neg (by simpa using c)]
    rw [show (1 : Int) + (m : Int) = ((m + 1 : Nat) : Int) by omega, rngL_0]
    refine ⟨by omega, by omega, forW_word (M := stg) (fun i ρ g' => g' = g + 1 + 1 + 3 * i ∧ ∃ o y5 y6, ρ = [.im (.ob 0), .im (.int most), .im (.int v), .im (.int ((m + 1 : Nat) : Int)), .im (.lst (nats o)), y5, y6, .no] ∧ isPerm o ∧ o.length = i) _ ⟨rfl, [], _, _, rfl, List.Perm.refl _, rfl⟩ (fun i d ρ g' K hd hI hK => ?_) (fun ρ g' hI => ?_)⟩
    · obtain ⟨rfl, o, y5, y6, rfl, ho, hol⟩ := hI
      obtain ⟨j, hj, rfl⟩ := nats_get hd
      obtain ⟨h3, h4⟩ := List.getElem?_eq_some_iff.mp hj
      have : j = i := by simpa using h4.symm
      subst this
      have hjm : j < m + 1 := by simpa using h3
      simp [gwT]
      rw [show (j : Int) + 1 = ((j + 1 : Nat) : Int) by omega]
      refine draw_n (by omega) (by omega) (by omega) fun a ha => ?_
      refine draw_l (k := 3) (by omega) fun b hb => ?_
      simp
      have hmin : ∃ c : Nat, c ≤ j ∧ (if b < j then (b : Int) else (j : Int)) = (c : Int) := by
        split
        · exact ⟨b, by omega, rfl⟩
        · exact ⟨j, Nat.le_refl _, rfl⟩
      obtain ⟨c, hcj, hc⟩ := hmin
      rw [hc]
      refine ⟨small_line (by decide), draw_l (k := 4) (by omega) fun t ht => ?_⟩
      have hsp : ∃ s : Nat, s ≤ j ∧ [D.int a, D.int 0, D.int j, D.int c][t]? = some (D.int s) := by
        match t, ht with
        | 0, _ => exact ⟨a, by omega, rfl⟩
        | 1, _ => exact ⟨0, by omega, rfl⟩
        | 2, _ => exact ⟨j, by omega, rfl⟩
        | 3, _ => exact ⟨c, hcj, rfl⟩
      obtain ⟨sp, hsj, hsp⟩ := hsp
      simp
      refine ⟨D.int sp, atI_ofNat hsp, ?_⟩
      simp
      rw [cut_to, cut_from]
      have tk : (nats o).take sp = (o.take sp).map fun i : Nat => D.int (i : Int) := by unfold nats; rw [List.map_take]
      have dr : (nats o).drop sp = (o.drop sp).map fun i : Nat => D.int (i : Int) := by unfold nats; rw [List.map_drop]
      have lt : (o.take sp).length ≤ 1000 := by rw [List.length_take]; omega
      have ld : (o.drop sp).length ≤ 1000 := by rw [List.length_drop]; omega
      rw [tk, dr]
      refine ⟨by rw [List.length_map]; exact small_line (by omega), ?_⟩
      refine lcW_all (M := stg) _ (fun i : Nat => D.int ((i : Int) + 1)) (o.take sp) (fun y hy k1 k0 hk => ?_) ?_
      · simp [gwT]
        exact hk
      · refine ⟨small_line (by decide), by rw [List.length_map]; exact small_line (by omega), by rw [List.length_map]; exact small_line (by omega), ?_⟩
        refine lcW_all (M := stg) _ (fun i : Nat => D.int ((i : Int) + 1)) (o.drop sp) (fun y hy k1 k0 hk => ?_) ?_
        · simp [gwT]
          exact hk
        · refine ⟨by rw [List.length_map, List.length_map]; exact small_line (by omega), ?_⟩
          rw [grw_nats]
          exact hK _ _ ⟨by rw [Nat.mul_succ]; rfl, _, _, _, rfl, grw_perm ho sp, by rw [grw_len, hol]⟩
    · obtain ⟨rfl, o, y5, y6, rfl, ho, hol⟩ := hI
      simp
      have hol' : o.length = m + 1 := by simpa using hol
      exact ⟨g + 150, by omega, hq o (by omega) (by omega) ho⟩
theorem run_all : ∀ n : Nat, 2 ≤ n → n ≤ 6 → (runU ((allO n).map tHash) 7 []).isSome = true := fun n h1 h2 => by
  have : n = 2 ∨ n = 3 ∨ n = 4 ∨ n = 5 ∨ n = 6 := by omega
  rcases this with rfl | rfl | rfl | rfl | rfl
  · decide +kernel
  · decide +kernel
  · decide +kernel
  · exact r5
  · exact r6
theorem lists_one {xs ys zs : List (List Nat)} (h1 : ys.Perm xs) (h2 : zs.Perm xs) (s1 : ys.Pairwise fun a b => ¬ b < a) (s2 : zs.Pairwise fun a b => ¬ b < a) : ys = zs :=
  List.Perm.eq_of_pairwise (le := fun a b => ¬ b < a) (fun a b _ _ h1 h2 => List.le_antisymm (List.not_lt.mp h1) (List.not_lt.mp h2)) s1 s2 (h1.trans h2.symm)
theorem tups_eq (ys : List (List Nat)) : shp (.lst (tups ys)) = true ∧ deq (.lst (tups ys)) (.lst (tups ys)) = true := by
  refine ⟨(sh_lst (k := 1) fun d hd => ?_).ok (by decide), deq_refl (d := .lst (tups ys)) (nbA_all.mpr fun d hd => ?_)⟩
  · obtain ⟨y, _, rfl⟩ := List.mem_map.mp hd
    exact sh_tup (sh_nats y)
  · obtain ⟨y, _, rfl⟩ := List.mem_map.mp hd
    exact nb_nats y
theorem gr_call {o : List Nat} {s g : Nat} {q : D → Nat → Prop} {ex : Exn → Nat → Prop} (ho : o.length ≤ 23) (hs : s ≤ o.length) (h : q (.tup (nats (grnW o s))) g) : d_grown [.tup (nats o), .int (s : Int)] g q ex := by
  refine ⟨o, _, rfl, by omega, ok_int, ?_⟩
  rw [show isInt (.int (s : Int)) 0 (o.length : Int) = true by unfold isInt; simp; omega, if_pos rfl, if_neg (by omega)]
  exact h
theorem inv_head {o : List Nat} (h : 1 ≤ o.length) : atI (nats (inv o)) 0 = some (.int (o.idxOf 0 : Nat)) := by
  refine (atI_ofNat (j := 0) ?_ : atI _ ((0 : Nat) : Int) = _)
  unfold nats inv
  rw [List.getElem?_map, List.getElem?_map, List.getElem?_range (by omega)]
  rfl
theorem grn_shr {o : List Nat} (ho : isPerm o) (h : 2 ≤ o.length) : grnW (shrW o) (o.idxOf 0) = o ∧ (shrW o).length + 1 = o.length ∧ o.idxOf 0 ≤ (shrW o).length := by
  obtain ⟨n, hn⟩ : ∃ n, o.length = n + 1 := ⟨o.length - 1, by omega⟩
  have hm : o ∈ (allO n).flatMap fun o => (List.range (n + 1)).map fun s => grnW o s := allO_all (n + 1) ho hn
  obtain ⟨p, hp, hm⟩ := List.mem_flatMap.mp hm
  obtain ⟨s, hs, rfl⟩ := List.mem_map.mp hm
  have hs := List.mem_range.mp hs
  have pl := (allO_ok n p hp).2
  rw [shr_grn, grn_zero (by omega)]
  exact ⟨rfl, by omega, by omega⟩
theorem p_law : w_law kLaw (rhoLaw 8 1) (0 : Nat) := by
  simp [w_law]
  rw [show rngL 0 (8 : Int) = (List.range 8).map fun (i : Nat) => D.int (i : Int) from rngL_0 8]
  refine forW_word (M := stg) (fun i ρ (g : Nat) => g ≤ 200 * i ∧ ∃ y2 y3 y4 y5, ρ = [.no, .im (.ob 0), y2, y3, y4, y5, .no, .no]) _ ⟨Nat.zero_le _, _, _, _, _, rfl⟩ (fun i d ρ g K hd hI hK => ?_) (fun ρ (g : Nat) hI => ?_)
  · obtain ⟨hg, y2, y3, y4, y5, rfl⟩ := hI
    have hi : i < 8 := by
      have := (List.getElem?_eq_some_iff.mp hd).1
      simpa using this
    simp
    refine ⟨23, rfl, by decide, by decide, by omega, fun o o1 o2 ho => ?_⟩
    simp
    rw [nats_len, show ((o.length : Int) + 1) = ((o.length + 1 : Nat) : Int) by omega, rngL_0]
    refine ⟨by omega, by omega, ?_⟩
    refine forW_word (M := stg) (fun k ρ (g' : Nat) => g' = g + 150 ∧ ∃ y4 y5, ρ = [.no, .im (.ob 0), .im d, .im (.tup (nats o)), y4, y5, .no, .no]) _ ⟨rfl, _, _, rfl⟩ (fun k e ρ g' K2 hd2 hI hK2 => ?_) (fun ρ (g' : Nat) hI => ?_)
    · obtain ⟨rfl, y4, y5, rfl⟩ := hI
      have hk : k < o.length + 1 := by
        have := (List.getElem?_eq_some_iff.mp hd2).1
        simpa using this
      rw [List.getElem?_map, List.getElem?_range hk] at hd2
      cases hd2
      simp
      refine gr_call o2 (by omega) ?_
      have gl : (grnW o k).length = o.length + 1 := by rw [grn_eq, grw_len]
      have gp : isPerm (grnW o k) := grw_perm ho k
      have sg := shr_grn o k
      have gz := grn_zero (o := o) (s := k) (by omega)
      have ih := inv_head (o := grnW o k) (by omega)
      have og := ord_good gp (by omega) (by omega)
      rw [gz] at ih
      generalize grnW o k = p at gl gp sg ih og ⊢
      refine ⟨_, rfl, ⟨_, rfl⟩, fun d hd => (by obtain ⟨n, _, rfl⟩ := List.mem_map.mp hd; exact ok_int), ?_⟩
      rw [og]
      simp
      refine ⟨p, rfl, by omega, ?_⟩
      rw [sg]
      simp
      refine ⟨shp_tups, deq_refl (d := .tup (nats o)) (nb_nats o), ?_⟩
      refine ⟨p, rfl, gp, by omega, ?_⟩
      simp
      refine ⟨_, ih, ?_⟩
      simp
      exact hK2 _ _ ⟨rfl, _, _, rfl⟩
    · obtain ⟨rfl, y4, y5, rfl⟩ := hI
      simp
      rw [nats_len]
      have fin := hK [.no, .im (.ob 0), .im d, .im (.tup (nats o)), y4, y5, .no, .no] (g + 150) ⟨by omega, _, _, _, _, rfl⟩
      split
      · rename_i h2
        obtain ⟨q1, q2, q3⟩ := grn_shr ho (by omega)
        refine ⟨o, rfl, by omega, ?_⟩
        refine ⟨o, rfl, ho, by omega, ?_⟩
        simp
        refine ⟨_, inv_head o1, ?_⟩
        refine gr_call (by omega) q3 ?_
        rw [q1]
        simp
        exact ⟨shp_tups, deq_refl (d := .tup (nats o)) (nb_nats o), fin⟩
      · exact fin
  · obtain ⟨hg, y2, y3, y4, y5, rfl⟩ := hI
    rw [List.length_map, List.length_range] at hg
    simp
    refine draw_l (k := 5) (by omega) fun a ha => ?_
    simp
    rw [show (1 : Int) + (a : Int) = ((a + 1 : Nat) : Int) by omega]
    refine ⟨a + 1, rfl, by omega, ?_⟩
    simp
    have small : ∀ i, (((allO (a + 1)).take i).flatMap fun o => (List.range (a + 1 + 1)).map fun s => grnW o s).length ≤ 1000 := fun i => by
      have h1 := allO_small (a + 1 + 1) (by omega)
      have h2 : (allO (a + 1 + 1)) = ((allO (a + 1)).take i).flatMap (fun o => (List.range (a + 1 + 1)).map fun s => grnW o s) ++ ((allO (a + 1)).drop i).flatMap (fun o => (List.range (a + 1 + 1)).map fun s => grnW o s) := by
        rw [← List.flatMap_append, List.take_append_drop]
        rfl
      rw [h2, List.length_append] at h1
      omega
    refine forW_word (M := stg) (fun i ρ (g' : Nat) => g' = g + 1 ∧ ∃ y3, ρ = [.no, .im (.ob 0), y2, y3, y4, y5, .im (.int ((a : Int) + 1)), .own (tups (((allO (a + 1)).take i).flatMap fun o => (List.range (a + 1 + 1)).map fun s => grnW o s))]) _ ⟨rfl, _, rfl⟩ (fun i d ρ g' K hd hI hK => ?_) (fun ρ (g' : Nat) hI => ?_)
    · obtain ⟨rfl, y3, rfl⟩ := hI
      unfold tups at hd
      rw [List.getElem?_map] at hd
      cases hx : (allO (a + 1))[i]? with
      | none => rw [hx] at hd; cases hd
      | some o =>
        rw [hx] at hd
        cases hd
        have mo := List.mem_of_getElem? hx
        obtain ⟨ho, hl⟩ := allO_ok (a + 1) o mo
        have st : ((allO (a + 1)).take (i + 1)).flatMap (fun o => (List.range (a + 1 + 1)).map fun s => grnW o s) = ((allO (a + 1)).take i).flatMap (fun o => (List.range (a + 1 + 1)).map fun s => grnW o s) ++ (List.range (a + 1 + 1)).map fun s => grnW o s := by
          rw [List.take_succ, hx, List.flatMap_append]
          simp
        have sm := small (i + 1)
        rw [st, List.length_append] at sm
        rw [st] at hK
        simp
        rw [show ((a : Int) + 1 + 1) = ((a + 1 + 1 : Nat) : Int) by omega, rngL_0]
        refine ⟨by omega, by omega, small_line (by rw [List.length_map, List.length_range]; omega), ?_⟩
        refine lcW_all (M := stg) (fun s : Nat => D.int (s : Int)) (fun s : Nat => D.tup (nats (grnW o s))) (List.range (a + 1 + 1)) (fun s hs k1 k0 hk => ?_) ?_
        · have hs := List.mem_range.mp hs
          simp
          exact gr_call (by omega) (by omega) hk
        refine ⟨small_line (by unfold tups; rw [List.length_map, List.length_map]; rw [List.length_map] at sm; omega), hK _ _ ⟨rfl, .im (.tup (nats o)), ?_⟩⟩
        unfold tups
        rw [List.map_append, List.map_map (l := List.range (a + 1 + 1))]
        rfl
    · obtain ⟨rfl, y3, rfl⟩ := hI
      have e : (tups (allO (a + 1))).length = (allO (a + 1)).length := by unfold tups; rw [List.length_map]
      rw [e, List.take_length]
      rw [show ((allO (a + 1)).flatMap fun o => (List.range (a + 1 + 1)).map fun s => grnW o s) = allO (a + 1 + 1) from rfl]
      have run := run_all (a + 1 + 1) (by omega) (by omega)
      simp
      have ne : ∀ x ∈ allO (a + 1 + 1), x ≠ [] := fun x hx z => by
        have := (allO_ok (a + 1 + 1) x hx).2
        rw [z] at this
        simp at this
      refine ⟨allO (a + 1 + 1), rfl, ne, fun ys p1 s1 => ?_⟩
      refine ⟨a + 1 + 1, rfl, by omega, ?_⟩
      refine ⟨allO (a + 1 + 1), rfl, ne, fun zs p2 s2 => ?_⟩
      obtain rfl := lists_one p1 p2 s1 s2
      obtain ⟨h1, h2⟩ := tups_eq ys
      refine ⟨h1, h1, h2, ?_⟩
      refine ⟨allO (a + 1 + 1), rfl, run, ?_⟩
      simp [tups]
end LW
set_option Elab.async false
set_option linter.all false
set_option maxRecDepth 100000
set_option maxHeartbeats 4000000
namespace LW
open PySem L2 DL
theorem all_mk {l : PySem.W.OpenLaw} {w : World} {K : PySem.W.Frag} {h : Heap} {nm_NoIndex qn_NoIndex : Str} {N_NoIndex I_NoIndex : Addr} {bs_NoIndex bm_NoIndex sb_NoIndex : List Value} {sn_NoIndex : List Str} {ab_NoIndex : Bool} {col_NoIndex : Option Bool} {dd_NoIndex : Option Addr} {m0_NoIndex m1_NoIndex m2_NoIndex m3_NoIndex m5_NoIndex : Option Value} {o1_NoIndex doc_NoIndex pm_NoIndex cdv_NoIndex ct_NoIndex : Value} {od_NoIndex an_NoIndex : Option Addr} {osl_NoIndex : Array (Option Value)} {p1_NoIndex p2_NoIndex q1_NoIndex q2_NoIndex q3_NoIndex q4_NoIndex : Pos} {nm_TooLong qn_TooLong : Str} {N_TooLong I_TooLong : Addr} {bs_TooLong bm_TooLong sb_TooLong : List Value} {sn_TooLong : List Str} {ab_TooLong : Bool} {col_TooLong : Option Bool} {dd_TooLong : Option Addr} {m0_TooLong m1_TooLong m2_TooLong m3_TooLong m5_TooLong : Option Value} {o1_TooLong doc_TooLong pm_TooLong cdv_TooLong ct_TooLong : Value} {od_TooLong an_TooLong : Option Addr} {osl_TooLong : Array (Option Value)} {p1_TooLong p2_TooLong q1_TooLong q2_TooLong q3_TooLong q4_TooLong : Pos} {C_NoIndex C_TooLong : Addr} {tk1 : Nat} {mg : Str → Option Value} {fa f1 f2 f3 f4 f5 f6 f7 f8 f9 f10 f11 f12 f13 f14 f15 f16 : Addr} (X : K.In h) (G : h.Ns mainGlobals mg) (hfa : mg "law" = some (.ref fa))
    {od1 an1 od2 an2 od3 an3 od4 an4 od5 an5 od6 an6 od7 an7 od8 an8 od9 an9 od10 an10 od11 an11 od12 an12 od13 an13 od14 an14 od15 an15 od16 an16 : Option Addr} {sl1 sl2 sl3 sl4 sl5 sl6 sl7 sl8 sl9 sl10 sl11 sl12 sl13 sl14 sl15 sl16 : Array (Option Value)} {oc1 kV1 dc1 pm1 cd1 ct1 oc2 kV2 dc2 pm2 cd2 ct2 oc3 kV3 dc3 pm3 cd3 ct3 oc4 kV4 dc4 pm4 cd4 ct4 oc5 kV5 dc5 pm5 cd5 ct5 oc6 kV6 dc6 pm6 cd6 ct6 oc7 kV7 dc7 pm7 cd7 ct7 oc8 kV8 dc8 pm8 cd8 ct8 oc9 kV9 dc9 pm9 cd9 ct9 oc10 kV10 dc10 pm10 cd10 ct10 oc11 kV11 dc11 pm11 cd11 ct11 oc12 kV12 dc12 pm12 cd12 ct12 oc13 kV13 dc13 pm13 cd13 ct13 oc14 kV14 dc14 pm14 cd14 ct14 oc15 kV15 dc15 pm15 cd15 ct15 oc16 kV16 dc16 pm16 cd16 ct16 : Value}
    (a1 : PySem.W.nsIn K mainGlobals "is_integer" = some (some (.ref f1))) (l1 : K.lookup f1 = some ⟨oc1, od1, .func (PySem.W.fnOf "is_integer" "is_integer" (defArgs s_is_integer) (defBody s_is_integer) (defScope s_is_integer) .none kV1 dc1 pm1 an1 cd1 ct1), sl1⟩) (c1 : PySem.W.codeIn K cd1 "is_integer" = true) (k1 : PySem.W.keepIn K (.ref f1) = true)
    (a2 : PySem.W.nsIn K mainGlobals "ranks_in" = some (some (.ref f2))) (l2 : K.lookup f2 = some ⟨oc2, od2, .func (PySem.W.fnOf "ranks_in" "ranks_in" (defArgs s_ranks_in) (defBody s_ranks_in) (defScope s_ranks_in) .none kV2 dc2 pm2 an2 cd2 ct2), sl2⟩) (c2 : PySem.W.codeIn K cd2 "ranks_in" = true) (k2 : PySem.W.keepIn K (.ref f2) = true)
    (a3 : PySem.W.nsIn K mainGlobals "order_error" = some (some (.ref f3))) (l3 : K.lookup f3 = some ⟨oc3, od3, .func (PySem.W.fnOf "order_error" "order_error" (defArgs s_order_error) (defBody s_order_error) (defScope s_order_error) .none kV3 dc3 pm3 an3 cd3 ct3), sl3⟩) (c3 : PySem.W.codeIn K cd3 "order_error" = true) (k3 : PySem.W.keepIn K (.ref f3) = true)
    (a4 : PySem.W.nsIn K mainGlobals "is_order" = some (some (.ref f4))) (l4 : K.lookup f4 = some ⟨oc4, od4, .func (PySem.W.fnOf "is_order" "is_order" (defArgs s_is_order) (defBody s_is_order) (defScope s_is_order) .none kV4 dc4 pm4 an4 cd4 ct4), sl4⟩) (c4 : PySem.W.codeIn K cd4 "is_order" = true) (k4 : PySem.W.keepIn K (.ref f4) = true)
    (a5 : PySem.W.nsIn K mainGlobals "ranks_of" = some (some (.ref f5))) (l5 : K.lookup f5 = some ⟨oc5, od5, .func (PySem.W.fnOf "ranks_of" "ranks_of" (defArgs s_ranks_of) (defBody s_ranks_of) (defScope s_ranks_of) .none kV5 dc5 pm5 an5 cd5 ct5), sl5⟩) (c5 : PySem.W.codeIn K cd5 "ranks_of" = true) (k5 : PySem.W.keepIn K (.ref f5) = true)
    (a6 : PySem.W.nsIn K mainGlobals "shrunk" = some (some (.ref f6))) (l6 : K.lookup f6 = some ⟨oc6, od6, .func (PySem.W.fnOf "shrunk" "shrunk" (defArgs s_shrunk) (defBody s_shrunk) (defScope s_shrunk) .none kV6 dc6 pm6 an6 cd6 ct6), sl6⟩) (c6 : PySem.W.codeIn K cd6 "shrunk" = true) (k6 : PySem.W.keepIn K (.ref f6) = true)
    (a7 : PySem.W.nsIn K mainGlobals "grown" = some (some (.ref f7))) (l7 : K.lookup f7 = some ⟨oc7, od7, .func (PySem.W.fnOf "grown" "grown" (defArgs s_grown) (defBody s_grown) (defScope s_grown) .none kV7 dc7 pm7 an7 cd7 ct7), sl7⟩) (c7 : PySem.W.codeIn K cd7 "grown" = true) (k7 : PySem.W.keepIn K (.ref f7) = true)
    (a8 : PySem.W.nsIn K mainGlobals "_law_stream" = some (some (.ref f8))) (l8 : K.lookup f8 = some ⟨oc8, od8, .func (PySem.W.fnOf "_law_stream" "_law_stream" (defArgs sStream) (defBody sStream) (defScope sStream) .none kV8 dc8 pm8 an8 cd8 ct8), sl8⟩) (c8 : PySem.W.codeIn K cd8 "_law_stream" = true) (k8 : PySem.W.keepIn K (.ref f8) = true)
    (a9 : PySem.W.nsIn K mainGlobals "_law_draw" = some (some (.ref f9))) (l9 : K.lookup f9 = some ⟨oc9, od9, .func (PySem.W.fnOf "_law_draw" "_law_draw" (defArgs sDraw) (defBody sDraw) (defScope sDraw) .none kV9 dc9 pm9 an9 cd9 ct9), sl9⟩) (c9 : PySem.W.codeIn K cd9 "_law_draw" = true) (k9 : PySem.W.keepIn K (.ref f9) = true)
    (a10 : PySem.W.nsIn K mainGlobals "_law_pick" = some (some (.ref f10))) (l10 : K.lookup f10 = some ⟨oc10, od10, .func (PySem.W.fnOf "_law_pick" "_law_pick" (defArgs s_l_pick) (defBody s_l_pick) (defScope s_l_pick) .none kV10 dc10 pm10 an10 cd10 ct10), sl10⟩) (c10 : PySem.W.codeIn K cd10 "_law_pick" = true) (k10 : PySem.W.keepIn K (.ref f10) = true)
    (a11 : PySem.W.nsIn K mainGlobals "_law_drawn" = some (some (.ref f11))) (l11 : K.lookup f11 = some ⟨oc11, od11, .func (PySem.W.fnOf "_law_drawn" "_law_drawn" (defArgs s_l_drawn) (defBody s_l_drawn) (defScope s_l_drawn) .none kV11 dc11 pm11 an11 cd11 ct11), sl11⟩) (c11 : PySem.W.codeIn K cd11 "_law_drawn" = true) (k11 : PySem.W.keepIn K (.ref f11) = true)
    (a12 : PySem.W.nsIn K mainGlobals "_law_tails" = some (some (.ref f12))) (l12 : K.lookup f12 = some ⟨oc12, od12, .func (PySem.W.fnOf "_law_tails" "_law_tails" (defArgs s_l_tails) (defBody s_l_tails) (defScope s_l_tails) .none kV12 dc12 pm12 an12 cd12 ct12), sl12⟩) (c12 : PySem.W.codeIn K cd12 "_law_tails" = true) (k12 : PySem.W.keepIn K (.ref f12) = true)
    (a13 : PySem.W.nsIn K mainGlobals "_law_by_tails" = some (some (.ref f13))) (l13 : K.lookup f13 = some ⟨oc13, od13, .func (PySem.W.fnOf "_law_by_tails" "_law_by_tails" (defArgs s_l_by_tails) (defBody s_l_by_tails) (defScope s_l_by_tails) .none kV13 dc13 pm13 an13 cd13 ct13), sl13⟩) (c13 : PySem.W.codeIn K cd13 "_law_by_tails" = true) (k13 : PySem.W.keepIn K (.ref f13) = true)
    (a14 : PySem.W.nsIn K mainGlobals "_law_ordered" = some (some (.ref f14))) (l14 : K.lookup f14 = some ⟨oc14, od14, .func (PySem.W.fnOf "_law_ordered" "_law_ordered" (defArgs s_l_ordered) (defBody s_l_ordered) (defScope s_l_ordered) .none kV14 dc14 pm14 an14 cd14 ct14), sl14⟩) (c14 : PySem.W.codeIn K cd14 "_law_ordered" = true) (k14 : PySem.W.keepIn K (.ref f14) = true)
    (a15 : PySem.W.nsIn K mainGlobals "_law_all_orders" = some (some (.ref f15))) (l15 : K.lookup f15 = some ⟨oc15, od15, .func (PySem.W.fnOf "_law_all_orders" "_law_all_orders" (defArgs s_l_all_orders) (defBody s_l_all_orders) (defScope s_l_all_orders) .none kV15 dc15 pm15 an15 cd15 ct15), sl15⟩) (c15 : PySem.W.codeIn K cd15 "_law_all_orders" = true) (k15 : PySem.W.keepIn K (.ref f15) = true)
    (a16 : PySem.W.nsIn K mainGlobals "law" = some (some (.ref f16))) (l16 : K.lookup f16 = some ⟨oc16, od16, .func (PySem.W.fnOf "law" "law" (defArgs s_law) (defBody s_law) (defScope s_law) .none kV16 dc16 pm16 an16 cd16 ct16), sl16⟩) (c16 : PySem.W.codeIn K cd16 "law" = true) (k16 : PySem.W.keepIn K (.ref f16) = true)
    (z1 : PySem.W.nsIn K mainGlobals "abs" = some none)
    (z2 : PySem.W.nsIn K mainGlobals "bool" = some none)
    (z3 : PySem.W.nsIn K mainGlobals "enumerate" = some none)
    (z4 : PySem.W.nsIn K mainGlobals "int" = some none)
    (z5 : PySem.W.nsIn K mainGlobals "isinstance" = some none)
    (z6 : PySem.W.nsIn K mainGlobals "len" = some none)
    (z7 : PySem.W.nsIn K mainGlobals "min" = some none)
    (z8 : PySem.W.nsIn K mainGlobals "range" = some none)
    (z9 : PySem.W.nsIn K mainGlobals "set" = some none)
    (z10 : PySem.W.nsIn K mainGlobals "sorted" = some none)
    (z11 : PySem.W.nsIn K mainGlobals "tuple" = some none)
    (y1 : PySem.W.nsIn K mainGlobals "MAX_WORD" = some (some (.int 24 tk1)))
    (aC_NoIndex : PySem.W.nsIn K mainGlobals "NoIndex" = some (some (.ref C_NoIndex)))
    (aC_TooLong : PySem.W.nsIn K mainGlobals "TooLong" = some (some (.ref C_TooLong)))
    (ga_NoIndex : PySem.W.findIn K (.ref C_NoIndex) "__getattribute__" = some (some (.builtin "BaseException.__getattribute__")))
    (gg_NoIndex : PySem.W.findIn K (.ref C_NoIndex) "__getattr__" = some none)
    (eb_NoIndex : PySem.W.subIn K (.ref C_NoIndex) (.type "BaseException") = some true)
    (hd_NoIndex : PySem.W.hasDictIn K C_NoIndex = true)
    (kc_NoIndex : PySem.W.keepIn K (.ref C_NoIndex) = true)
    (ty_NoIndex : PySem.W.typeIn K (.ref C_NoIndex) = some (.type "type"))
    (xL_NoIndex : K.lookup C_NoIndex = some (excClassObj nm_NoIndex qn_NoIndex C_NoIndex N_NoIndex bs_NoIndex bm_NoIndex true sn_NoIndex sb_NoIndex ab_NoIndex col_NoIndex dd_NoIndex m0_NoIndex m1_NoIndex m2_NoIndex m3_NoIndex m5_NoIndex "LookupError.__new__"))
    (te_NoIndex : PySem.W.excTail [.type "LookupError", .type "Exception", .type "BaseException", .type "object"] bm_NoIndex = true)
    (sa_NoIndex : PySem.W.findIn K (.ref C_NoIndex) "__setattr__" = some (some (.builtin "object.__setattr__")))
    (tk_NoIndex : PySem.W.takerIn K C_NoIndex "value" = some none)
    (iC_NoIndex : PySem.W.findIn K (.ref C_NoIndex) "__init__" = some (some (.ref I_NoIndex)))
    (tI_NoIndex : PySem.W.typeIn K (.ref I_NoIndex) = some (.type "function"))
    (lI_NoIndex : K.lookup I_NoIndex = some ⟨o1_NoIndex, od_NoIndex, .func (PySem.W.fnOf "__init__" "NoIndex.__init__" (xA "value" p1_NoIndex p2_NoIndex) (xB "value" q1_NoIndex q2_NoIndex q3_NoIndex q4_NoIndex) (xS "value") .none .none doc_NoIndex pm_NoIndex an_NoIndex cdv_NoIndex ct_NoIndex), osl_NoIndex⟩)
    (cI_NoIndex : PySem.W.codeIn K cdv_NoIndex "NoIndex.__init__" = true)
    (ga_TooLong : PySem.W.findIn K (.ref C_TooLong) "__getattribute__" = some (some (.builtin "BaseException.__getattribute__")))
    (gg_TooLong : PySem.W.findIn K (.ref C_TooLong) "__getattr__" = some none)
    (eb_TooLong : PySem.W.subIn K (.ref C_TooLong) (.type "BaseException") = some true)
    (hd_TooLong : PySem.W.hasDictIn K C_TooLong = true)
    (kc_TooLong : PySem.W.keepIn K (.ref C_TooLong) = true)
    (ty_TooLong : PySem.W.typeIn K (.ref C_TooLong) = some (.type "type"))
    (xL_TooLong : K.lookup C_TooLong = some (excClassObj nm_TooLong qn_TooLong C_TooLong N_TooLong bs_TooLong bm_TooLong true sn_TooLong sb_TooLong ab_TooLong col_TooLong dd_TooLong m0_TooLong m1_TooLong m2_TooLong m3_TooLong m5_TooLong "ValueError.__new__"))
    (te_TooLong : PySem.W.excTail [.type "ValueError", .type "Exception", .type "BaseException", .type "object"] bm_TooLong = true)
    (sa_TooLong : PySem.W.findIn K (.ref C_TooLong) "__setattr__" = some (some (.builtin "object.__setattr__")))
    (tk_TooLong : PySem.W.takerIn K C_TooLong "limit" = some none)
    (iC_TooLong : PySem.W.findIn K (.ref C_TooLong) "__init__" = some (some (.ref I_TooLong)))
    (tI_TooLong : PySem.W.typeIn K (.ref I_TooLong) = some (.type "function"))
    (lI_TooLong : K.lookup I_TooLong = some ⟨o1_TooLong, od_TooLong, .func (PySem.W.fnOf "__init__" "TooLong.__init__" (xA "limit" p1_TooLong p2_TooLong) (xB "limit" q1_TooLong q2_TooLong q3_TooLong q4_TooLong) (xS "limit") .none .none doc_TooLong pm_TooLong an_TooLong cdv_TooLong ct_TooLong), osl_TooLong⟩)
    (cI_TooLong : PySem.W.codeIn K cdv_TooLong "TooLong.__init__" = true)
    : ∃ fd : FuncData, (∀ (s : Shared) (v : Value), BindsTo s fd ⟨[v], []⟩ [("_law_script", v)]) ∧ ∀ base : Heap, K.In base → base.Ns mainGlobals mg → SmB base → FnG l.prog w K mg base 5 fa fd ["_law_script"] (spLaw K) := by
  have e := hfa.symm.trans (PySem.W.mg_of X G a16)
  cases e
  have F1 := fun_mk (st := s_is_integer) l1 c1 k1
  have F2 := fun_mk (st := s_ranks_in) l2 c2 k2
  have F3 := fun_mk (st := s_order_error) l3 c3 k3
  have F4 := fun_mk (st := s_is_order) l4 c4 k4
  have F5 := fun_mk (st := s_ranks_of) l5 c5 k5
  have F6 := fun_mk (st := s_shrunk) l6 c6 k6
  have F7 := fun_mk (st := s_grown) l7 c7 k7
  have F8 := fun_mk (st := sStream) l8 c8 k8
  have F9 := fun_mk (st := sDraw) l9 c9 k9
  have F10 := fun_mk (st := s_l_pick) l10 c10 k10
  have F11 := fun_mk (st := s_l_drawn) l11 c11 k11
  have F12 := fun_mk (st := s_l_tails) l12 c12 k12
  have F13 := fun_mk (st := s_l_by_tails) l13 c13 k13
  have F14 := fun_mk (st := s_l_ordered) l14 c14 k14
  have F15 := fun_mk (st := s_l_all_orders) l15 c15 k15
  have F16 := fun_mk (st := s_law) l16 c16 k16
  have g1 := PySem.W.mg_of X G a1
  have g2 := PySem.W.mg_of X G a2
  have g3 := PySem.W.mg_of X G a3
  have g4 := PySem.W.mg_of X G a4
  have g5 := PySem.W.mg_of X G a5
  have g6 := PySem.W.mg_of X G a6
  have g7 := PySem.W.mg_of X G a7
  have g8 := PySem.W.mg_of X G a8
  have g9 := PySem.W.mg_of X G a9
  have g10 := PySem.W.mg_of X G a10
  have g11 := PySem.W.mg_of X G a11
  have g12 := PySem.W.mg_of X G a12
  have g13 := PySem.W.mg_of X G a13
  have g14 := PySem.W.mg_of X G a14
  have g15 := PySem.W.mg_of X G a15
  have g16 := PySem.W.mg_of X G a16
  have m_abs := PySem.W.mg_none_of X G z1
  have m_bool := PySem.W.mg_none_of X G z2
  have m_enumerate := PySem.W.mg_none_of X G z3
  have m_int := PySem.W.mg_none_of X G z4
  have m_isinstance := PySem.W.mg_none_of X G z5
  have m_len := PySem.W.mg_none_of X G z6
  have m_min := PySem.W.mg_none_of X G z7
  have m_range := PySem.W.mg_none_of X G z8
  have m_set := PySem.W.mg_none_of X G z9
  have m_sorted := PySem.W.mg_none_of X G z10
  have m_tuple := PySem.W.mg_none_of X G z11
  have c_MAX_WORD : GlI (mg "MAX_WORD") 24 := ⟨_, PySem.W.mg_of X G y1⟩
  have xr_NoIndex : RaisesF K "NoIndex" "value" := ⟨"LookupError", _, _, _, C_NoIndex, I_NoIndex, _, ⟨aC_NoIndex, (exInit_of xL_NoIndex te_NoIndex).1, (exInit_of xL_NoIndex te_NoIndex).2, sa_NoIndex, tk_NoIndex, hd_NoIndex, iC_NoIndex, tI_NoIndex, kc_NoIndex, eb_NoIndex, ty_NoIndex, by decide, ⟨_, _, _, _, _, _, _, _, _, _, _, _, _, _, lI_NoIndex, cI_NoIndex⟩, PySem.F.excBase_LookupError, PySem.F.store_LookupError⟩⟩
  have xr_TooLong : RaisesF K "TooLong" "limit" := ⟨"ValueError", _, _, _, C_TooLong, I_TooLong, _, ⟨aC_TooLong, (exInit_of xL_TooLong te_TooLong).1, (exInit_of xL_TooLong te_TooLong).2, sa_TooLong, tk_TooLong, hd_TooLong, iC_TooLong, tI_TooLong, kc_TooLong, eb_TooLong, ty_TooLong, by decide, ⟨_, _, _, _, _, _, _, _, _, _, _, _, _, _, lI_TooLong, cI_TooLong⟩, PySem.F.excBase_ValueError, PySem.F.store_ValueError⟩⟩
  have bs := F8.binds (ps := ["_law_script"]) fun _ _ _ _ _ _ us hl => match us, hl with | [_], _ => rfl
  have bd := F9.binds (ps := ["_law_stream_here", "_law_many"]) fun _ _ _ _ _ _ us hl => match us, hl with | [_, _], _ => rfl
  refine ⟨PySem.W.fnOf "law" "law" (defArgs s_law) (defBody s_law) (defScope s_law) .none kV16 dc16 pm16 an16 cd16 ct16, fun s v => .of_eq rfl, fun base _ _ m_sm => ?_⟩
  have F_l_draw := fnB_of F9 g9 (ok_draw (P := l.prog) (w := w) (base := base) F9 m_len) bd
  have FS := ok_stream (P := l.prog) (w := w) (mg := mg) (base := base) F8 m_len m_abs
  have F_is_integer := ok_is_integer (P := l.prog) (w := w) (base := base) F1 g1 m_bool m_int m_isinstance p_is_integer
  have F_ranks_in := ok_ranks_in (P := l.prog) (w := w) (base := base) F2 g2 m_enumerate m_len m_tuple p_ranks_in
  have F_shrunk := ok_shrunk (P := l.prog) (w := w) (base := base) F6 g6 m_tuple p_shrunk
  have F_l_tails := ok_l_tails (P := l.prog) (w := w) (base := base) F12 g12 m_len m_range m_sorted p_l_tails
  have F_l_all_orders := ok_l_all_orders (P := l.prog) (w := w) (base := base) F15 g15 m_range m_tuple p_l_all_orders
  have F_order_error := ok_order_error (P := l.prog) (w := w) (base := base) F3 g3 F_is_integer m_enumerate m_isinstance m_len m_tuple c_MAX_WORD p_order_error
  have F_ranks_of := ok_ranks_of (P := l.prog) (w := w) (base := base) F5 g5 F_ranks_in p_ranks_of
  have F_grown := ok_grown (P := l.prog) (w := w) (base := base) F7 g7 F_is_integer m_len c_MAX_WORD xr_NoIndex xr_TooLong p_grown
  have F_l_pick := ok_l_pick (P := l.prog) (w := w) (base := base) F10 g10 F_l_draw m_len p_l_pick
  have F_l_by_tails := ok_l_by_tails (P := l.prog) (w := w) (base := base) F13 g13 F_l_tails m_tuple p_l_by_tails
  have F_is_order := ok_is_order (P := l.prog) (w := w) (base := base) F4 g4 F_order_error p_is_order
  have F_l_drawn := ok_l_drawn (P := l.prog) (w := w) (base := base) F11 g11 F_l_draw F_l_pick m_min m_range p_l_drawn
  have F_l_ordered := ok_l_ordered (P := l.prog) (w := w) (base := base) F14 g14 F_l_draw F_l_drawn F_l_by_tails m_min m_range m_tuple p_l_ordered
  exact ok_law (P := l.prog) (w := w) (base := base) F16 FS g8 k8 bs F_l_ordered F_grown F_is_order F_shrunk F_ranks_of F_l_draw F_l_all_orders m_len m_range m_set m_sorted p_law
end LW
open PySem PySem.W PyProof.Rows
set_option maxHeartbeats 0 in
theorem PySem.Challenge.cw_tailranks_k15_whole_orders_grown_and_shr_holds : PySem.Challenge.rw_tailranks_k15_whole_orders_grown_and_shr.Holds := by
  w_on; o_law; k_head; (case hw => w_witness2)
  k_fill
  refine DL.walkG (l := PySem.Challenge.rw_tailranks_k15_whole_orders_grown_and_shr) (n := 63) (k := 5) (x := "_law_script") (sp := fun w => DL.spLaw _) rfl (by decide +kernel) (by decide) rfl ⟨rfl, by decide, by decide⟩ (fun w h Y => PySem.W.kIn_of Y) ?F (fun _ _ a ns hl hS => ⟨a, ns, rfl, hS, hl, fun _ => rfl⟩)
  case F =>
    intro w mg fa h KX G hmg
    refine' LW.all_mk KX G hmg ?a1 ?l1 ?c1 ?k1 ?a2 ?l2 ?c2 ?k2 ?a3 ?l3 ?c3 ?k3 ?a4 ?l4 ?c4 ?k4 ?a5 ?l5 ?c5 ?k5 ?a6 ?l6 ?c6 ?k6 ?a7 ?l7 ?c7 ?k7 ?a8 ?l8 ?c8 ?k8 ?a9 ?l9 ?c9 ?k9 ?a10 ?l10 ?c10 ?k10 ?a11 ?l11 ?c11 ?k11 ?a12 ?l12 ?c12 ?k12 ?a13 ?l13 ?c13 ?k13 ?a14 ?l14 ?c14 ?k14 ?a15 ?l15 ?c15 ?k15 ?a16 ?l16 ?c16 ?k16 ?z1 ?z2 ?z3 ?z4 ?z5 ?z6 ?z7 ?z8 ?z9 ?z10 ?z11 ?y1 ?aC_NoIndex ?aC_TooLong ?ga_NoIndex ?gg_NoIndex ?eb_NoIndex ?hd_NoIndex ?kc_NoIndex ?ty_NoIndex ?xL_NoIndex ?te_NoIndex ?sa_NoIndex ?tk_NoIndex ?iC_NoIndex ?tI_NoIndex ?lI_NoIndex ?cI_NoIndex ?ga_TooLong ?gg_TooLong ?eb_TooLong ?hd_TooLong ?kc_TooLong ?ty_TooLong ?xL_TooLong ?te_TooLong ?sa_TooLong ?tk_TooLong ?iC_TooLong ?tI_TooLong ?lI_TooLong ?cI_TooLong
    (case a1 => k_is); (case l1 => k_is); (case c1 => k_is); (case k1 => k_is); (case a2 => k_is); (case l2 => k_is); (case c2 => k_is); (case k2 => k_is); (case a3 => k_is); (case l3 => k_is); (case c3 => k_is); (case k3 => k_is); (case a4 => k_is); (case l4 => k_is); (case c4 => k_is); (case k4 => k_is); (case a5 => k_is); (case l5 => k_is); (case c5 => k_is); (case k5 => k_is); (case a6 => k_is); (case l6 => k_is); (case c6 => k_is); (case k6 => k_is); (case a7 => k_is); (case l7 => k_is); (case c7 => k_is); (case k7 => k_is); (case a8 => k_is); (case l8 => k_is); (case c8 => k_is); (case k8 => k_is); (case a9 => k_is); (case l9 => k_is); (case c9 => k_is); (case k9 => k_is); (case a10 => k_is); (case l10 => k_is); (case c10 => k_is); (case k10 => k_is); (case a11 => k_is); (case l11 => k_is); (case c11 => k_is); (case k11 => k_is); (case a12 => k_is); (case l12 => k_is); (case c12 => k_is); (case k12 => k_is); (case a13 => k_is); (case l13 => k_is); (case c13 => k_is); (case k13 => k_is); (case a14 => k_is); (case l14 => k_is); (case c14 => k_is); (case k14 => k_is); (case a15 => k_is); (case l15 => k_is); (case c15 => k_is); (case k15 => k_is); (case a16 => k_is); (case l16 => k_is); (case c16 => k_is); (case k16 => k_is); (case z1 => k_is); (case z2 => k_is); (case z3 => k_is); (case z4 => k_is); (case z5 => k_is); (case z6 => k_is); (case z7 => k_is); (case z8 => k_is); (case z9 => k_is); (case z10 => k_is); (case z11 => k_is); (case y1 => k_is); (case aC_NoIndex => k_is); (case aC_TooLong => k_is); (case ga_NoIndex => k_is); (case gg_NoIndex => k_is); (case eb_NoIndex => k_is); (case hd_NoIndex => k_is); (case kc_NoIndex => k_is); (case ty_NoIndex => k_is); (case xL_NoIndex => k_is); (case te_NoIndex => rfl); (case sa_NoIndex => k_is); (case tk_NoIndex => k_is); (case iC_NoIndex => k_is); (case tI_NoIndex => k_is); (case lI_NoIndex => k_is); (case cI_NoIndex => k_is); (case ga_TooLong => k_is); (case gg_TooLong => k_is); (case eb_TooLong => k_is); (case hd_TooLong => k_is); (case kc_TooLong => k_is); (case ty_TooLong => k_is); (case xL_TooLong => k_is); (case te_TooLong => rfl); (case sa_TooLong => k_is); (case tk_TooLong => k_is); (case iC_TooLong => k_is); (case tI_TooLong => k_is); (case lI_TooLong => k_is); (case cI_TooLong => k_is)
