import PyProof.Rows.All
import Wide.All
import OpenK.AllK
import Wide.FinOn
import HandS.ForMost
import HandS.Walk
import HandS.Exc
import HandS.WordsExc
import HandS.TupAny
import HandS.ExcCtx
import HandS.HotCalls
import KE.KxText
import KE.KSortTupG
import HandS.Ends
import KE.GoesZip
import KE.GoesEnum
import KE.GoesMore
import KE.KDictZip
import PyProof.CollectWalk
import KE.KDictList
import HandS.AnyAll
import HandS.IsInst
import HandS.Star
import HandS.Conv
import HandS.Style
import HandS.Text
import HandS.StrMore
import HandS.Wide
import HandS.ListEq
import HandS.Flow
import HandS.RevTup
import KE.KRevSl
import HandS.ExcField
import HandS.ExcIs
import KE.KExcIs
import KE.KExcInit
import KE.KTryMore
import HandS.Small
import HandS.SetFor
import PyProof.NeKinds
import KE.DataMinMax
import PyProof.ListStr
import HandS.TupMul
import HandS.More
import HandS.Set
import PyProof.SetKind
import PyProof.SetRoads
import PyProof.Rows.SortShellAny
import HandS.SortInts
import HandS.Replace
import PyProof.StrLaws
import HandS.Codes
import PyProof.CollectStr
import PyProof.SliceStr2
import PyProof.Rows.StrStep
import PyProof.StrLawsIn
import KE.DataCmp
import HandS.NoneIn
import KE.KUnpackStar
import HandS.RaiseMore
import HandS.Property
import KE.KCallOwn
import KE.KOpsOwn
import HandS.FStr
import HandS.Nested
import HandS.ClsMeth
import KE.KSuper
import OpenK.KMeth
import HandS.OwnEq
import KE.RegKIsAll
import HandS.Hot
import HandS.HeadHook3
import HandS.GenYield
import HandS.GenList
import PyProof.ForAny
import PyProof.StrLawsRepr
import PyProof.FitsInt
import PySem.Challenge.RW_tailranks_k83_desks_read
set_option Elab.async false
set_option linter.all false
set_option maxRecDepth 100000
set_option maxHeartbeats 1000000
namespace DL
open PySem L2

/-- data: texts are lists of code points; ob: the k-th anchored object of the ghost region -/
inductive D where
  | non | bl (b : Bool) | int (i : Int) | str (x : List Nat) | lst (xs : List D) | tup (xs : List D) | dic (kvs : List (Key × D)) | ob (k : Nat) | exn (cls : Str) (ns : List Str) (ds : List D) | tx (xs : List D) | cl (c : Str)
/-- the table of modules stands in the base -/
def SmB (base : Heap) : Prop := ∃ o, base.get? sysModules = some o
/-- a caught exception's own object is known to the object -/
def exU : HO := .ext fun _ => True

mutual
inductive Rp (K : PySem.W.Frag) (F : Hp) (R : List Addr) : V → D → Prop
  | non : Rp K F R .non .non
  | bl (b : Bool) : Rp K F R (.bl b) (.bl b)
  | int (i : Int) : Rp K F R (.int i) (.int i)
  | str (z : Str) (x : List Nat) : z.cps.toList = x → Rp K F R (.str z) (.str x)
  | lst {a : Addr} {vs : List V} {ds : List D} : F a = some (.lst vs) → RpA K F R vs ds → Rp K F R (.ref a) (.lst ds)
  | tup {a : Addr} {vs : List V} {ds : List D} : SqT K F a vs → RpA K F R vs ds → Rp K F R (.ref a) (.tup ds)
  | dic {a : Addr} {kvs : List (Key × V)} {kds : List (Key × D)} : F a = some (.dK kvs) → RpK K F R kvs kds → Rp K F R (.ref a) (.dic kds)
  | ob {a : Addr} {k : Nat} : R[k]? = some a → Rp K F R (.ref a) (.ob k)
  | exn0 {a C : Addr} {cls : Str} {oe : Obj} : PySem.W.nsIn K mainGlobals cls = some (some (.ref C)) → F a = some (.frz oe exU) → Zc (.ref C) none oe → (∃ fv, oe.data = .fields fv) → Rp K F R (.ref a) (.exn cls [] [])
  | exn {a C dd : Addr} {cls : Str} {oe : Obj} {ns : List Str} {vs : List V} {ds : List D} : PySem.W.nsIn K mainGlobals cls = some (some (.ref C)) → F a = some (.frz oe exU) → Zc (.ref C) (some dd) oe → (∃ fv, oe.data = .fields fv) →
      F dd = some (.xd (ns.zip vs)) → ns.length = vs.length → RpA K F R vs ds → Rp K F R (.ref a) (.exn cls ns ds)
  | tx {a : Addr} {vs : List V} {ds : List D} {o : Obj} : F a = some (.frz o (.tup vs)) → o.dict = none → o.cls = .type "tuple" → RpA K F R vs ds → Rp K F R (.ref a) (.tx ds)
  | cl {C : Addr} {c : Str} : PySem.W.nsIn K mainGlobals c = some (some (.ref C)) → Rp K F R (.ref C) (.cl c)
inductive RpA (K : PySem.W.Frag) (F : Hp) (R : List Addr) : List V → List D → Prop
  | nil : RpA K F R [] []
  | cons {v : V} {vs : List V} {d : D} {ds : List D} : Rp K F R v d → RpA K F R vs ds → RpA K F R (v :: vs) (d :: ds)
inductive RpK (K : PySem.W.Frag) (F : Hp) (R : List Addr) : List (Key × V) → List (Key × D) → Prop
  | nil : RpK K F R [] []
  | cons {k : Key} {v : V} {kvs : List (Key × V)} {d : D} {kds : List (Key × D)} : Rp K F R v d → RpK K F R kvs kds → RpK K F R ((k, v) :: kvs) ((k, d) :: kds)
end

theorem same_tup {K : PySem.W.Frag} {H H' : Hp} {a : Addr} {xs : List V} (e : Same H H') (h : SqT K H a xs) : SqT K H' a xs := by
  rcases h with (h | ⟨o, h⟩) | h
  · exact .inl (.inl (e _ _ h))
  · exact .inl (.inr ⟨o, e _ _ h⟩)
  · exact .inr h
section
variable {K : PySem.W.Frag} {F F' : Hp} {R R' : List Addr}
mutual
theorem Rp.mono (e : Same F F') (r : ∀ (k : Nat) a, R[k]? = some a → R'[k]? = some a) : ∀ {v : V} {d : D}, Rp K F R v d → Rp K F' R' v d
  | _, _, .non => .non
  | _, _, .bl b => .bl b
  | _, _, .int i => .int i
  | _, _, .str z x h => .str z x h
  | _, _, .lst h q => .lst (e _ _ h) (RpA.mono e r q)
  | _, _, .tup h q => .tup (same_tup e h) (RpA.mono e r q)
  | _, _, .dic h q => .dic (e _ _ h) (RpK.mono e r q)
  | _, _, .ob h => .ob (r _ _ h)
  | _, _, .exn0 h1 h2 h3 h4 => .exn0 h1 (e _ _ h2) h3 h4
  | _, _, .exn h1 h2 h3 h4 h5 h6 q => .exn h1 (e _ _ h2) h3 h4 (e _ _ h5) h6 (RpA.mono e r q)
  | _, _, .tx h1 h2 h3 q => .tx (e _ _ h1) h2 h3 (RpA.mono e r q)
  | _, _, .cl h => .cl h
theorem RpA.mono (e : Same F F') (r : ∀ (k : Nat) a, R[k]? = some a → R'[k]? = some a) : ∀ {v : List V} {d : List D}, RpA K F R v d → RpA K F' R' v d
  | _, _, .nil => .nil
  | _, _, .cons h q => .cons (Rp.mono e r h) (RpA.mono e r q)
theorem RpK.mono (e : Same F F') (r : ∀ (k : Nat) a, R[k]? = some a → R'[k]? = some a) : ∀ {v : List (Key × V)} {d : List (Key × D)}, RpK K F R v d → RpK K F' R' v d
  | _, _, .nil => .nil
  | _, _, .cons h q => .cons (Rp.mono e r h) (RpK.mono e r q)
end
theorem RpA.length : ∀ {vs : List V} {ds : List D}, RpA K F R vs ds → vs.length = ds.length
  | _, _, .nil => rfl
  | _, _, .cons _ t => by rw [List.length_cons, List.length_cons, t.length]
theorem RpA.get : ∀ {vs : List V} {ds : List D} {i : Nat} {v : V}, RpA K F R vs ds → vs[i]? = some v → ∃ d, ds[i]? = some d ∧ Rp K F R v d
  | _, _, _, _, .nil, e => by simp at e
  | _, _, 0, _, .cons r _, e => by simp at e; subst e; exact ⟨_, rfl, r⟩
  | _, _, i + 1, v, .cons _ t, e => by
    obtain ⟨u, h1, h2⟩ := RpA.get (i := i) (v := v) t (by simpa using e)
    exact ⟨u, by simpa using h1, h2⟩
theorem RpA.get' : ∀ {vs : List V} {ds : List D} {i : Nat} {d : D}, RpA K F R vs ds → ds[i]? = some d → ∃ v, vs[i]? = some v ∧ Rp K F R v d
  | _, _, _, _, .nil, e => by simp at e
  | _, _, 0, _, .cons r _, e => by simp at e; subst e; exact ⟨_, rfl, r⟩
  | _, _, i + 1, d, .cons _ t, e => by
    obtain ⟨u, h1, h2⟩ := RpA.get' (i := i) (d := d) t (by simpa using e)
    exact ⟨u, by simpa using h1, h2⟩
theorem RpA.append : ∀ {vs ws : List V} {ds es : List D}, RpA K F R vs ds → RpA K F R ws es → RpA K F R (vs ++ ws) (ds ++ es)
  | _, _, _, _, .nil, s => s
  | _, _, _, _, .cons r t, s => .cons r (RpA.append t s)
theorem RpA.take : ∀ {vs : List V} {ds : List D} (n : Nat), RpA K F R vs ds → RpA K F R (vs.take n) (ds.take n)
  | _, _, 0, _ => .nil
  | _, _, _ + 1, .nil => .nil
  | _, _, n + 1, .cons r t => .cons r (RpA.take n t)
theorem RpA.drop : ∀ {vs : List V} {ds : List D} (n : Nat), RpA K F R vs ds → RpA K F R (vs.drop n) (ds.drop n)
  | _, _, 0, r => r
  | _, _, _ + 1, .nil => .nil
  | _, _, n + 1, .cons _ t => RpA.drop n t
theorem RpA.set {v : V} {d : D} (r : Rp K F R v d) : ∀ {vs : List V} {ds : List D} (i : Nat), RpA K F R vs ds → RpA K F R (vs.set i v) (ds.set i d)
  | _, _, _, .nil => .nil
  | _, _, 0, .cons _ t => .cons r t
  | _, _, i + 1, .cons q t => .cons q (RpA.set r i t)
theorem RpA.strs : ∀ {vs : List V} {xs : List (List Nat)}, RpA K F R vs (xs.map D.str) → ∃ zs : List Str, vs = zs.map V.str ∧ zs.map (·.cps.toList) = xs
  | _, [], .nil => ⟨[], rfl, rfl⟩
  | _, x :: xs, .cons (.str z _ e) t => by
    obtain ⟨zs, h1, h2⟩ := RpA.strs (xs := xs) t
    exact ⟨z :: zs, by rw [h1]; rfl, by rw [List.map_cons, e, h2]⟩
theorem RpA.bls : ∀ {vs : List V} {bs : List Bool}, RpA K F R vs (bs.map D.bl) → vs = bs.map V.bl
  | _, [], .nil => rfl
  | _, b :: bs, .cons (.bl _) t => by rw [RpA.bls (bs := bs) t]; rfl
end

structure Ghost where
  G : Type
  ok : PySem.W.Frag → G → List Addr → Hp → Hp → Prop
  keep : ∀ {K : PySem.W.Frag} {g : G} {R : List Addr} {F H F' H' : Hp}, ok K g R F H → Same F F' → (∀ a ∈ R, H' a = H a) → ok K g R F' H'
structure Wd (M : Ghost) where
  F : Hp
  H : Hp
  R : List Addr
  g : M.G
structure Wok {M : Ghost} (K : PySem.W.Frag) (W : Wd M) : Prop where
  sub : Same W.F W.H
  gh : M.ok K W.g W.R W.F W.H
  rf : ∀ a ∈ W.R, W.F a = none
  rh : ∀ a ∈ W.R, W.H a ≠ none
structure Go {M : Ghost} (W W' : Wd M) : Prop where
  sub : Same W.F W'.F
  keep : ∀ a o, W.H a = some o → a ∉ W.R → W'.H a = some o
  live : ∀ a, W.H a ≠ none → W'.H a ≠ none
  young : ∀ a, W'.F a ≠ none → W.F a ≠ none ∨ W.H a = none
  reg : ∃ new, W'.R = W.R ++ new ∧ ∀ a ∈ new, W.H a = none
section
variable {M : Ghost} {K : PySem.W.Frag} {W W1 W2 W' : Wd M}
theorem Go.refl (W : Wd M) : Go W W := ⟨Same.refl _, fun _ _ h _ => h, fun _ h => h, fun _ h => .inl h, [], by simp, by simp⟩
theorem Go.notR (g : Go W W1) {a : Addr} (h : W.H a ≠ none) (n : a ∉ W.R) : a ∉ W1.R := by
  obtain ⟨new, e, q⟩ := g.reg
  rw [e]
  intro z
  rcases List.mem_append.mp z with z | z
  · exact n z
  · exact h (q a z)
theorem Go.trans (a : Go W W1) (b : Go W1 W2) : Go W W2 := by
  refine ⟨a.sub.trans b.sub, fun c o h n => ?_, fun c h => b.live c (a.live c h), fun c h => ?_, ?_⟩
  · exact b.keep c o (a.keep c o h n) (a.notR (by rw [h]; simp) n)
  · rcases b.young c h with z | z
    · exact a.young c z
    · right
      cases q : W.H c with
      | none => rfl
      | some o => exact absurd z (a.live c (by rw [q]; simp))
  · obtain ⟨n1, e1, q1⟩ := a.reg
    obtain ⟨n2, e2, q2⟩ := b.reg
    refine ⟨n1 ++ n2, by rw [e2, e1, List.append_assoc], fun c hc => ?_⟩
    rcases List.mem_append.mp hc with z | z
    · exact q1 c z
    · cases q : W.H c with
      | none => rfl
      | some o => exact absurd (q2 c z) (a.live c (by rw [q]; simp))
theorem Go.ix (g : Go W W1) : ∀ (k : Nat) a, W.R[k]? = some a → W1.R[k]? = some a := by
  obtain ⟨new, e, _⟩ := g.reg
  intro k a h
  rw [e, List.getElem?_append_left (List.getElem?_eq_some_iff.mp h).1]
  exact h
theorem Rp.step {v : V} {d : D} (h : Rp K W.F W.R v d) (g : Go W W1) : Rp K W1.F W1.R v d := h.mono g.sub g.ix
theorem RpA.step {v : List V} {d : List D} (h : RpA K W.F W.R v d) (g : Go W W1) : RpA K W1.F W1.R v d := h.mono g.sub g.ix
theorem RpK.step {v : List (Key × V)} {d : List (Key × D)} (h : RpK K W.F W.R v d) (g : Go W W1) : RpK K W1.F W1.R v d := h.mono g.sub g.ix

/-- a new object that stands still -/
abbrev Wd.lay (W : Wd M) (p : Addr) (o : HO) : Wd M := { W with F := upd W.F p o, H := upd W.H p o }
/-- a new object that is not (yet) frozen -/
abbrev Wd.new (W : Wd M) (p : Addr) (o : HO) : Wd M := { W with H := upd W.H p o }
abbrev Wd.freeze (W : Wd M) (p : Addr) (o : HO) : Wd M := { W with F := upd W.F p o }
theorem same_new {H : Hp} {p : Addr} {o : HO} (h : H p = none) : Same H (upd H p o) := fun b x e => by
  rw [upd_ne (ne_of_none e h)]
  exact e
theorem Wok.noR (k : Wok K W) {p : Addr} (h : W.H p = none) : p ∉ W.R := fun z => k.rh p z h
theorem Wok.noF (k : Wok K W) {p : Addr} (h : W.H p = none) : W.F p = none := k.sub.free h
theorem Go.new (k : Wok K W) {p : Addr} {o : HO} (h : W.H p = none) : Go W (W.new p o) := by
  refine ⟨Same.refl _, fun a x e _ => same_new h a x e, fun a e => ?_, fun _ z => .inl z, [], by simp, by simp⟩
  show upd W.H p o a ≠ none
  cases q : W.H a with
  | none => exact absurd q e
  | some x => rw [same_new h a x q]; simp
theorem Wok.new (k : Wok K W) {p : Addr} {o : HO} (h : W.H p = none) : Wok K (W.new p o) := by
  have nr := k.noR h
  refine ⟨k.sub.trans (same_new h), M.keep k.gh (Same.refl _) fun a ha => upd_ne (fun z => nr (z ▸ ha)), k.rf, fun a ha => ?_⟩
  show upd W.H p o a ≠ none
  rw [upd_ne (show a ≠ p from fun z => nr (z ▸ ha))]
  exact k.rh a ha
theorem Go.lay (k : Wok K W) {p : Addr} {o : HO} (h : W.H p = none) : Go W (W.lay p o) := by
  have g := Go.new (o := o) k h
  refine ⟨same_new (k.noF h), g.keep, g.live, fun a z => ?_, [], by simp, by simp⟩
  by_cases e : a = p
  · subst e; exact .inr h
  · rw [show (W.lay p o).F a = W.F a from upd_ne e] at z
    exact .inl z
theorem Wok.lay (k : Wok K W) {p : Addr} {o : HO} (h : W.H p = none) : Wok K (W.lay p o) := by
  have nr := k.noR h
  have q := Wok.new (o := o) k h
  refine ⟨fun a x e => ?_, M.keep q.gh (same_new (k.noF h)) fun a ha => rfl, fun a ha => ?_, q.rh⟩
  · by_cases z : a = p
    · subst z
      rw [show (W.lay a o).F a = some o from upd_same] at e
      rw [show (W.lay a o).H a = some o from upd_same]
      exact e
    · rw [show (W.lay p o).F a = W.F a from upd_ne z] at e
      rw [show (W.lay p o).H a = W.H a from upd_ne z]
      exact k.sub _ _ e
  · show upd W.F p o a = none
    rw [upd_ne (show a ≠ p from fun z => nr (z ▸ ha))]
    exact k.rf a ha
/-- freezing a thing of one's own -/
theorem Wok.freeze (k : Wok K W) {p : Addr} {o : HO} (h : W.H p = some o) (hf : W.F p = none) (nr : p ∉ W.R) : Wok K (W.freeze p o) := by
  refine ⟨fun a x e => ?_, M.keep k.gh (same_new hf) fun a ha => rfl, fun a ha => ?_, k.rh⟩
  · by_cases z : a = p
    · subst z
      rw [show (W.freeze a o).F a = some o from upd_same] at e
      cases e
      exact h
    · rw [show (W.freeze p o).F a = W.F a from upd_ne z] at e
      exact k.sub _ _ e
  · show upd W.F p o a = none
    rw [upd_ne (show a ≠ p from fun z => nr (z ▸ ha))]
    exact k.rf a ha
theorem Go.freeze {W0 : Wd M} (g : Go W0 W) {p : Addr} {o : HO} (hf : W.F p = none) (h0 : W0.H p = none) : Go W0 (W.freeze p o) := by
  refine ⟨g.sub.trans (same_new hf), g.keep, g.live, fun a z => ?_, g.reg⟩
  by_cases e : a = p
  · subst e; exact .inr h0
  · rw [show (W.freeze p o).F a = W.F a from upd_ne e] at z
    exact g.young a z
/-- writing a thing of one's own -/
abbrev Wd.put (W : Wd M) (p : Addr) (o : HO) : Wd M := { W with H := upd W.H p o }
theorem Wok.put (k : Wok K W) {p : Addr} {o : HO} (hf : W.F p = none) (nr : p ∉ W.R) : Wok K (W.put p o) := by
  refine ⟨fun a x e => ?_, M.keep k.gh (Same.refl _) fun a ha => upd_ne (fun z => nr (z ▸ ha)), k.rf, fun a ha => ?_⟩
  · show upd W.H p o a = some x
    rw [upd_ne (show a ≠ p from fun z => by rw [z, hf] at e; cases e)]
    exact k.sub _ _ e
  · show upd W.H p o a ≠ none
    rw [upd_ne (show a ≠ p from fun z => nr (z ▸ ha))]
    exact k.rh a ha
theorem Go.put {W0 : Wd M} (g : Go W0 W) {p : Addr} {o : HO} (h0 : W0.H p = none) : Go W0 (W.put p o) := by
  refine ⟨g.sub, fun a x e n => ?_, fun a e => ?_, g.young, g.reg⟩
  · show upd W.H p o a = some x
    rw [upd_ne (ne_of_none e h0)]
    exact g.keep a x e n
  · show upd W.H p o a ≠ none
    by_cases z : a = p
    · subst z; rw [upd_same]; simp
    · rw [upd_ne z]; exact g.live a e
end

structure Gs {M : Ghost} (W W' : Wd M) : Prop where
  sub : Same W.F W'.F
  ix : ∀ (k : Nat) a, W.R[k]? = some a → W'.R[k]? = some a
section
variable {M : Ghost} {W W1 W2 : Wd M}
theorem Gs.refl (W : Wd M) : Gs W W := ⟨Same.refl _, fun _ _ h => h⟩
theorem Gs.trans (a : Gs W W1) (b : Gs W1 W2) : Gs W W2 := ⟨a.sub.trans b.sub, fun k c h => b.ix k c (a.ix k c h)⟩
theorem Go.s (g : Go W W1) : Gs W W1 := ⟨g.sub, g.ix⟩
theorem Rp.gs {K : PySem.W.Frag} {v : V} {d : D} (h : Rp K W.F W.R v d) (g : Gs W W1) : Rp K W1.F W1.R v d := h.mono g.sub g.ix
theorem RpA.gs {K : PySem.W.Frag} {v : List V} {d : List D} (h : RpA K W.F W.R v d) (g : Gs W W1) : RpA K W1.F W1.R v d := h.mono g.sub g.ix
end

inductive Sl where
  | no | im (d : D) | own (ds : List D) | odt (kds : List (Key × D))
/-- a list or a dict of one's own -/
def Sl.isOwn : Sl → Bool
  | .own _ => true
  | .odt _ => true
  | _ => false
abbrev DEnv := List Sl
/-- an exception of the text: its class by name, its fields -/
structure Exn where
  cls : Str
  ns : List Str
  ds : List D
structure Ct (M : Ghost) where
  X : Cx
  W0 : Wd M
  EX : Exn → DEnv → M.G → Prop
  B : Wd M
section
variable {M : Ghost}
def SlOk (C : Ct M) (W : Wd M) : Sl → Option V → Prop
  | .no, _ => True
  | .im d, o => ∃ v, o = some v ∧ Rp C.X.K W.F W.R v d
  | .own ds, o => ∃ p vs, o = some (.ref p) ∧ W.H p = some (.lst vs) ∧ W.F p = none ∧ p ∉ W.R ∧ C.W0.H p = none ∧ RpA C.X.K W.F W.R vs ds
  | .odt kds, o => ∃ p kvs, o = some (.ref p) ∧ W.H p = some (.dK kvs) ∧ W.F p = none ∧ p ∉ W.R ∧ C.W0.H p = none ∧ RpK C.X.K W.F W.R kvs kds
theorem SlOk.live {C : Ct M} {W : Wd M} {s : Sl} {o : Option V} (h : SlOk C W s o) (ow : s.isOwn = true) : ∃ p u, o = some (.ref p) ∧ W.H p = some u ∧ W.F p = none ∧ p ∉ W.R ∧ C.W0.H p = none := by
  cases s with
  | no => cases ow
  | im d => cases ow
  | own ds =>
    obtain ⟨p, vs, e, h1, h2, h3, h4, r⟩ := h
    exact ⟨p, _, e, h1, h2, h3, h4⟩
  | odt ds =>
    obtain ⟨p, vs, e, h1, h2, h3, h4, r⟩ := h
    exact ⟨p, _, e, h1, h2, h3, h4⟩
structure Sat (C : Ct M) (σ : St) (ρ : DEnv) (W : Wd M) : Prop where
  ok : Wok C.X.K W
  go : Go C.W0 W
  len : σ.length = ρ.length
  sl : ∀ (i : Nat) s, ρ[i]? = some s → ∃ o, σ[i]? = some o ∧ SlOk C W s o
  dis : ∀ (i j : Nat) s t p, ρ[i]? = some s → ρ[j]? = some t → s.isOwn = true → t.isOwn = true → σ[i]? = some (some (.ref p)) → σ[j]? = some (some (.ref p)) → i = j
  gs : Gs C.B W
variable {C : Ct M} {W W1 W' : Wd M} {σ : St} {ρ : DEnv}
theorem SlOk.step {s : Sl} {o : Option V} (h : SlOk C W s o) (g : Go W W1) : SlOk C W1 s o := by
  cases s with
  | no => trivial
  | im d =>
    obtain ⟨v, e, r⟩ := h
    exact ⟨v, e, r.step g⟩
  | own ds =>
    obtain ⟨p, vs, e, h1, h2, h3, h4, r⟩ := h
    refine ⟨p, vs, e, g.keep _ _ h1 h3, ?_, g.notR (by rw [h1]; simp) h3, h4, r.step g⟩
    cases q : W1.F p with
    | none => rfl
    | some o =>
      rcases g.young p (by rw [q]; simp) with z | z
      · exact absurd h2 z
      · rw [h1] at z; cases z
  | odt ds =>
    obtain ⟨p, vs, e, h1, h2, h3, h4, r⟩ := h
    refine ⟨p, vs, e, g.keep _ _ h1 h3, ?_, g.notR (by rw [h1]; simp) h3, h4, r.step g⟩
    cases q : W1.F p with
    | none => rfl
    | some o =>
      rcases g.young p (by rw [q]; simp) with z | z
      · exact absurd h2 z
      · rw [h1] at z; cases z
theorem Sat.step (S : Sat C σ ρ W) (g : Go W W1) (k : Wok C.X.K W1) : Sat C σ ρ W1 :=
  ⟨k, S.go.trans g, S.len, fun i s e => let ⟨o, h1, h2⟩ := S.sl i s e; ⟨o, h1, h2.step g⟩, S.dis, S.gs.trans g.s⟩

abbrev EW (M : Ghost) := DEnv → M.G → (D → M.G → Prop) → Prop
def tOf (X : Cx) (e : Expr) : TE := fun σ H Q => ∀ (pins : List (Addr × Obj)) (s : Shared), Inv X pins σ H s → wpAny (model X.prog X.w) X.A (eval e X.env) (EP X pins σ Q) X.xe s
theorem pe_tOf {X : Cx} {e : Expr} : PE X e (tOf X e) := ⟨fun pins s _ _ _ I h => h pins s I⟩
theorem tOf_of {X : Cx} {e : Expr} {t : TE} (h : PE X e t) {σ : St} {H : Hp} {Q : VK} (q : t σ H Q) : tOf X e σ H Q := fun pins s I => h.run pins s σ H Q I q
/-- a value that may be looked at now: it stands still, or it is a list of one's own -/
def RdP (K : PySem.W.Frag) (W : Wd M) (v : V) (d : D) : Prop := Rp K W.F W.R v d ∨ ∃ p vs ds, v = .ref p ∧ d = .lst ds ∧ W.H p = some (.lst vs) ∧ p ∉ W.R ∧ RpA K W.F W.R vs ds
theorem RdP.step {K : PySem.W.Frag} {v : V} {d : D} (h : RdP K W v d) (g : Go W W1) : RdP K W1 v d := by
  rcases h with h | ⟨p, vs, ds, e1, e2, h, n, r⟩
  · exact .inl (h.step g)
  · exact .inr ⟨p, vs, ds, e1, e2, g.keep _ _ h n, g.notR (by rw [h]; simp) n, r.step g⟩
/-- the value of an expression that stands still -/
structure DE (C : Ct M) (e : Expr) (w : EW M) : Prop where
  run : ∀ (σ : St) (ρ : DEnv) (W : Wd M) (Q : VK) (q : D → M.G → Prop), Sat C σ ρ W → (∀ v d W', Go W W' → Wok C.X.K W' → Rp C.X.K W'.F W'.R v d → q d W'.g → Q v W'.H) → w ρ W.g q → tOf C.X e σ W.H Q
/-- one that is looked at -/
structure DP (C : Ct M) (e : Expr) (w : EW M) : Prop where
  run : ∀ (σ : St) (ρ : DEnv) (W : Wd M) (Q : VK) (q : D → M.G → Prop), Sat C σ ρ W → (∀ v d W', Go W W' → Wok C.X.K W' → RdP C.X.K W' v d → q d W'.g → Q v W'.H) → w ρ W.g q → tOf C.X e σ W.H Q
/-- what a slot may take -/
def Fresh (K : PySem.W.Frag) (W W' : Wd M) : V → Sl → Prop
  | _, .no => True
  | v, .im d => Rp K W'.F W'.R v d
  | v, .own ds => ∃ p vs, v = .ref p ∧ W'.H p = some (.lst vs) ∧ W'.F p = none ∧ p ∉ W'.R ∧ W.H p = none ∧ RpA K W'.F W'.R vs ds
  | v, .odt kds => ∃ p kvs, v = .ref p ∧ W'.H p = some (.dK kvs) ∧ W'.F p = none ∧ p ∉ W'.R ∧ W.H p = none ∧ RpK K W'.F W'.R kvs kds
theorem Fresh.live {K : PySem.W.Frag} {W W' : Wd M} {v : V} {s : Sl} (f : Fresh K W W' v s) (ow : s.isOwn = true) : ∃ p u, v = .ref p ∧ W'.H p = some u ∧ W'.F p = none ∧ p ∉ W'.R ∧ W.H p = none := by
  cases s with
  | no => cases ow
  | im d => cases ow
  | own ds =>
    obtain ⟨p, vs, e, h1, h2, h3, h4, r⟩ := f
    exact ⟨p, _, e, h1, h2, h3, h4⟩
  | odt ds =>
    obtain ⟨p, vs, e, h1, h2, h3, h4, r⟩ := f
    exact ⟨p, _, e, h1, h2, h3, h4⟩
abbrev VW (M : Ghost) := DEnv → M.G → (Sl → M.G → Prop) → Prop
structure DV (C : Ct M) (e : Expr) (w : VW M) : Prop where
  run : ∀ (σ : St) (ρ : DEnv) (W : Wd M) (Q : VK) (q : Sl → M.G → Prop), Sat C σ ρ W → (∀ v s W', Go W W' → Wok C.X.K W' → Fresh C.X.K W W' v s → q s W'.g → Q v W'.H) → w ρ W.g q → tOf C.X e σ W.H Q
/-- a new list -/
abbrev NW (M : Ghost) := DEnv → M.G → (List D → M.G → Prop) → Prop
structure DN (C : Ct M) (e : Expr) (w : NW M) : Prop where
  run : ∀ (σ : St) (ρ : DEnv) (W : Wd M) (Q : VK) (q : List D → M.G → Prop), Sat C σ ρ W → (∀ p vs ds W', Go W W' → Wok C.X.K W' → W'.H p = some (.lst vs) → W'.F p = none → p ∉ W'.R → W.H p = none → RpA C.X.K W'.F W'.R vs ds → q ds W'.g → Q (.ref p) W'.H) → w ρ W.g q → tOf C.X e σ W.H Q
variable {e : Expr} {w : EW M}
@[simp] def wL (w : NW M) : EW M := fun ρ g q => w ρ g fun ds g' => q (.lst ds) g'
@[simp] def wI (w : EW M) : VW M := fun ρ g q => w ρ g fun d g' => q (.im d) g'
@[simp] def wO (w : NW M) : VW M := fun ρ g q => w ρ g fun ds g' => q (.own ds) g'
theorem DE.p (h : DE C e w) : DP C e w := ⟨fun σ ρ W Q q S hQ hw => h.run σ ρ W Q q S (fun v d W' g k r => hQ v d W' g k (.inl r)) hw⟩
theorem DE.v (h : DE C e w) : DV C e (wI w) := ⟨fun σ ρ W Q q S hQ hw => h.run σ ρ W Q _ S (fun v d W' g k r hq => hQ v (.im d) W' g k r hq) hw⟩
theorem DN.v {w : NW M} (h : DN C e w) : DV C e (wO w) := ⟨fun σ ρ W Q q S hQ hw => h.run σ ρ W Q _ S (fun p vs ds W' g k h1 h2 h3 h4 r hq => hQ (.ref p) (.own ds) W' g k ⟨p, vs, rfl, h1, h2, h3, h4, r⟩ hq) hw⟩
theorem DN.p {w : NW M} (h : DN C e w) : DP C e (wL w) := ⟨fun σ ρ W Q q S hQ hw => h.run σ ρ W Q _ S (fun p vs ds W' g k h1 h2 h3 h4 r hq => hQ (.ref p) (.lst ds) W' g k (.inr ⟨p, vs, ds, rfl, rfl, h1, h3, r⟩) hq) hw⟩
theorem DN.fr {w : NW M} (h : DN C e w) : DE C e (wL w) := ⟨fun σ ρ W Q q S hQ hw => h.run σ ρ W Q _ S (fun p vs ds W' g k h1 h2 h3 h4 r hq =>
  hQ (.ref p) (.lst ds) (W'.freeze p (.lst vs)) (Go.freeze g h2 h4) (k.freeze h1 h2 h3) (.lst upd_same (r.mono (same_new h2) fun _ _ z => z)) hq) hw⟩

@[simp] def wVar (i : Nat) : EW M := fun ρ g q => ∃ d, ρ[i]? = some (.im d) ∧ q d g
@[simp] def wC (d : D) : EW M := fun _ g q => q d g
theorem de_var {i : Nat} {x : Str} {pos : Pos} (h : PE C.X (.Name x pos) (tVar i)) : DE C (.Name x pos) (wVar i) := ⟨fun σ ρ W Q q S hQ hw => by
  obtain ⟨d, e, hq⟩ := hw
  obtain ⟨o, h1, v, h2, r⟩ := S.sl i _ e
  subst h2
  exact tOf_of h ⟨v, h1, hQ v d W (Go.refl W) S.ok r hq⟩⟩
theorem de_c {e : Expr} {v : V} {d : D} (h : PE C.X e (tC v)) (r : ∀ F R, Rp C.X.K F R v d) : DE C e (wC d) := ⟨fun σ ρ W Q q S hQ hw => tOf_of h (hQ v d W (Go.refl W) S.ok (r _ _) hw)⟩
theorem de_int {i : Int} {j : Nat} {pos : Pos} : DE C (.Constant (.int i) j pos) (wC (.int i)) := de_c pe_int fun _ _ => .int i
theorem de_bl {b : Bool} {j : Nat} {pos : Pos} : DE C (.Constant (.bool b) j pos) (wC (.bl b)) := de_c pe_bl fun _ _ => .bl b
theorem de_non {j : Nat} {pos : Pos} : DE C (.Constant .none j pos) (wC .non) := de_c pe_non fun _ _ => .non
theorem de_str {x : Str} {j : Nat} {pos : Pos} (y : List Nat) (h : x.cps.toList = y := by decide) : DE C (.Constant (.str x) j pos) (wC (.str y)) := de_c pe_str fun _ _ => .str x y h

/-- an operation on two values, by data -/
structure OpD (C : Ct M) (f : Value → Value → Sem Value) (r : D → D → (D → Prop) → Prop) : Prop where
  run : ∃ rr, OpR C.X f rr ∧ ∀ (W : Wd M) (x y : V) (d e : D) (Q : VK) (q : D → Prop), Wok C.X.K W → RdP C.X.K W x d → RdP C.X.K W y e →
    (∀ v d' W', Go W W' → Wok C.X.K W' → W'.g = W.g → Rp C.X.K W'.F W'.R v d' → q d' → Q v W'.H) → r d e q → rr x y W.H Q
/-- .. that makes a new list -/
structure OpN (C : Ct M) (f : Value → Value → Sem Value) (r : D → D → (List D → Prop) → Prop) : Prop where
  run : ∃ rr, OpR C.X f rr ∧ ∀ (W : Wd M) (x y : V) (d e : D) (Q : VK) (q : List D → Prop), Wok C.X.K W → RdP C.X.K W x d → RdP C.X.K W y e →
    (∀ p vs ds W', Go W W' → Wok C.X.K W' → W'.g = W.g → W'.H p = some (.lst vs) → W'.F p = none → p ∉ W'.R → W.H p = none → RpA C.X.K W'.F W'.R vs ds → q ds → Q (.ref p) W'.H) → r d e q → rr x y W.H Q
@[simp] def wBin (r : D → D → (D → Prop) → Prop) (wa wb : EW M) : EW M := fun ρ g q => wa ρ g fun x g1 => wb ρ g1 fun y g2 => r x y fun d => q d g2
@[simp] def wBinN (r : D → D → (List D → Prop) → Prop) (wa wb : EW M) : NW M := fun ρ g q => wa ρ g fun x g1 => wb ρ g1 fun y g2 => r x y fun d => q d g2
variable {a b : Expr} {wa wb : EW M} {pos : Pos} {r : D → D → (D → Prop) → Prop} {rn : D → D → (List D → Prop) → Prop}
theorem two_run {f : Value → Value → Sem Value} {rr : R2} (ha : DP C a wa) (hb : DP C b wb) {Q : VK} {q : D → D → M.G → Prop} (S : Sat C σ ρ W)
    (h : ∀ W1 x y d e, Go W W1 → Wok C.X.K W1 → RdP C.X.K W1 x d → RdP C.X.K W1 y e → q d e W1.g → rr x y W1.H Q) (hw : wa ρ W.g fun x g1 => wb ρ g1 fun y g2 => q x y g2) :
    tOp rr (tOf C.X a) (tOf C.X b) σ W.H Q :=
  ha.run σ ρ W _ _ S (fun v d W1 g1 k1 r1 q1 => hb.run σ ρ W1 _ _ (S.step g1 k1) (fun u e W2 g2 k2 r2 q2 => h W2 v u d e (g1.trans g2) k2 (r1.step g2) r2 q2) q1) hw
theorem de_op {op : Operator} (ho : OpD C (binaryOp op) r) (ha : DP C a wa) (hb : DP C b wb) : DE C (.BinOp a op b pos) (wBin r wa wb) := ⟨fun σ ρ W Q q S hQ hw => by
  obtain ⟨rr, hop, h⟩ := ho.run
  exact tOf_of (pe_op hop pe_tOf pe_tOf) (two_run (f := binaryOp op) ha hb S (fun W1 x y d e g k r1 r2 q1 => h W1 x y d e Q _ k r1 r2 (fun v d' W' g' k' eg r' q' => hQ v d' W' (g.trans g') k' r' (eg ▸ q')) q1) hw)⟩
theorem dn_op {op : Operator} (ho : OpN C (binaryOp op) rn) (ha : DP C a wa) (hb : DP C b wb) : DN C (.BinOp a op b pos) (wBinN rn wa wb) := ⟨fun σ ρ W Q q S hQ hw => by
  obtain ⟨rr, hop, h⟩ := ho.run
  refine tOf_of (pe_op hop pe_tOf pe_tOf) (two_run (f := binaryOp op) ha hb S (fun W1 x y d e g k r1 r2 q1 => h W1 x y d e Q _ k r1 r2 (fun p vs ds W' g' k' eg h1 h2 h3 h4 r' q' => hQ p vs ds W' (g.trans g') k' h1 h2 h3 ?_ r' (eg ▸ q')) q1) hw)
  cases z : W.H p with
  | none => rfl
  | some o => exact absurd h4 (g.live p (by rw [z]; simp))⟩
theorem de_cmp {op : CmpOp} (ho : OpD C (compareOp op) r) (ha : DP C a wa) (hb : DP C b wb) (hm : behindInMarks op b = false) : DE C (.Compare a [op] [b] pos) (wBin r wa wb) := ⟨fun σ ρ W Q q S hQ hw => by
  obtain ⟨rr, hop, h⟩ := ho.run
  exact tOf_of (pe_cmpR hop pe_tOf pe_tOf hm) (two_run (f := compareOp op) ha hb S (fun W1 x y d e g k r1 r2 q1 => h W1 x y d e Q _ k r1 r2 (fun v d' W' g' k' eg r' q' => hQ v d' W' (g.trans g') k' r' (eg ▸ q')) q1) hw)⟩

abbrev TW (M : Ghost) := DEnv → M.G → (Bool → M.G → Prop) → Prop
def ttOf (X : Cx) (e : Expr) : TT := fun σ H Q => ∀ (pins : List (Addr × Obj)) (s : Shared), Inv X pins σ H s → wpAny (model X.prog X.w) X.A (isTrue e X.env (eval e X.env)) (TP X pins σ Q) X.xe s
theorem pt_tOf {X : Cx} {e : Expr} : PT X e (ttOf X e) := ⟨fun pins s _ _ _ I h => h pins s I⟩
theorem ttOf_of {X : Cx} {e : Expr} {t : TT} (h : PT X e t) {σ : St} {H : Hp} {Q : Bool → Hp → Prop} (q : t σ H Q) : ttOf X e σ H Q := fun pins s I => h.run pins s σ H Q I q
structure DT (C : Ct M) (e : Expr) (w : TW M) : Prop where
  run : ∀ (σ : St) (ρ : DEnv) (W : Wd M) (Q : Bool → Hp → Prop) (q : Bool → M.G → Prop), Sat C σ ρ W → (∀ b W', Go W W' → Wok C.X.K W' → q b W'.g → Q b W'.H) → w ρ W.g q → ttOf C.X e σ W.H Q
def twOf (X : Cx) (e : Expr) : TT := fun σ H Q => ∀ (whole : Sem Value) (pins : List (Addr × Obj)) (s : Shared), Inv X pins σ H s → wpAny (model X.prog X.w) X.A (isTrue e X.env whole) (TP X pins σ Q) X.xe s
theorem pw_tOf {X : Cx} {e : Expr} : PW X e (twOf X e) := ⟨fun wh pins s _ _ _ I h => h wh pins s I⟩
theorem twOf_of {X : Cx} {e : Expr} {t : TT} (h : PW X e t) {σ : St} {H : Hp} {Q : Bool → Hp → Prop} (q : t σ H Q) : twOf X e σ H Q := fun wh pins s I => h.run wh pins s σ H Q I q
structure DW (C : Ct M) (e : Expr) (w : TW M) : Prop where
  run : ∀ (σ : St) (ρ : DEnv) (W : Wd M) (Q : Bool → Hp → Prop) (q : Bool → M.G → Prop), Sat C σ ρ W → (∀ b W', Go W W' → Wok C.X.K W' → q b W'.g → Q b W'.H) → w ρ W.g q → twOf C.X e σ W.H Q
/-- the truth of a datum that is a bool -/
def isB (d : D) (q : Bool → Prop) : Prop := match d with
  | .bl b => q b
  | _ => False
@[simp] def wB (w : EW M) : TW M := fun ρ g q => w ρ g fun d g' => isB d fun b => q b g'
theorem isB_elim {d : D} {q : Bool → Prop} (h : isB d q) : ∃ b, d = .bl b ∧ q b := by
  cases d <;> first | exact h.elim | exact ⟨_, rfl, h⟩
theorem Rp.bl_inv {K : PySem.W.Frag} {F : Hp} {R : List Addr} {v : V} {b : Bool} (r : Rp K F R v (.bl b)) : v = .bl b := by cases r; rfl
theorem RdP.bl_inv {K : PySem.W.Frag} {v : V} {b : Bool} (r : RdP K W v (.bl b)) : v = .bl b := by
  rcases r with r | ⟨_, _, _, _, e, _⟩
  · exact r.bl_inv
  · cases e
theorem RdP.int_inv {K : PySem.W.Frag} {v : V} {b : Int} (r : RdP K W v (.int b)) : v = .int b := by
  rcases r with r | ⟨_, _, _, _, e, _⟩
  · cases r; rfl
  · cases e
theorem RdP.non_inv {K : PySem.W.Frag} {v : V} (r : RdP K W v .non) : v = .non := by
  rcases r with r | ⟨_, _, _, _, e, _⟩
  · cases r; rfl
  · cases e
theorem RdP.str_inv {K : PySem.W.Frag} {v : V} {x : List Nat} (r : RdP K W v (.str x)) : ∃ z : Str, v = .str z ∧ z.cps.toList = x := by
  rcases r with r | ⟨_, _, _, _, e, _⟩
  · cases r with
    | str z _ h => exact ⟨z, rfl, h⟩
  · cases e
theorem RdP.lst_inv {K : PySem.W.Frag} {v : V} {ds : List D} (k : Wok K W) (r : RdP K W v (.lst ds)) : ∃ p vs, v = .ref p ∧ W.H p = some (.lst vs) ∧ p ∉ W.R ∧ RpA K W.F W.R vs ds := by
  rcases r with r | ⟨p, vs, es, e1, e2, h, n, r⟩
  · cases r with
    | lst h q => exact ⟨_, _, rfl, k.sub _ _ h, (fun z => by rw [k.rf _ z] at h; cases h), q⟩
  · cases e2
    exact ⟨p, vs, e1, h, n, r⟩
theorem RdP.tup_inv {K : PySem.W.Frag} {v : V} {ds : List D} (r : RdP K W v (.tup ds)) : ∃ p vs, v = .ref p ∧ SqT K W.F p vs ∧ RpA K W.F W.R vs ds := by
  rcases r with r | ⟨_, _, _, _, e, _⟩
  · cases r with
    | tup h q => exact ⟨_, _, rfl, h, q⟩
  · cases e
theorem dt_val (h : DE C e w) (he : ∀ whole, isTrue e C.X.env whole = (do let v ← whole; standAt e.pos; holding [v] (truthy v)) := by intro _; rfl) : DT C e (wB w) := ⟨fun σ ρ W Q q S hQ hw =>
  ttOf_of (pt_val pe_tOf he) (h.run σ ρ W _ _ S (fun v d W' g k r1 q1 => by
    obtain ⟨b, rfl, q2⟩ := isB_elim q1
    exact ⟨b, r1.bl_inv, hQ b W' g k q2⟩) hw)⟩
theorem dt_cmp {op : CmpOp} (ho : OpD C (compareOp op) r) (ha : DP C a wa) (hb : DP C b wb) (hm : behindInMarks op b = false) : DT C (.Compare a [op] [b] pos) (wB (wBin r wa wb)) := ⟨fun σ ρ W Q q S hQ hw => by
  obtain ⟨rr, hop, h⟩ := ho.run
  exact ttOf_of (pt_cmpR hop pe_tOf pe_tOf hm) (two_run (f := compareOp op) ha hb S (fun W1 x y d e g k r1 r2 q1 => h W1 x y d e _ _ k r1 r2 (fun v d' W' g' k' eg r' q' => by
    obtain ⟨c, rfl, q2⟩ := isB_elim q'
    exact ⟨c, r'.bl_inv, hQ c W' (g.trans g') k' (eg ▸ q2)⟩) q1) hw)⟩
variable {wt wu : TW M} {rest : List Expr}
@[simp] def wNot (w : TW M) : TW M := fun ρ g q => w ρ g fun b g' => q (!b) g'
@[simp] def wAnd (w u : TW M) : TW M := fun ρ g q => w ρ g fun b g' => if b = true then u ρ g' q else q false g'
@[simp] def wOr (w u : TW M) : TW M := fun ρ g q => w ρ g fun b g' => if b = true then q true g' else u ρ g' q
theorem dt_not (ha : DT C a wt) : DT C (.UnaryOp .Not a pos) (wNot wt) := ⟨fun σ ρ W Q q S hQ hw => ttOf_of (pt_not pt_tOf) (ha.run σ ρ W _ _ S (fun b W' g k q1 => hQ (!b) W' g k q1) hw)⟩
theorem DW.t (h : DW C e wt) : DT C e wt := ⟨fun σ ρ W Q q S hQ hw pins s I => h.run σ ρ W Q q S hQ hw _ pins s I⟩
theorem dw_and1 (ha : DT C a wt) : DW C (.BoolOp .And [a] pos) wt := ⟨fun σ ρ W Q q S hQ hw => twOf_of (pw_and1 pt_tOf) (ha.run σ ρ W Q q S hQ hw)⟩
theorem dw_or1 (ha : DT C a wt) : DW C (.BoolOp .Or [a] pos) wt := ⟨fun σ ρ W Q q S hQ hw => twOf_of (pw_or1 pt_tOf) (ha.run σ ρ W Q q S hQ hw)⟩
theorem dw_and (ha : DT C a wt) (hb : DW C (.BoolOp .And (b :: rest) pos) wu) : DW C (.BoolOp .And (a :: b :: rest) pos) (wAnd wt wu) := ⟨fun σ ρ W Q q S hQ hw => twOf_of (pw_and pt_tOf pw_tOf) (ha.run σ ρ W _ _ S (fun c W' g k q1 => by
  cases c with
  | true => exact iteT (hb.run σ ρ W' Q q (S.step g k) (fun d W2 g2 k2 q2 => hQ d W2 (g.trans g2) k2 q2) q1)
  | false => exact iteF (hQ false W' g k q1)) hw)⟩
theorem dw_or (ha : DT C a wt) (hb : DW C (.BoolOp .Or (b :: rest) pos) wu) : DW C (.BoolOp .Or (a :: b :: rest) pos) (wOr wt wu) := ⟨fun σ ρ W Q q S hQ hw => twOf_of (pw_or pt_tOf pw_tOf) (ha.run σ ρ W _ _ S (fun c W' g k q1 => by
  cases c with
  | true => exact iteT (hQ true W' g k q1)
  | false => exact iteF (hb.run σ ρ W' Q q (S.step g k) (fun d W2 g2 k2 q2 => hQ d W2 (g.trans g2) k2 q2) q1)) hw)⟩
@[simp] def wAndV (w u : EW M) : EW M := fun ρ g q => w ρ g fun d g' => isB d fun b => if b = true then u ρ g' q else q (.bl false) g'
theorem de_one {op : BoolOp} (ha : DE C a wa) : DE C (.BoolOp op [a] pos) wa := ⟨fun σ ρ W Q q S hQ hw => tOf_of (pe_one pe_tOf) (ha.run σ ρ W _ _ S hQ hw)⟩
theorem de_and (ha : DE C a wa) (hb : DE C (.BoolOp .And (b :: rest) pos) wb) : DE C (.BoolOp .And (a :: b :: rest) pos) (wAndV wa wb) := ⟨fun σ ρ W Q q S hQ hw => tOf_of (pe_and pe_tOf pe_tOf) (ha.run σ ρ W _ _ S (fun v d W' g k r1 q1 => by
  obtain ⟨c, rfl, q2⟩ := isB_elim q1
  refine ⟨c, r1.bl_inv, ?_⟩
  cases c with
  | true => exact iteT (hb.run σ ρ W' Q q (S.step g k) (fun v d W2 g2 k2 r2 q2 => hQ v d W2 (g.trans g2) k2 r2 q2) q2)
  | false => exact iteF (hQ _ _ W' g k (.bl _) q2)) hw)⟩
@[simp] def wIf (w : TW M) (wa wb : EW M) : EW M := fun ρ g q => w ρ g fun b g' => if b = true then wa ρ g' q else wb ρ g' q
theorem de_if {c : Expr} (hc : DT C c wt) (ha : DE C a wa) (hb : DE C b wb) : DE C (.IfExp c a b pos) (wIf wt wa wb) := ⟨fun σ ρ W Q q S hQ hw => tOf_of (pe_ifExp pt_tOf pe_tOf pe_tOf) (hc.run σ ρ W _ _ S (fun c W' g k q1 => by
  cases c with
  | true => exact iteT (ha.run σ ρ W' Q q (S.step g k) (fun v d W2 g2 k2 r2 q2 => hQ v d W2 (g.trans g2) k2 r2 q2) q1)
  | false => exact iteF (hb.run σ ρ W' Q q (S.step g k) (fun v d W2 g2 k2 r2 q2 => hQ v d W2 (g.trans g2) k2 r2 q2) q1)) hw)⟩
end
end DL
set_option Elab.async false
set_option linter.all false
set_option maxRecDepth 100000
set_option maxHeartbeats 1000000
namespace DL
open PySem L2

section
variable {M : Ghost} {C : Ct M} {W W1 W2 W' : Wd M} {σ : L2.St} {ρ : DEnv}
structure K3 (M : Ghost) where
  nx : DEnv → M.G → Prop
  rt : D → M.G → Prop
  bk : DEnv → M.G → Prop
  ct : DEnv → M.G → Prop
abbrev SW (M : Ghost) := K3 M → DEnv → M.G → Prop
/-- what is wanted by data is what is wanted by the heap -/
structure Lf (C : Ct M) (W : Wd M) (k : K3 M) (E : Ends) : Prop where
  nx : ∀ σ' ρ' W', Gs W W' → Sat C σ' ρ' W' → k.nx ρ' W'.g → E.nx σ' W'.H
  rt : ∀ v d W', Go C.W0 W' → Wok C.X.K W' → Rp C.X.K W'.F W'.R v d → k.rt d W'.g → E.rt v W'.H
  bk : ∀ σ' ρ' W', Gs W W' → Sat C σ' ρ' W' → k.bk ρ' W'.g → E.bk σ' W'.H
  ct : ∀ σ' ρ' W', Gs W W' → Sat C σ' ρ' W' → k.ct ρ' W'.g → E.ct σ' W'.H
theorem Lf.step {k : K3 M} {E : Ends} (l : Lf C W k E) (g : Gs W W1) : Lf C W1 k E :=
  ⟨fun σ' ρ' W' g' => l.nx σ' ρ' W' (g.trans g'), l.rt, fun σ' ρ' W' g' => l.bk σ' ρ' W' (g.trans g'), fun σ' ρ' W' g' => l.ct σ' ρ' W' (g.trans g')⟩
def tsOf (X : Cx) (st : Stmt) : TS := fun D σ H => ∀ (pins : List (Addr × Obj)) (s : Shared), Inv X pins σ H s → wpAny (model X.prog X.w) X.A (exec st X.env) (SP X pins D) X.xe s
theorem ps_tOf {X : Cx} {st : Stmt} : PS X st (tsOf X st) := ⟨fun pins s _ _ _ I h => h pins s I⟩
theorem tsOf_of {X : Cx} {st : Stmt} {t : TS} (h : PS X st t) {E : Ends} {H : Hp} (q : t E σ H) : tsOf X st E σ H := fun pins s I => h.run pins s σ H E I q
def tssOf (X : Cx) (st : List Stmt) : TS := fun D σ H => ∀ (pins : List (Addr × Obj)) (s : Shared), Inv X pins σ H s → wpAny (model X.prog X.w) X.A (execs st X.env) (SP X pins D) X.xe s
theorem pss_tOf {X : Cx} {st : List Stmt} : PSs X st (tssOf X st) := ⟨fun pins s _ _ _ I h => h pins s I⟩
theorem tssOf_of {X : Cx} {st : List Stmt} {t : TS} (h : PSs X st t) {E : Ends} {H : Hp} (q : t E σ H) : tssOf X st E σ H := fun pins s I => h.run pins s σ H E I q
structure DS (C : Ct M) (st : Stmt) (w : SW M) : Prop where
  run : ∀ (σ : L2.St) (ρ : DEnv) (W : Wd M) (k : K3 M) (E : Ends), Sat C σ ρ W → Lf C W k E → w k ρ W.g → tsOf C.X st E σ W.H
structure DSs (C : Ct M) (st : List Stmt) (w : SW M) : Prop where
  run : ∀ (σ : L2.St) (ρ : DEnv) (W : Wd M) (k : K3 M) (E : Ends), Sat C σ ρ W → Lf C W k E → w k ρ W.g → tssOf C.X st E σ W.H
variable {st : Stmt} {sts : List Stmt} {w u : SW M} {e : Expr} {we : EW M} {pos : Pos}
@[simp] def wNext : SW M := fun k ρ g => k.nx ρ g
@[simp] def wSeq (w u : SW M) : SW M := fun k ρ g => w { k with nx := u k } ρ g
theorem dss_nil : DSs C [] wNext := ⟨fun σ ρ W k E S l h => tssOf_of pss_nil (l.nx σ ρ W (Gs.refl W) S h)⟩
theorem dss_cons (h1 : DS C st w) (h2 : DSs C sts u) : DSs C (st :: sts) (wSeq w u) := ⟨fun σ ρ W k E S l h =>
  tssOf_of (pss_cons ps_tOf pss_tOf) (h1.run σ ρ W { k with nx := u k } _ S ⟨fun σ' ρ' W' g S' q => h2.run σ' ρ' W' k E S' (l.step g) q, l.rt, l.bk, l.ct⟩ h)⟩
theorem dss_one (h1 : DS C st w) : DSs C [st] w := ⟨fun σ ρ W k E S l h => tssOf_of (pss_one ps_tOf) (h1.run σ ρ W _ _ S l h)⟩
theorem ds_pass : DS C (.Pass pos) wNext := ⟨fun σ ρ W k E S l h => tsOf_of ps_pass (l.nx σ ρ W (Gs.refl W) S h)⟩
@[simp] def wDrop (w : EW M) : SW M := fun k ρ g => w ρ g fun _ g' => k.nx ρ g'
theorem ds_expr (he : DE C e we) (hs : swapsWith e none pos.line C.X.env = pure false := by rfl) : DS C (.Expr e pos) (wDrop we) := ⟨fun σ ρ W k E S l h =>
  tsOf_of (ps_expr pe_tOf hs) (he.run σ ρ W _ _ S (fun v d W' g ok r q => l.nx σ ρ W' g.s (S.step g ok) q) h)⟩
@[simp] def wRet (w : EW M) : SW M := fun k ρ g => w ρ g k.rt
theorem ds_ret (he : DE C e we) : DS C (.Return (some e) pos) (wRet we) := ⟨fun σ ρ W k E S l h =>
  tsOf_of (ps_ret pe_tOf) (he.run σ ρ W _ _ S (fun v d W' g ok r q => l.rt v d W' (S.go.trans g) ok r q) h)⟩
@[simp] def wIfS (c : TW M) (w u : SW M) : SW M := fun k ρ g => c ρ g fun b g' => if b = true then w k ρ g' else u k ρ g'
theorem ds_if {c : Expr} {a b : List Stmt} {wc : TW M} (hc : DT C c wc) (ha : DSs C a w) (hb : DSs C b u) : DS C (.If c a b pos) (wIfS wc w u) := ⟨fun σ ρ W k E S l h =>
  tsOf_of (ps_if pt_tOf pss_tOf pss_tOf) (hc.run σ ρ W _ _ S (fun b W' g ok q => by
    cases b with
    | true => exact iteT (ha.run σ ρ W' k E (S.step g ok) (l.step g.s) q)
    | false => exact iteF (hb.run σ ρ W' k E (S.step g ok) (l.step g.s) q)) h)⟩

theorem slOk_fresh (S : Sat C σ ρ W) (g : Go W W') {v : V} {s : Sl} (f : Fresh C.X.K W W' v s) : SlOk C W' s (some v) := by
  have old : ∀ p, W.H p = none → C.W0.H p = none := fun p h4 => by
    cases q : C.W0.H p with
    | none => rfl
    | some o => exact absurd h4 (S.go.live p (by rw [q]; simp))
  cases s with
  | no => trivial
  | im d => exact ⟨v, rfl, f⟩
  | own ds =>
    obtain ⟨p, vs, e, h1, h2, h3, h4, r⟩ := f
    exact ⟨p, vs, by rw [e], h1, h2, h3, old p h4, r⟩
  | odt ds =>
    obtain ⟨p, vs, e, h1, h2, h3, h4, r⟩ := f
    exact ⟨p, vs, by rw [e], h1, h2, h3, old p h4, r⟩
theorem own_live (S : Sat C σ ρ W) {m : Nat} {t : Sl} {p : Addr} (ow : t.isOwn = true) (e1 : ρ[m]? = some t) (e2 : σ[m]? = some (some (.ref p))) : W.H p ≠ none := by
  obtain ⟨o, h1, h2⟩ := S.sl m _ e1
  obtain ⟨q, u, h3, h4, _⟩ := h2.live ow
  rw [e2] at h1
  cases h1
  cases h3
  rw [h4]
  simp
/-- a value put into a slot that stands apart from the others -/
theorem Sat.puts (S : Sat C σ ρ W) {v : V} {s : Sl} (f : SlOk C W s (some v)) (i : Nat) (ap : ∀ p, s.isOwn = true → v = .ref p → ∀ (m : Nat) t, t.isOwn = true → m ≠ i → ρ[m]? = some t → σ[m]? ≠ some (some (.ref p))) :
    Sat C (σ.set i (some v)) (ρ.set i s) W := by
  refine ⟨S.ok, S.go, by rw [List.length_set, List.length_set, S.len], fun j t e => ?_, fun j l d1 d2 q e1 e2 w1 w2 e3 e4 => ?_, S.gs⟩
  · by_cases hij : i = j
    · subst hij
      have hlt : i < ρ.length := by
        have := (List.getElem?_eq_some_iff.mp e).1
        rwa [List.length_set] at this
      rw [List.getElem?_set_self hlt] at e
      cases e
      exact ⟨some v, List.getElem?_set_self (by rw [S.len]; exact hlt), f⟩
    · rw [List.getElem?_set_ne hij] at e
      obtain ⟨o, h1, h2⟩ := S.sl j t e
      exact ⟨o, by rw [List.getElem?_set_ne hij]; exact h1, h2⟩
  · have here : ∀ (m : Nat) d, i = m → (ρ.set i s)[m]? = some d → (σ.set i (some v))[m]? = some (some (.ref q)) → s = d ∧ v = .ref q := fun m d hm e1 e2 => by
      subst hm
      have hlt : i < ρ.length := by
        have := (List.getElem?_eq_some_iff.mp e1).1
        rwa [List.length_set] at this
      rw [List.getElem?_set_self hlt] at e1
      rw [List.getElem?_set_self (by rw [S.len]; exact hlt)] at e2
      exact ⟨Option.some.inj e1, Option.some.inj (Option.some.inj e2)⟩
    by_cases hj : i = j
    · by_cases hl : i = l
      · exact hj.symm.trans hl
      · obtain ⟨h1, h2⟩ := here j d1 hj e1 e3
        rw [List.getElem?_set_ne hl] at e2 e4
        exact absurd e4 (ap _ (h1 ▸ w1) h2 l d2 w2 (fun z => hl z.symm) e2)
    · by_cases hl : i = l
      · obtain ⟨h1, h2⟩ := here l d2 hl e2 e4
        rw [List.getElem?_set_ne hj] at e1 e3
        exact absurd e3 (ap _ (h1 ▸ w2) h2 j d1 w1 (fun z => hj z.symm) e1)
      · rw [List.getElem?_set_ne hj] at e1 e3
        rw [List.getElem?_set_ne hl] at e2 e4
        exact S.dis j l d1 d2 q e1 e2 w1 w2 e3 e4
theorem fresh_dead {K : PySem.W.Frag} {v : V} {s : Sl} {p : Addr} (f : Fresh K W W' v s) (ow : s.isOwn = true) (e : v = .ref p) : W.H p = none := by
  obtain ⟨p', u, e', h1, h2, h3, h4⟩ := f.live ow
  rw [e] at e'
  cases e'
  exact h4
theorem fresh_live {K : PySem.W.Frag} {v : V} {s : Sl} {p : Addr} (f : Fresh K W W' v s) (ow : s.isOwn = true) (e : v = .ref p) : W'.H p ≠ none := by
  obtain ⟨p', u, e', h1, h2, h3, h4⟩ := f.live ow
  rw [e] at e'
  cases e'
  rw [h1]
  simp
theorem Sat.set (S : Sat C σ ρ W) (g : Go W W') (ok : Wok C.X.K W') {v : V} {s : Sl} (f : Fresh C.X.K W W' v s) (i : Nat) : Sat C (σ.set i (some v)) (ρ.set i s) W' :=
  (S.step g ok).puts (slOk_fresh S g f) i fun p w1 e m t w2 _ e1 e2 => own_live S w2 e1 e2 (fresh_dead f w1 e)
@[simp] def wSet (i : Nat) (w : VW M) : SW M := fun k ρ g => w ρ g fun s g' => k.nx (ρ.set i s) g'
theorem ds_set {i : Nat} {x : Str} {pos' : Pos} {wv : VW M} (hN : C.X.N.Nodup) (hi : C.X.N[i]? = some x) (hx : Loc C.X.env.scope x) (he : DV C e wv) (hs : swapsWith e (some (.Name x pos')) pos.line C.X.env = pure false := by rfl)
    (hf : C.X.fn x = true ∨ C.X.env.scope.names.lookup x = some .local := by first | exact .inl rfl | exact .inr rfl | assumption) : DS C (.Assign [.Name x pos'] e pos) (wSet i wv) := ⟨fun σ ρ W k E S l h =>
  tsOf_of (ps_set hN hi hx pe_tOf hs hf) (he.run σ ρ W _ _ S (fun v s W' g ok f q => l.nx _ _ W' g.s (S.set g ok f i) q) h)⟩
/-- freezing a slot, where nothing is done -/
theorem Sat.frz (S : Sat C σ ρ W) {i : Nat} {ds : List D} (e : ρ[i]? = some (.own ds)) : ∃ W', W'.H = W.H ∧ W'.g = W.g ∧ Gs W W' ∧ Sat C σ (ρ.set i (.im (.lst ds))) W' := by
  obtain ⟨o, h1, p, vs, h2, h3, h4, h5, h6, r⟩ := S.sl i _ e
  subst h2
  have hlt : i < ρ.length := (List.getElem?_eq_some_iff.mp e).1
  have rr : ∀ {v d}, Rp C.X.K W.F W.R v d → Rp C.X.K (upd W.F p (.lst vs)) W.R v d := fun h => h.mono (same_new h4) fun _ _ z => z
  refine ⟨W.freeze p (.lst vs), rfl, rfl, ⟨same_new h4, fun _ _ h => h⟩, S.ok.freeze h3 h4 h5, Go.freeze S.go h4 h6, by rw [List.length_set]; exact S.len, fun j t ej => ?_, fun j l d1 d2 q e1 e2 w1 w2 e3 e4 => ?_, S.gs.trans ⟨same_new h4, fun _ _ h => h⟩⟩
  · by_cases hij : i = j
    · subst hij
      rw [List.getElem?_set_self hlt] at ej
      cases ej
      exact ⟨_, h1, .ref p, rfl, .lst upd_same (r.mono (same_new h4) fun _ _ z => z)⟩
    · rw [List.getElem?_set_ne hij] at ej
      obtain ⟨o, q1, q2⟩ := S.sl j t ej
      refine ⟨o, q1, ?_⟩
      have ne : ∀ p2, t.isOwn = true → o = some (.ref p2) → upd W.F p (.lst vs) p2 = W.F p2 := fun p2 wt eo => upd_ne (fun z => hij (by subst z; exact S.dis i j _ _ p2 e ej rfl wt h1 (eo ▸ q1)))
      cases t with
      | no => trivial
      | im d =>
        obtain ⟨v, a1, a2⟩ := q2
        exact ⟨v, a1, rr a2⟩
      | own d2 =>
        obtain ⟨p2, v2, a1, a2, a3, a4, a5, a6⟩ := q2
        exact ⟨p2, v2, a1, a2, (ne p2 rfl a1).trans a3, a4, a5, a6.mono (same_new h4) fun _ _ z => z⟩
      | odt d2 =>
        obtain ⟨p2, v2, a1, a2, a3, a4, a5, a6⟩ := q2
        exact ⟨p2, v2, a1, a2, (ne p2 rfl a1).trans a3, a4, a5, a6.mono (same_new h4) fun _ _ z => z⟩
  · have back : ∀ (j : Nat) d, (ρ.set i (.im (.lst ds)))[j]? = some d → d.isOwn = true → ρ[j]? = some d := fun j d ej wd => by
      by_cases hij : i = j
      · subst hij
        rw [List.getElem?_set_self hlt] at ej
        cases ej
        cases wd
      · rw [List.getElem?_set_ne hij] at ej; exact ej
    exact S.dis j l _ _ q (back j d1 e1 w1) (back l d2 e2 w2) w1 w2 e3 e4
abbrev GW := D → DEnv → (DEnv → Prop) → Prop
abbrev GWs := List D → DEnv → (DEnv → Prop) → Prop
def tgOf (X : Cx) (tg : Expr) : TG := fun v σ H Q => ∀ (pins : List (Addr × Obj)) (s : Shared) (u : Value), Inv X pins σ H s → RelV v u →
  wpAny (model X.prog X.w) X.A (assign tg X.env u) (fun _ s' => ∃ σ' H', Inv X pins σ' H' s' ∧ Q σ' H') X.xe s
theorem pg_tOf {X : Cx} {tg : Expr} : PG X tg (tgOf X tg) := ⟨fun pins s _ _ _ u _ I r h => h pins s u I r⟩
theorem tgOf_of {X : Cx} {tg : Expr} {t : TG} (h : PG X tg t) {v : V} {H : Hp} {Q : L2.St → Hp → Prop} (q : t v σ H Q) : tgOf X tg v σ H Q := fun pins s u I r => h.run pins s σ H v u Q I r q
def tgsOf (X : Cx) (ts : List Expr) : TGs := fun vs σ H Q => ∀ (pins : List (Addr × Obj)) (s : Shared) (us : List Value), Inv X pins σ H s → Vals vs us →
  wpAny (model X.prog X.w) X.A (assignInOrder ((assignEach ts X.env).map (·.2)) us) (fun _ s' => ∃ σ' H', Inv X pins σ' H' s' ∧ Q σ' H') X.xe s
theorem pgs_tOf {X : Cx} {ts : List Expr} : PGs X ts (tgsOf X ts) := ⟨fun pins s _ _ _ us _ I r h => h pins s us I r⟩
theorem tgsOf_of {X : Cx} {ts : List Expr} {t : TGs} (h : PGs X ts t) {vs : List V} {H : Hp} {Q : L2.St → Hp → Prop} (q : t vs σ H Q) : tgsOf X ts vs σ H Q := fun pins s us I r => h.run pins s σ H vs us Q I r q
structure DG (C : Ct M) (is : List Nat) (tg : Expr) (w : GW) : Prop where
  run : ∀ (σ : L2.St) (ρ : DEnv) (W : Wd M) (v : V) (d : D) (Q : L2.St → Hp → Prop) (q : DEnv → Prop), Sat C σ ρ W → Rp C.X.K W.F W.R v d →
    (∀ σ' ρ', Sat C σ' ρ' W → σ'.length = σ.length → (∀ j, j ∉ is → σ'[j]? = σ[j]?) → q ρ' → Q σ' W.H) → w d ρ q → tgOf C.X tg v σ W.H Q
structure DGs (C : Ct M) (is : List Nat) (ts : List Expr) (w : GWs) : Prop where
  run : ∀ (σ : L2.St) (ρ : DEnv) (W : Wd M) (vs : List V) (ds : List D) (Q : L2.St → Hp → Prop) (q : DEnv → Prop), Sat C σ ρ W → RpA C.X.K W.F W.R vs ds →
    (∀ σ' ρ', Sat C σ' ρ' W → σ'.length = σ.length → (∀ j, j ∉ is → σ'[j]? = σ[j]?) → q ρ' → Q σ' W.H) → w ds ρ q → tgsOf C.X ts vs σ W.H Q
@[simp] def gwN (i : Nat) : GW := fun d ρ q => q (ρ.set i (.im d))
@[simp] def gwNil : GWs := fun ds ρ q => match ds with
  | [] => q ρ
  | _ => False
@[simp] def gwCons (w : GW) (u : GWs) : GWs := fun ds ρ q => match ds with
  | d :: ds => w d ρ fun ρ' => u ds ρ' q
  | [] => False
@[simp] def gwT (n : Nat) (u : GWs) : GW := fun d ρ q => match d with
  | .tup ds => ds.length = n ∧ u ds ρ q
  | _ => False
theorem dg_name {i : Nat} {x : Str} (h : PG C.X (.Name x pos) (gName i)) : DG C [i] (.Name x pos) (gwN i) := ⟨fun σ ρ W v d Q q S r hQ hw =>
  tgOf_of h (hQ _ _ (S.set (Go.refl W) S.ok (s := .im d) r i) (by simp) (fun j hj => by rw [List.getElem?_set_ne (by simpa using Ne.symm (by simpa using hj))]) hw)⟩
theorem dgs_nil : DGs C [] [] gwNil := ⟨fun σ ρ W vs ds Q q S r hQ hw => by
  cases ds with
  | nil =>
    cases r
    exact tgsOf_of pgs_nil ⟨rfl, hQ σ ρ S rfl (fun _ _ => rfl) hw⟩
  | cons d ds => exact hw.elim⟩
theorem dgs_cons {is js : List Nat} {tg : Expr} {ts : List Expr} {gw : GW} {gs : GWs} (h1 : DG C is tg gw) (h2 : DGs C js ts gs)
    (hs : (assignEach (tg :: ts) C.X.env).map (·.2) = assign tg C.X.env :: (assignEach ts C.X.env).map (·.2) := by rfl) : DGs C (is ++ js) (tg :: ts) (gwCons gw gs) := ⟨fun σ ρ W vs ds Q q S r hQ hw => by
  cases ds with
  | nil => exact hw.elim
  | cons d ds =>
    cases r with
    | cons r1 r2 =>
      refine tgsOf_of (pgs_cons pg_tOf pgs_tOf hs) ⟨_, _, rfl, h1.run σ ρ W _ d _ _ S r1 (fun σ' ρ' S' l1 k1 q1 => ?_) hw⟩
      refine h2.run σ' ρ' W _ ds _ _ S' r2 (fun σ2 ρ2 S2 l2 k2 q2 => hQ σ2 ρ2 S2 (l2.trans l1) (fun j hj => ?_) q2) q1
      rw [List.mem_append, not_or] at hj
      rw [k2 j hj.2, k1 j hj.1]⟩
theorem dg_tup {is : List Nat} {ts : List Expr} {kk n : Nat} {gs : GWs} (hc : C.X.calm = true) (h : DGs C is ts gs) (hn : (assignEach ts C.X.env).length = n := by rfl) (hst : (assignEach ts C.X.env).findIdx? (·.1) = none := by rfl) :
    DG C is (.Tuple ts kk pos) (gwT n gs) := ⟨fun σ ρ W v d Q q S r hQ hw => by
  cases d with
  | tup ds =>
    cases r with
    | tup hs r2 =>
      refine tgOf_of (pg_tup hc pgs_tOf hn hst) ⟨_, _, rfl, same_tup S.ok.sub hs, by rw [r2.length]; exact hw.1, h.run σ ρ W _ ds _ _ S r2 hQ hw.2⟩
  | _ => exact hw.elim⟩

structure WK (K : PySem.W.Frag) (Ws : Wd M) (J : It) (ds : List D) : Prop where
  go : ∀ (i : Nat) (W : Wd M) d, Gs Ws W → Wok K W → ds[i]? = some d → J.go i W.H ∧ ∀ x H', J.yld i W.H x H' → ∃ W', W'.H = H' ∧ Go W W' ∧ Wok K W' ∧ W'.g = W.g ∧ Rp K W'.F W'.R x d
  stop : ∀ (i : Nat) (W : Wd M), Gs Ws W → Wok K W → ds[i]? = none → J.stop i W.H
abbrev IW (M : Ghost) := DEnv → M.G → (List D → M.G → Prop) → Prop
def iOf (X : Cx) (tg iter : Expr) : TI := fun σ H R => ∀ (pins : List (Addr × Obj)) (s : Shared), Inv X pins σ H s →
  wpAny (model X.prog X.w) X.A (eval iter X.env) (fun v s1 => wpAny (model X.prog X.w) X.A (pyIter v) (PIE X pins σ tg R) X.xe s1) X.xe s
theorem pi_tOf {X : Cx} {tg iter : Expr} : PI X tg iter (iOf X tg iter) := ⟨fun pins s _ _ _ I h => h pins s I⟩
theorem iOf_of {X : Cx} {tg iter : Expr} {t : TI} (h : PI X tg iter t) {H : Hp} {R : It → Hp → Prop} (q : t σ H R) : iOf X tg iter σ H R := fun pins s I => h.run pins s σ H R I q
structure DI (C : Ct M) (tg iter : Expr) (w : IW M) : Prop where
  run : ∀ (σ : L2.St) (ρ : DEnv) (W : Wd M) (R : It → Hp → Prop) (q : List D → M.G → Prop), Sat C σ ρ W → (∀ J ds W', Go W W' → Wok C.X.K W' → WK C.X.K W' J ds → q ds W'.g → R J W'.H) → w ρ W.g q → iOf C.X tg iter σ W.H R
/-- a list, a tuple or a text that stands still -/
def itemsOf : D → Option (List D)
  | .lst ds => some ds
  | .tup ds => some ds
  | .str x => some (x.map fun c => .str [c])
  | _ => none
@[simp] def wItems (w : EW M) : IW M := fun ρ g q => w ρ g fun d g' => ∃ ds, itemsOf d = some ds ∧ q ds g'
def iSeq (K : PySem.W.Frag) (tl : TE) : TI := fun σ H R => tl σ H fun x H1 => (∃ a xs, x = .ref a ∧ SqL K H1 a xs ∧ R (Itl K a) H1) ∨ (∃ a xs, x = .ref a ∧ SqT K H1 a xs ∧ R (Itt K a) H1) ∨ (∃ z, x = .str z ∧ R (Its z) H1)
theorem pi_seq {X : Cx} {tg l : Expr} {tl : TE} (hl : PE X l tl) : PI X tg l (iSeq X.K tl) := by
  refine ⟨fun pins s σ H R I h => ?_⟩
  refine thn (hl.run pins s σ H _ I h) fun v s1 ⟨x, H1, I1, r1, q1⟩ => ?_
  rcases q1 with ⟨a, xs, rfl, hq, q⟩ | ⟨a, xs, rfl, hq, q⟩ | ⟨z, rfl, q⟩
  · cases r1
    obtain ⟨its, rv, p, hz⟩ := I1.list hq
    refine wpAny_pyIter_list p.isList ?_
    refine ⟨s1.heap.objs.size, [s1.heap.objs.size], _, _, H1, rfl, I1.kept (t' := s1.toks) fun b o e => Heap.get?_push_of_some _ e, turn_list a _, ⟨_, Heap.get?_push_size _ rfl, rfl, rfl⟩, fun b hb => ?_, q⟩
    have e : b = s1.heap.objs.size := by simpa using hb
    subst e
    exact I1.fpOk (Nat.le_refl _) (I1.hok.fresh (Nat.le_refl _))
  · cases r1
    obtain ⟨its, rv, p, hz⟩ := I1.tuple hq
    refine wpAny_pyIter_tuple (show s1.heap.IsTuple a its.toArray from p) ?_
    refine ⟨s1.heap.objs.size, [s1.heap.objs.size], _, _, H1, rfl, I1.kept (t' := s1.toks) fun b o e => Heap.get?_push_of_some _ e, turn_tuple a _, ⟨_, Heap.get?_push_size _ rfl, rfl, rfl⟩, fun b hb => ?_, q⟩
    have e : b = s1.heap.objs.size := by simpa using hb
    subst e
    exact I1.fpOk (Nat.le_refl _) (I1.hok.fresh (Nat.le_refl _))
  · obtain ⟨t, rfl⟩ := r1
    cases ha : z.cps.all (· < 128)
    · exact wpAny_pyIter_wide ha (pi_one (tk := s1.toks) I1 _ (turn_str _ z t "str_iterator" (.inr rfl)) ⟨_, Heap.get?_push_size _ rfl, rfl, rfl⟩ q)
    · exact wpAny_pyIter_ascii ha (pi_one (tk := s1.toks) I1 _ (turn_str _ z t "str_ascii_iterator" (.inl rfl)) ⟨_, Heap.get?_push_size _ rfl, rfl, rfl⟩ q)
theorem wk_lst {K : PySem.W.Frag} {a : Addr} {vs : List V} {ds : List D} (h : W.F a = some (.lst vs)) (r : RpA K W.F W.R vs ds) : WK K W (Itl K a) ds where
  go := fun i W1 d g k e => by
    obtain ⟨v, e1, e2⟩ := r.get' e
    have hl : SqL K W1.H a vs := .of (k.sub _ _ (g.sub _ _ h))
    refine ⟨⟨vs, v, hl, e1⟩, fun x H' y => ?_⟩
    obtain ⟨rfl, y⟩ := y
    have ex : x = v := Option.some.inj ((y _ hl).symm.trans e1)
    subst ex
    exact ⟨W1, rfl, Go.refl _, k, rfl, e2.gs g⟩
  stop := fun i W1 g k e => ⟨vs, .of (k.sub _ _ (g.sub _ _ h)), by rw [r.length]; exact List.getElem?_eq_none_iff.mp e⟩
theorem wk_tup {K : PySem.W.Frag} {a : Addr} {vs : List V} {ds : List D} (h : SqT K W.F a vs) (r : RpA K W.F W.R vs ds) : WK K W (Itt K a) ds where
  go := fun i W1 d g k e => by
    obtain ⟨v, e1, e2⟩ := r.get' e
    have hl : SqT K W1.H a vs := same_tup k.sub (same_tup g.sub h)
    refine ⟨⟨vs, v, hl, e1⟩, fun x H' y => ?_⟩
    obtain ⟨rfl, y⟩ := y
    have ex : x = v := Option.some.inj ((y _ hl).symm.trans e1)
    subst ex
    exact ⟨W1, rfl, Go.refl _, k, rfl, e2.gs g⟩
  stop := fun i W1 g k e => ⟨vs, same_tup k.sub (same_tup g.sub h), by rw [r.length]; exact List.getElem?_eq_none_iff.mp e⟩
theorem wk_str {K : PySem.W.Frag} {z : Str} : WK K W (Its z) (z.cps.toList.map fun c => .str [c]) where
  go := fun i W1 d g k e => by
    rw [List.getElem?_map] at e
    cases q : z.cps.toList[i]? with
    | none => rw [q] at e; cases e
    | some c =>
      rw [q] at e
      cases e
      have hi : i < z.cps.size := by
        have := (List.getElem?_eq_some_iff.mp q).1
        simpa using this
      refine ⟨hi, fun x H' y => ?_⟩
      obtain ⟨rfl, c', e1, rfl⟩ := y
      refine ⟨W1, rfl, Go.refl _, k, rfl, .str _ _ ?_⟩
      have : z.cps.toList[i]? = some c' := by simpa using e1
      rw [q] at this
      cases this
      rfl
  stop := fun i W1 g k e => by
    have := List.getElem?_eq_none_iff.mp e
    rw [List.length_map] at this
    show z.cps.size ≤ i
    simpa using this
theorem di_seq {tg : Expr} (he : DE C e we) : DI C tg e (wItems we) := ⟨fun σ ρ W R q S hR hw => iOf_of (pi_seq pe_tOf) (he.run σ ρ W _ _ S (fun v d W' g k r q1 => by
  obtain ⟨ds, e1, q1⟩ := q1
  cases d with
  | lst ds' =>
    cases e1
    cases r with
    | lst h r2 => exact .inl ⟨_, _, rfl, .of (k.sub _ _ h), hR _ _ W' g k (wk_lst h r2) q1⟩
  | tup ds' =>
    cases e1
    cases r with
    | tup h r2 => exact .inr (.inl ⟨_, _, rfl, same_tup k.sub h, hR _ _ W' g k (wk_tup h r2) q1⟩)
  | str x =>
    cases e1
    cases r with
    | str z _ h =>
      subst h
      exact .inr (.inr ⟨z, rfl, hR _ _ W' g k wk_str q1⟩)
  | _ => cases e1) hw)⟩

def forW (gw : GW) (wb : SW M) : List D → SW M
  | [], k => k.nx
  | d :: ds, k => fun ρ g => gw d ρ fun ρ' => wb { nx := forW gw wb ds k, rt := k.rt, bk := k.nx, ct := forW gw wb ds k } ρ' g
@[simp] def wFor (wi : IW M) (gw : GW) (wb : SW M) : SW M := fun k ρ g => wi ρ g fun ds g' => forW gw wb ds k ρ g'
theorem ds_for {tg iter : Expr} {body : List Stmt} {is : List Nat} {wi : IW M} {gw : GW} {wb : SW M} (hp : PassesOwn (model C.X.prog C.X.w) C.X.A C.X.env C.X.xe) (hc : C.X.calm = true) (hi : DI C tg iter wi) (hg : DG C is tg gw) (hb : DSs C body wb)
    (hs : ∀ x, foldedSetIterable iter C.X.env x = pure x := by intro _; rfl) : DS C (.For tg iter body [] pos) (wFor wi gw wb) := ⟨fun σ ρ W k E S l h => by
  refine tsOf_of (ps_for hp hc pi_tOf pg_tOf pss_tOf hs) (hi.run σ ρ W _ _ S (fun J ds W1 g1 k1 wk q1 => ?_) h)
  refine ⟨fun i m σ H => ∃ (ρ : DEnv) (W2 : Wd M), W2.H = H ∧ Sat C σ ρ W2 ∧ Gs W1 W2 ∧ m = ds.length - i ∧ forW gw wb (ds.drop i) k ρ W2.g, ⟨ds.length, ρ, W1, rfl, S.step g1 k1, Gs.refl _, rfl, q1⟩, ?_⟩
  rintro i m σ2 H2 ⟨ρ2, W2, rfl, S2, g2, rfl, q2⟩
  cases hd : ds[i]? with
  | none =>
    have e : ds.drop i = [] := List.drop_eq_nil_of_le (List.getElem?_eq_none_iff.mp hd)
    rw [e] at q2
    exact .inl ⟨wk.stop i W2 g2 S2.ok hd, l.nx σ2 ρ2 W2 (g1.s.trans g2) S2 q2⟩
  | some d =>
    obtain ⟨hlt, hd'⟩ := List.getElem?_eq_some_iff.mp hd
    have e : ds.drop i = d :: ds.drop (i + 1) := by rw [List.drop_eq_getElem_cons hlt, hd']
    rw [e] at q2
    obtain ⟨go, yld⟩ := wk.go i W2 d g2 S2.ok hd
    refine .inr ⟨go, fun σ H => ∃ (ρ : DEnv) (W3 : Wd M), W3.H = H ∧ Sat C σ ρ W3 ∧ Gs W1 W3 ∧ forW gw wb (ds.drop (i + 1)) k ρ W3.g, ?_, fun x H' y => ?_⟩
    · rintro σ' H' ⟨ρ3, W3, e3, S3, g3, q3⟩
      exact ⟨ds.length - (i + 1), by omega, ρ3, W3, e3, S3, g3, rfl, q3⟩
    · obtain ⟨W3, rfl, g3, k3, e3, r3⟩ := yld x H' y
      rw [← e3] at q2
      refine hg.run σ2 ρ2 W3 x d _ _ (S2.step g3 k3) r3 (fun σ4 ρ4 S4 _ _ q4 => ?_) q2
      have g13 : Gs W1 W3 := g2.trans g3.s
      have nx : ∀ σ' ρ' W', Gs W3 W' → Sat C σ' ρ' W' → forW gw wb (ds.drop (i + 1)) k ρ' W'.g → ∃ (ρ : DEnv) (W4 : Wd M), W4.H = W'.H ∧ Sat C σ' ρ W4 ∧ Gs W1 W4 ∧ forW gw wb (ds.drop (i + 1)) k ρ W4.g :=
        fun σ' ρ' W' g S' q => ⟨ρ', W', rfl, S', g13.trans g, q⟩
      exact hb.run σ4 ρ4 W3 { nx := forW gw wb (ds.drop (i + 1)) k, rt := k.rt, bk := k.nx, ct := forW gw wb (ds.drop (i + 1)) k } _ S4 ⟨nx, l.rt, fun σ' ρ' W' g S' q => l.nx σ' ρ' W' ((g1.s.trans g13).trans g) S' q, nx⟩ q4⟩

end
end DL
set_option Elab.async false
set_option linter.all false
set_option maxRecDepth 100000
set_option maxHeartbeats 1000000
namespace DL
open PySem L2
section
variable {M : Ghost} {C : Ct M} {W W1 W2 W' : Wd M} {σ : L2.St} {ρ : DEnv} {e : Expr} {es : List Expr} {we : EW M} {pos : Pos}

@[simp] def wipeD (ρ : DEnv) : List Nat → DEnv
  | [] => ρ
  | v :: vs => (wipeD ρ vs).set v .no
theorem Sat.setNo (S : Sat C σ ρ W) (i : Nat) : Sat C (σ.set i none) (ρ.set i .no) W := by
  refine ⟨S.ok, S.go, by rw [List.length_set, List.length_set, S.len], fun j t e => ?_, fun j l ds es p e1 e2 w1 w2 e3 e4 => ?_, S.gs⟩
  · by_cases hij : i = j
    · subst hij
      have hlt : i < ρ.length := by
        have := (List.getElem?_eq_some_iff.mp e).1
        rwa [List.length_set] at this
      rw [List.getElem?_set_self hlt] at e
      cases e
      exact ⟨none, by rw [List.getElem?_set_self (by rw [S.len]; exact hlt)], trivial⟩
    · rw [List.getElem?_set_ne hij] at e
      obtain ⟨o, h1, h2⟩ := S.sl j t e
      exact ⟨o, by rw [List.getElem?_set_ne hij]; exact h1, h2⟩
  · have nj : ∀ (j : Nat) d, (ρ.set i .no)[j]? = some d → d.isOwn = true → i ≠ j ∧ ρ[j]? = some d := fun j d e wd => by
      by_cases hij : i = j
      · subst hij
        have hlt : i < ρ.length := by
          have := (List.getElem?_eq_some_iff.mp e).1
          rwa [List.length_set] at this
        rw [List.getElem?_set_self hlt] at e
        cases e
        cases wd
      · rw [List.getElem?_set_ne hij] at e
        exact ⟨hij, e⟩
    obtain ⟨n1, e1'⟩ := nj j ds e1 w1
    obtain ⟨n2, e2'⟩ := nj l es e2 w2
    rw [List.getElem?_set_ne n1] at e3
    rw [List.getElem?_set_ne n2] at e4
    exact S.dis j l ds es p e1' e2' w1 w2 e3 e4
theorem Sat.wipe (S : Sat C σ ρ W) : ∀ vs : List Nat, Sat C (L2.wipe σ vs) (wipeD ρ vs) W
  | [] => S
  | v :: vs => (Sat.wipe S vs).setNo v
theorem wipe_in {σ : L2.St} {i : Nat} : ∀ {vs : List Nat}, i ∈ vs → (L2.wipe σ vs)[i]? = if i < σ.length then some none else none
  | [], h => by cases h
  | v :: vs, h => by
    unfold L2.wipe
    by_cases hi : v = i
    · subst hi
      by_cases hv : v < σ.length
      · rw [if_pos hv, List.getElem?_set_self (by rw [wipe_length]; exact hv)]
      · rw [if_neg hv, List.getElem?_eq_none (by rw [List.length_set, wipe_length]; omega)]
    · rw [List.getElem?_set_ne hi]
      exact wipe_in ((List.mem_cons.mp h).resolve_left fun z => hi z.symm)
theorem wipe_eq {σ σ' : L2.St} {vs : List Nat} (hl : σ'.length = σ.length) (h : ∀ j, j ∉ vs → σ'[j]? = σ[j]?) : L2.wipe σ' vs = L2.wipe σ vs := by
  refine List.ext_getElem? fun j => ?_
  by_cases hj : j ∈ vs
  · rw [wipe_in hj, wipe_in hj, hl]
  · rw [wipe_out hj, wipe_out hj, h j hj]
abbrev Ct.blk (C : Ct M) (s : Shared) (H : Hp) (scope : Scope) (cenv : Env) (fp : List Addr) : Ct M := ⟨C.X.blk s H scope cenv fp, C.W0, fun _ _ _ => False, C.B⟩
abbrev Ct.bk (C : Ct M) (s : Shared) (H : Hp) (scope : Scope) (cl : List (Str × Addr)) (Cc : Addr) (fp : List Addr) : Ct M := C.blk s H scope (compEnvC scope cl Cc C.X.env) fp
theorem Sat.blk (S : Sat C σ ρ W) {s : Shared} {H : Hp} {scope : Scope} {cenv : Env} {fp : List Addr} : Sat (C.blk s H scope cenv fp) σ ρ W := ⟨S.ok, S.go, S.len, S.sl, S.dis, S.gs⟩
def ttsOf (X : Cx) (ifs : List Expr) : TT := fun σ H Q => ∀ (pins : List (Addr × Obj)) (s : Shared), Inv X pins σ H s →
  wpAny (model X.prog X.w) X.A (forIn ifs true fun c r => if r = true then do let ok ← isTrue c X.env (eval c X.env); pure (ForInStep.yield ok) else pure (ForInStep.yield r)) (TP X pins σ Q) X.xe s
structure DTs (C : Ct M) (ifs : List Expr) (w : TW M) : Prop where
  run : ∀ (σ : L2.St) (ρ : DEnv) (W : Wd M) (Q : Bool → Hp → Prop) (q : Bool → M.G → Prop), Sat C σ ρ W → (∀ b W', Go W W' → Wok C.X.K W' → q b W'.g → Q b W'.H) → w ρ W.g q → ttsOf C.X ifs σ W.H Q
@[simp] def wYes : TW M := fun _ g q => q true g
theorem dts_nil : DTs C [] wYes := ⟨fun σ ρ W Q q S hQ hw pins s I => pts_nil.run pins s σ W.H Q I (hQ true W (Go.refl W) S.ok hw)⟩
theorem dts_one {c : Expr} {wt : TW M} (h : DT C c wt) : DTs C [c] wt := ⟨fun σ ρ W Q q S hQ hw pins s I => (pts_one pt_tOf).run pins s σ W.H Q I (h.run σ ρ W Q q S hQ hw)⟩
def lcW (gw : GW) (wt : TW M) (we : EW M) (ρ : DEnv) : List D → M.G → (List D → M.G → Prop) → Prop
  | [], g, q => q [] g
  | d :: ds, g, q => gw d ρ fun ρ' => wt ρ' g fun b g1 => if b = true then we ρ' g1 fun y g2 => lcW gw wt we ρ ds g2 fun ys g3 => q (y :: ys) g3 else lcW gw wt we ρ ds g1 q
@[simp] def wLc (wi : IW M) (gw : GW) (wt : TW M) (we : EW M) (vs : List Nat) : NW M := fun ρ g q => wi ρ g fun ds g' => ds.length ≤ sizeLine ∧ lcW gw wt we (wipeD ρ vs) ds g' q
theorem lcW_mono {gw : GW} {wt : TW M} {ds : List D} {g : M.G} {q q' : List D → M.G → Prop} (h : lcW gw wt we ρ ds g q) (e : q = q') : lcW gw wt we ρ ds g q' := e ▸ h
section
variable {elt tg iter : Expr} {ifs : List Expr} {scope : Scope} {own : List (Str × Nat)} {wi : IW M} {gw : GW} {wt : TW M} {is : List Nat}
def teB (C : Ct M) (scope : Scope) (e : Expr) : TE := fun σ H Q => ∀ s H0 Cc cl fp, tOf (C.X.blk s H0 scope (compEnvC scope cl Cc C.X.env) fp) e σ H Q
def ttB (C : Ct M) (scope : Scope) (e : List Expr) : TT := fun σ H Q => ∀ s H0 Cc cl fp, ttsOf (C.X.blk s H0 scope (compEnvC scope cl Cc C.X.env) fp) e σ H Q
def tgB (C : Ct M) (scope : Scope) (e : Expr) : TG := fun v σ H Q => ∀ s H0 Cc cl fp, tgOf (C.X.blk s H0 scope (compEnvC scope cl Cc C.X.env) fp) e v σ H Q
structure DIg (C : Ct M) (ti : TI) (w : IW M) : Prop where
  run : ∀ (σ : L2.St) (ρ : DEnv) (W : Wd M) (R : It → Hp → Prop) (q : List D → M.G → Prop), Sat C σ ρ W → (∀ J ds W', Go W W' → Wok C.X.K W' → WK C.X.K W' J ds → q ds W'.g → R J W'.H) → w ρ W.g q → ti σ W.H R
theorem lc_run {ti : TI} (hi : DIg C ti wi) (hvs : ∀ j ∈ is, j ∈ own.map (·.2)) (hg : ∀ s H Cc cl fp, DG (C.bk s H scope cl Cc fp) is tg gw) (ht : ∀ s H Cc cl fp, DTs (C.bk s H scope cl Cc fp) ifs wt)
    (he : ∀ s H Cc cl fp, DE (C.bk s H scope cl Cc fp) elt we) {Q : VK} {q : List D → M.G → Prop} (S : Sat C σ ρ W)
    (hQ : ∀ p vs ds W', Go W W' → Wok C.X.K W' → W'.H p = some (.lst vs) → W'.F p = none → p ∉ W'.R → W.H p = none → RpA C.X.K W'.F W'.R vs ds → q ds W'.g → Q (.ref p) W'.H)
    (hw : wLc wi gw wt we (own.map (·.2)) ρ W.g q) : tLc ti (tgB C scope tg) (ttB C scope ifs) (teB C scope elt) (own.map (·.2)) σ W.H Q := by
  refine hi.run σ ρ W _ _ S (fun J ds W1 g1 k1 wk q1 P hP => ?_) hw
  obtain ⟨hz, q1⟩ := q1
  have hP0 : W.H P = none := by
    cases z : W.H P with
    | none => rfl
    | some o => exact absurd hP (g1.live P (by rw [z]; simp))
  refine ⟨fun i m H => ∃ (W2 : Wd M) (acc : List V) (as : List D), W2.H = H ∧ Go W1 W2 ∧ Wok C.X.K W2 ∧ H P = some (.lst acc) ∧ W2.F P = none ∧ P ∉ W2.R ∧ RpA C.X.K W2.F W2.R acc as ∧ as.length ≤ i ∧ m = ds.length - i ∧
      lcW gw wt we (wipeD ρ (own.map (·.2))) (ds.drop i) W2.g fun ys g' => q (as ++ ys) g',
    ⟨ds.length, W1.new P (.lst []), [], [], rfl, Go.new k1 hP, k1.new hP, upd_same, k1.noF hP, k1.noR hP, .nil, Nat.zero_le _, rfl, q1⟩, ?_⟩
  rintro i m H ⟨W2, acc, as, rfl, g2, k2, h1, h2, h3, r, hl, rfl, q2⟩
  cases hd : ds[i]? with
  | none =>
    have e : ds.drop i = [] := List.drop_eq_nil_of_le (List.getElem?_eq_none_iff.mp hd)
    rw [e] at q2
    have q3 : q (as ++ []) W2.g := q2
    rw [List.append_nil] at q3
    exact .inl ⟨wk.stop i W2 g2.s k2 hd, hQ P acc as W2 (g1.trans g2) k2 h1 h2 h3 hP0 r q3⟩
  | some d =>
    obtain ⟨hlt, hd'⟩ := List.getElem?_eq_some_iff.mp hd
    have e : ds.drop i = d :: ds.drop (i + 1) := by rw [List.drop_eq_getElem_cons hlt, hd']
    rw [e] at q2
    obtain ⟨go, yld⟩ := wk.go i W2 d g2.s k2 hd
    refine .inr ⟨go, fun H => ∃ (W2 : Wd M) (acc : List V) (as : List D), W2.H = H ∧ Go W1 W2 ∧ Wok C.X.K W2 ∧ H P = some (.lst acc) ∧ W2.F P = none ∧ P ∉ W2.R ∧ RpA C.X.K W2.F W2.R acc as ∧ as.length ≤ i + 1 ∧
      lcW gw wt we (wipeD ρ (own.map (·.2))) (ds.drop (i + 1)) W2.g fun ys g' => q (as ++ ys) g', ?_, fun x H' y => ?_⟩
    · rintro H' ⟨W3, a3, d3, b1, b2, b3, b4, b5, b6, b7, b8, b9⟩
      exact ⟨ds.length - (i + 1), by omega, W3, a3, d3, b1, b2, b3, b4, b5, b6, b7, b8, rfl, b9⟩
    · obtain ⟨W3, rfl, g3, k3, e3, r3⟩ := yld x H' y
      rw [← e3] at q2
      have Sw : Sat C (L2.wipe σ (own.map (·.2))) (wipeD ρ (own.map (·.2))) W3 := (S.step ((g1.trans g2).trans g3) k3).wipe _
      -- the new list stays as it is
      have stay : ∀ {W4 : Wd M}, Go W2 W4 → W4.H P = some (.lst acc) ∧ W4.F P = none ∧ P ∉ W4.R := fun {W4} g => by
        refine ⟨g.keep _ _ h1 h3, ?_, g.notR (by rw [h1]; simp) h3⟩
        cases z : W4.F P with
        | none => rfl
        | some o =>
          rcases g.young P (by rw [z]; simp) with a | a
          · exact absurd h2 a
          · rw [h1] at a; cases a
      intro s0 H0 Cc cl fp
      refine (hg s0 H0 Cc cl fp).run _ _ W3 x d _ _ Sw.blk r3 (fun σ4 ρ4 S4 l4 n4 q4 => ⟨?_, fun s1 H1 Cc1 cl1 fp1 => ?_⟩) q2
      · rw [wipe_eq (σ := L2.wipe σ (own.map (·.2))) l4 fun j hj => n4 j fun z => hj (hvs j z)]
        exact wipe_eq (wipe_length _ _) fun j hj => wipe_out hj
      · refine (ht s1 H1 Cc1 cl1 fp1).run σ4 ρ4 W3 _ _ ⟨S4.ok, S4.go, S4.len, S4.sl, S4.dis, S4.gs⟩ (fun b W5 g5 k5 q5 => ?_) q4
        cases b with
        | false =>
          obtain ⟨a1, a2, a3⟩ := stay (g3.trans g5)
          exact iteF ⟨W5, acc, as, rfl, (g2.trans g3).trans g5, k5, a1, a2, a3, r.step (g3.trans g5), by omega, q5⟩
        | true =>
          refine iteT fun s2 H2 Cc2 cl2 fp2 => ?_
          have S5 := S4.step g5 k5
          refine (he s2 H2 Cc2 cl2 fp2).run σ4 ρ4 W5 _ _ ⟨S5.ok, S5.go, S5.len, S5.sl, S5.dis, S5.gs⟩ (fun v dy W6 g6 k6 r6 q6 => ?_) q5
          obtain ⟨a1, a2, a3⟩ := stay ((g3.trans g5).trans g6)
          refine ⟨acc, a1, by rw [r.length]; omega, W6.put P (.lst (acc ++ [v])), acc ++ [v], as ++ [dy], rfl, Go.put (((g2.trans g3).trans g5).trans g6) hP, k6.put a2 a3, upd_same, a2, a3,
            (r.step ((g3.trans g5).trans g6)).append (.cons r6 .nil), by rw [List.length_append, List.length_singleton]; omega, ?_⟩
          refine lcW_mono q6 ?_
          funext ys g'
          rw [List.append_assoc]
          rfl
theorem dn_lc (hc : C.X.calm = true) (hN : C.X.N.Nodup) (hi : DI C tg iter wi) (ok : BlkOk C.X.N C.X.env.scope scope own) (hvs : ∀ j ∈ is, j ∈ own.map (·.2)) (hg : ∀ s H Cc cl fp, DG (C.bk s H scope cl Cc fp) is tg gw)
    (ht : ∀ s H Cc cl fp, DTs (C.bk s H scope cl Cc fp) ifs wt) (he : ∀ s H Cc cl fp, DE (C.bk s H scope cl Cc fp) elt we) (hs : ∀ x, foldedSetIterable iter C.X.env x = pure x := by intro _; rfl) :
    DN C (.ListComp elt [⟨tg, iter, ifs, 0⟩] scope pos) (wLc wi gw wt we (own.map (·.2))) := ⟨fun σ ρ W Q q S hQ hw =>
  tOf_of (pe_lc (wi := iOf C.X tg iter) (g := tgB C scope tg) (tt := ttB C scope ifs) (te := teB C scope elt) hc hN pi_tOf ok (fun s H Cc cl fp => ⟨fun pins s' σ H' v u Q I r h => h s H Cc cl fp pins s' u I r⟩)
    (fun s H Cc cl fp => ⟨fun pins s' σ H' Q I h => h s H Cc cl fp pins s' I⟩) (fun s H Cc cl fp => ⟨fun pins s' σ H' Q I h => h s H Cc cl fp pins s' I⟩) hs) (lc_run ⟨hi.run⟩ hvs hg ht he S hQ hw)⟩
end

abbrev AW (M : Ghost) := DEnv → M.G → (List D → M.G → Prop) → Prop
def aOf (X : Cx) (es : List Expr) : TA := fun σ H Q => ∀ (pos : Pos) (pins : List (Addr × Obj)) (s : Shared), Inv X pins σ H s → wpAny (model X.prog X.w) X.A (spliced (backTo pos (starEach es X.env))) (AP X pins σ Q) X.xe s
theorem pa_tOf {X : Cx} {es : List Expr} : PA X es (aOf X es) := ⟨fun pos pins s _ _ _ I h => h pos pins s I⟩
theorem aOf_of {X : Cx} {es : List Expr} {t : TA} (h : PA X es t) {H : Hp} {Q : List V → Hp → Prop} (q : t σ H Q) : aOf X es σ H Q := fun pos pins s I => h.run pos pins s σ H Q I q
structure DA (C : Ct M) (es : List Expr) (w : AW M) : Prop where
  run : ∀ (σ : L2.St) (ρ : DEnv) (W : Wd M) (Q : List V → Hp → Prop) (q : List D → M.G → Prop), Sat C σ ρ W → (∀ vs ds W', Go W W' → Wok C.X.K W' → RpA C.X.K W'.F W'.R vs ds → q ds W'.g → Q vs W'.H) → w ρ W.g q → aOf C.X es σ W.H Q
structure DAP (C : Ct M) (es : List Expr) (w : AW M) : Prop where
  run : ∀ (σ : L2.St) (ρ : DEnv) (W : Wd M) (Q : List V → Hp → Prop) (q : List D → M.G → Prop), Sat C σ ρ W → (∀ vs ds W', Go W W' → Wok C.X.K W' → Paired (RdP C.X.K W') vs ds → q ds W'.g → Q vs W'.H) → w ρ W.g q → aOf C.X es σ W.H Q
@[simp] def wANil : AW M := fun _ g q => q [] g
@[simp] def wACons (w : EW M) (u : AW M) : AW M := fun ρ g q => w ρ g fun d g1 => u ρ g1 fun ds g2 => q (d :: ds) g2
variable {wa : AW M}
theorem da_nil : DA C [] wANil := ⟨fun σ ρ W Q q S hQ hw => aOf_of pa_nil (hQ [] [] W (Go.refl W) S.ok .nil hw)⟩
theorem da_cons (he : DE C e we) (hr : DA C es wa) (hs : starEach (e :: es) C.X.env = (false, eval e C.X.env) :: starEach es C.X.env := by rfl) : DA C (e :: es) (wACons we wa) := ⟨fun σ ρ W Q q S hQ hw =>
  aOf_of (pa_cons pe_tOf pa_tOf hs) (he.run σ ρ W _ _ S (fun v d W1 g1 k1 r1 q1 => hr.run σ ρ W1 _ _ (S.step g1 k1) (fun vs ds W2 g2 k2 r2 q2 => hQ (v :: vs) (d :: ds) W2 (g1.trans g2) k2 (.cons (r1.step g2) r2) q2) q1) hw)⟩
theorem dap_nil : DAP C [] wANil := ⟨fun σ ρ W Q q S hQ hw => aOf_of pa_nil (hQ [] [] W (Go.refl W) S.ok .nil hw)⟩
theorem dap_cons (he : DP C e we) (hr : DAP C es wa) (hs : starEach (e :: es) C.X.env = (false, eval e C.X.env) :: starEach es C.X.env := by rfl) : DAP C (e :: es) (wACons we wa) := ⟨fun σ ρ W Q q S hQ hw =>
  aOf_of (pa_cons pe_tOf pa_tOf hs) (he.run σ ρ W _ _ S (fun v d W1 g1 k1 r1 q1 => hr.run σ ρ W1 _ _ (S.step g1 k1) (fun vs ds W2 g2 k2 r2 q2 => hQ (v :: vs) (d :: ds) W2 (g1.trans g2) k2 (.cons (r1.step g2) r2) q2) q1) hw)⟩

@[simp] def wTup (wa : AW M) : EW M := fun ρ g q => wa ρ g fun ds g' => ds.length ≤ sizeLine ∧ q (.tup ds) g'
theorem de_tup {kk : Nat} (ha : DA C es wa) : DE C (.Tuple es kk pos) (wTup wa) := ⟨fun σ ρ W Q q S hQ hw =>
  tOf_of (pe_tup pa_tOf) (ha.run σ ρ W _ _ S (fun vs ds W1 g1 k1 r1 q1 => ⟨by rw [r1.length]; exact q1.1, fun p hp => hQ (.ref p) (.tup ds) (W1.lay p (.tup vs)) (g1.trans (Go.lay k1 hp)) (k1.lay hp) (.tup (.of upd_same) (r1.mono (same_new (k1.noF hp)) fun _ _ z => z)) q1.2⟩) hw)⟩
@[simp] def wLst (wa : AW M) : NW M := fun ρ g q => wa ρ g fun ds g' => ds.length ≤ sizeLine ∧ q ds g'
theorem dn_lst (ha : DA C es wa) : DN C (.List es pos) (wLst wa) := ⟨fun σ ρ W Q q S hQ hw =>
  tOf_of (pe_lst pa_tOf) (ha.run σ ρ W _ _ S (fun vs ds W1 g1 k1 r1 q1 => ⟨by rw [r1.length]; exact q1.1, fun p hp => hQ p vs ds (W1.new p (.lst vs)) (g1.trans (Go.new k1 hp)) (k1.new hp) upd_same (k1.noF hp) (k1.noR hp) (by
    cases z : W.H p with
    | none => rfl
    | some o => exact absurd hp (g1.live p (by rw [z]; simp))) r1 q1.2⟩) hw)⟩

abbrev DSp (M : Ghost) := List D → M.G → (D → M.G → Prop) → (Exn → M.G → Prop) → Prop
/-- an exception by its class's name and its fields -/
def ExR (K : PySem.W.Frag) (W : Wd M) (x : Exn) (cls : Value) (d : Option Addr) : Prop :=
  PySem.W.nsIn K mainGlobals x.cls = some (some cls) ∧ (∃ C : Addr, cls = .ref C) ∧ ((x.ns = [] ∧ x.ds = [] ∧ d = none) ∨ ∃ dd vs, d = some dd ∧ W.F dd = some (.xd (x.ns.zip vs)) ∧ x.ns.length = vs.length ∧ RpA K W.F W.R vs x.ds)
def EXk (K : PySem.W.Frag) (W0 : Wd M) (ex : Exn → M.G → Prop) : XK := fun cls d H => ∃ x W', W'.H = H ∧ Go W0 W' ∧ Wok K W' ∧ ExR K W' x cls d ∧ ex x W'.g
/-- nothing is handled, or an exception that stands frozen and whose context is None -/
def HotF (A : Around) (F : Hp) : Prop := A.handled = none ∨ ∃ (a : Addr) (oe : Obj) (fv : Array Value), A.handled = some (.ref a) ∧ F a = some (.frz oe exU) ∧ oe.data = .fields fv ∧ fv[2]? = some .none
theorem HotF.mono {A : Around} {F F' : Hp} (h : HotF A F) (s : Same F F') : HotF A F' := by
  rcases h with h | ⟨a, oe, fv, h1, h2, h3, h4⟩
  · exact .inl h
  · exact .inr ⟨a, oe, fv, h1, s a _ h2, h3, h4⟩
def liftSp (K : PySem.W.Frag) (mg : Str → Option Value) (n : Nat) (sp : DSp M) : Sp := fun vs H Q E => ∃ (W : Wd M) (ds : List D) (q : D → M.G → Prop) (ex : Exn → M.G → Prop), W.H = H ∧ Wok K W ∧ RpA K W.F W.R vs ds ∧ ds.length = n ∧ sp ds W.g q ex ∧
  (∀ v d W', Go W W' → Wok K W' → Rp K W'.F W'.R v d → q d W'.g → Q v W'.H) ∧ ∀ cls d H', EXk K W ex cls d H' → E cls d H'
def liftSpH (K : PySem.W.Frag) (mg : Str → Option Value) (n : Nat) (sp : DSp M) (A : Around) : Sp := fun vs H Q E => ∃ (W : Wd M) (ds : List D) (q : D → M.G → Prop) (ex : Exn → M.G → Prop), W.H = H ∧ Wok K W ∧ RpA K W.F W.R vs ds ∧ ds.length = n ∧ sp ds W.g q ex ∧
  ((∀ v d W', Go W W' → Wok K W' → Rp K W'.F W'.R v d → q d W'.g → Q v W'.H) ∧ ∀ cls d H', EXk K W ex cls d H' → E cls d H') ∧ HotF A W.F
/-- what leaves the code is what is wished of exceptions, at the slots as they stand -/
def EXs (C : Ct M) (σ : L2.St) : XK := fun cls d H => ∃ x ρ W', W'.H = H ∧ Sat C σ ρ W' ∧ ExR C.X.K W' x cls d ∧ C.EX x ρ W'.g
def TakesD (C : Ct M) : Prop := L2N.Takes C.X fun cls d σ H => EXs C σ cls d H
abbrev xno : Exn → DEnv → M.G → Prop := fun _ _ _ => False
abbrev xk (ex : Exn → M.G → Prop) : Exn → DEnv → M.G → Prop := fun x _ g => ex x g
theorem takesD_blk {s : Shared} {H : Hp} {scope : Scope} {cenv : Env} {fp : List Addr} : TakesD (C.blk s H scope cenv fp) := fun u s' x => by
  obtain ⟨_, _, _, _, _, _, _, _, _, _, _, _, _, _, _, _, z⟩ := x
  obtain ⟨_, _, _, _, _, _, w⟩ := z
  exact w.elim
theorem ExR.step {K : PySem.W.Frag} {x : Exn} {cls : Value} {d : Option Addr} (h : ExR K W x cls d) (g : Go W W1) : ExR K W1 x cls d := by
  obtain ⟨h1, h2, h3⟩ := h
  refine ⟨h1, h2, ?_⟩
  rcases h3 with h3 | ⟨dd, vs, e1, e2, e3, e4⟩
  · exact .inl h3
  · exact .inr ⟨dd, vs, e1, g.sub _ _ e2, e3, e4.step g⟩
/-- a call's exception is the caller's -/
theorem exs_of {EX : Exn → M.G → Prop} {cls : Value} {d : Option Addr} {H : Hp} (S : Sat C σ ρ W) (hx : ∀ x g, EX x g → C.EX x ρ g) (h : EXk C.X.K W EX cls d H) : EXs C σ cls d H := by
  obtain ⟨x, W', h1, h2, h3, h4, h5⟩ := h
  exact ⟨x, ρ, W', h1, S.step h2 h3, h4, hx _ _ h5⟩
@[simp] def startD (N : List Str) (ds : List D) : DEnv := ds.map .im ++ List.replicate (N.length - ds.length) .no
theorem sat_start {N : List Str} {vs : List V} {ds : List D} (ok : Wok C.X.K W) (h0 : C.W0 = W) (hB : C.B = W) (r : RpA C.X.K W.F W.R vs ds) : Sat C (L2.start N vs) (startD N ds) W := by
  have hg : Gs C.B W := by rw [hB]; exact Gs.refl _
  subst h0
  refine ⟨ok, Go.refl _, ?_, fun i s e => ?_, fun i j s1 s2 p e1 e2 w1 w2 e3 e4 => ?_, hg⟩
  · unfold L2.start startD
    rw [List.length_append, List.length_append, List.length_map, List.length_map, List.length_replicate, List.length_replicate, r.length]
  · unfold startD at e
    by_cases hi : i < ds.length
    · rw [List.getElem?_append_left (by rw [List.length_map]; exact hi), List.getElem?_map] at e
      cases hd : ds[i]? with
      | none => rw [hd] at e; cases e
      | some d =>
        rw [hd] at e
        cases e
        obtain ⟨v, h1, h2⟩ := r.get' hd
        refine ⟨some v, ?_, v, rfl, h2⟩
        unfold L2.start
        rw [List.getElem?_append_left (by rw [List.length_map, r.length]; exact hi), List.getElem?_map, h1]
        rfl
    · rw [List.getElem?_append_right (by rw [List.length_map]; omega), List.length_map] at e
      obtain ⟨hlt, e'⟩ := List.getElem?_eq_some_iff.mp e
      rw [List.getElem_replicate] at e'
      subst e'
      rw [List.length_replicate] at hlt
      refine ⟨none, ?_, trivial⟩
      unfold L2.start
      rw [List.getElem?_append_right (by rw [List.length_map, r.length]; omega), List.length_map, r.length, List.getElem?_replicate, if_pos hlt]
  · exfalso
    unfold startD at e1
    by_cases hi : i < ds.length
    · rw [List.getElem?_append_left (by rw [List.length_map]; exact hi), List.getElem?_map] at e1
      cases hd : ds[i]? with
      | none => rw [hd] at e1; cases e1
      | some d => rw [hd] at e1; cases e1; cases w1
    · rw [List.getElem?_append_right (by rw [List.length_map]; omega), List.length_map] at e1
      obtain ⟨hlt, e'⟩ := List.getElem?_eq_some_iff.mp e1
      rw [List.getElem_replicate] at e'
      subst e'
      cases w1
end
end DL
set_option Elab.async false
set_option linter.all false
set_option maxRecDepth 100000
set_option maxHeartbeats 1000000
namespace DL
open PySem L2
/-- as the layer's promise of a def, under no guard -/
structure FnG (P : Program) (w : World) (K : PySem.W.Frag) (mg : Str → Option Value) (base : Heap) (k : Nat) (f : Addr) (fd : FuncData) (ps : List Str) (sp : Sp) : Prop where
  len : ∀ xs H Q E, sp xs H Q E → xs.length = ps.length
  run : ∀ (A : Around) (fr : List Env) (s : Shared) (H : Hp) (as : Args) (us : List Value) (xs : List V) (Q : VK) (E : XK), Room k A → A.guards = some [] →
    Env0 P w K mg base A fr s H → BindsTo s fd as (ps.zip us) → Vals xs us → sp xs H Q E → codeAny (model P w) A (.call (.ref f) as) (CR (L2N.CX P w) fr P w H s Q E) s
section
variable {P : Program} {w : World} {K : PySem.W.Frag} {mg : Str → Option Value} {base : Heap}
theorem FnG.mono {j k : Nat} {f : Addr} {fd : FuncData} {ps : List Str} {sp : Sp} (F : FnG P w K mg base j f fd ps sp) (h : j ≤ k) : FnG P w K mg base k f fd ps sp :=
  ⟨F.len, fun A fr s H as us xs Q E room => F.run A fr s H as us xs Q E (room.mono h)⟩
theorem fng_of {x qual : Str} {st : Stmt} {f : Addr} {fd : FuncData} {N ps : List Str} {k : Nat} {sp : Sp} (F : Fun K x qual st f fd) (Sc : FnScope N ps (defScope st)) (len : ∀ xs H Q E, sp xs H Q E → xs.length = ps.length)
    (hb : ∀ (cdv : Value) (A : Around) (fr : List Env) (s : Shared) (H : Hp) (xs : List V) (Q : VK) (E : XK), Room k (A.deeper (PyProof.Rows.envOfC qual (defScope st) s.heap.objs.size f cdv)) → A.guards = some [] → sp xs H Q E →
      ∃ t, PSs (cxOf (L2N.CX P w) P w K mg base N qual (defScope st) f cdv A fr s H E) (defBody st) t ∧ t { nx := fun _ H' => Q .non H', rt := Q } (L2.start N xs) H) :
    FnG P w K mg base (k + 1) f fd ps sp := by
  obtain ⟨oc, od, kV, doc, pm, an, cdv, ct, osl, rfl, lk, hcd⟩ := F.ex
  refine ⟨len, fun A fr s H as us xs Q E room gd e0 bd rel want => ?_⟩
  have hlen := len _ _ _ _ want
  have kin : K.In s.heap := e0.mod.kin.keeps fun b o e => (e0.bs b o e).1
  have hk : ((ps.zip us).all fun y => (defScope st).names.lookup y.1 == some .local || (defScope st).names.lookup y.1 == some .cell) = true := by
    rw [List.all_eq_true]
    rintro ⟨n, v⟩ hm
    rcases Sc.par n (List.of_mem_zip hm).1 with q | q
    · rw [q]; rfl
    · rw [q]; rfl
  refine Att.call_fn kin (e0.mod.nolimit.keeps fun b o e => (e0.bs b o e).1) lk hcd room.depth bd hk (fun s1 inC => ?_) Sc.co Sc.gen Sc.kind
  obtain ⟨t, ht, hq⟩ := hb cdv A fr s H xs Q E (room.deeper _) gd want
  have inv := inv_start (CX := L2N.CX P w) (N := N) (E := E) Sc room.hd e0 hlen rel inC
  refine wpAny_mono (ht.run [] s1 _ H _ inv hq) (fun fl s2 hs => ?_) fun e s2 hs => hs
  have back : ∀ {σ2 : L2.St} {H2 : Hp} {v : V} {u : Value}, Inv (cxOf (L2N.CX P w) P w K mg base N qual (defScope st) f cdv A fr s H E) [] σ2 H2 s2 → RelV v u → Q v H2 → CE fr P w H s Q u s2 :=
    fun {σ2 H2 v u} J rv q => ⟨v, H2, J.os, J.bare, J.base, J.hok, rv, q⟩
  match fl, hs with
  | .ret u, ⟨v, σ2, H2, J, rv, q⟩ => exact back J rv q
  | .next, ⟨σ2, H2, J, q⟩ => exact back (v := .non) (u := .none) J rfl q
  | .brk, ⟨_, _, _, q⟩ => exact q.elim
  | .cont, ⟨_, _, _, q⟩ => exact q.elim
end
section
variable {X : Cx} {k : Nat} {f : Addr} {fd : FuncData} {ps : List Str} {sp : Sp} {E : L2.St → XK} {x : Str} {p pos : Pos} {e : Expr} {es : List Expr} {t : TA}
theorem run_fng {pins : List (Addr × Obj)} {σ : L2.St} {H : Hp} {s : Shared} {Q : VK} {us : List Value} {xs : List V} (F : FnG X.prog X.w X.K X.mg X.base k f fd ps sp) (gd : X.A.guards = some []) (room : Room k X.A) (hb : Binds X.K fd ps [])
    (hx : ∀ σ, PassesAt (L2N.CX X.prog X.w) X σ (E σ)) (I : Inv X pins σ H s) (rel : Vals xs us) (want : sp xs H Q (E σ)) : wpAny (model X.prog X.w) X.A (call (.ref f) us) (EP X pins σ Q) X.xe s := by
  have hl : (us ++ []).length = ps.length := by rw [List.append_nil, ← rel.length]; exact F.len _ _ _ _ want
  have bd := hb s us I.kIn hl
  rw [List.append_nil] at bd
  refine wpAny_call (codeAny_mono (F.run X.A X.stack s H ⟨us, []⟩ us xs Q (E σ) room gd I.env0 bd rel want) fun r s2 hq => ?_)
  match r, hq with
  | .error er, hq => exact hx σ pins H s er s2 I hq
  | .ok (.ret u), hq => exact I.after hq
  | .ok .next, hq => exact False.elim hq
  | .ok .brk, hq => exact False.elim hq
  | .ok .cont, hq => exact False.elim hq
def tCallG (sp : Sp) (E : L2.St → XK) (t : TA) : TE := fun σ H Q => t σ H fun xs H1 => sp xs H1 Q (E σ)
theorem pe_callG (F : FnG X.prog X.w X.K X.mg X.base k f fd ps sp) (gd : X.A.guards = some []) (room : Room k X.A) (hg : Gl X x) (hm : X.mg x = some (.ref f)) (hk : PySem.W.keepIn X.K (.ref f) = true) (hb : Binds X.K fd ps []) (hx : ∀ σ, PassesAt (L2N.CX X.prog X.w) X σ (E σ))
    (ha : PA X (e :: es) t) (hdb : (x == ("__debug__" : Str)) = false := by decide) (he : starEach (e :: es) X.env = (false, eval e X.env) :: starEach es X.env := by rfl) (hpl : (backTo pos (starEach es X.env)).any (·.1) = false := by rfl) :
    PE X (.Call (.Name x p) (e :: es) [] pos) (tCallG sp E t) := ⟨fun pins s σ H Q I h =>
  wpAny_Call_Name_kw (ld_glob I hg hm (PySem.W.callWith_K (h₀ := X.base) I.ok.mod.kin hk (thn (ha.run pos pins s σ H _ I h) fun us s1 ⟨xs, H1, I1, rel, want⟩ => ⟨I1.kIn, run_fng F gd room hb hx I1 rel want⟩) he hpl) hdb)⟩
end
theorem roomH_suite {k : Nat} {A : Around} {v : Option Value} (r : Room k A) : L2H.RoomH k (A.mark v) := ⟨r.dp, r.un⟩
theorem _root_.L2H.RoomH.units {k : Nat} {A : Around} (r : L2H.RoomH k A) : A.units + 64 < cLine := by have := r.un; omega

open L2H in
structure FnQ (P : Program) (w : World) (K : PySem.W.Frag) (mg : Str → Option Value) (base : Heap) (k : Nat) (f : Addr) (fd : FuncData) (ps : List Str) (sp : Around → Sp) : Prop where
  len : ∀ A xs H Q E, sp A xs H Q E → xs.length = ps.length
  run : ∀ (A : Around) (fr : List Env) (s : Shared) (H : Hp) (as : Args) (us : List Value) (xs : List V) (Q : VK) (E : XK), RoomH k A → A.guards = some [] →
    Env0 P w K mg base A fr s H → BindsTo s fd as (ps.zip us) → Vals xs us → sp A xs H Q E → codeAny (model P w) A (.call (.ref f) as) (CR (L2N.CX P w) fr P w H s Q E) s
section
open L2H
variable {P : Program} {w : World} {K : PySem.W.Frag} {mg : Str → Option Value} {base : Heap}
theorem FnQ.g {k : Nat} {f : Addr} {fd : FuncData} {ps : List Str} {sp : Around → Sp} {sp' : Sp} (F : FnQ P w K mg base k f fd ps sp) (hl : ∀ xs H Q E, sp' xs H Q E → xs.length = ps.length) (h : ∀ A xs H Q E, A.handled = none → sp' xs H Q E → sp A xs H Q E) : FnG P w K mg base k f fd ps sp' :=
  ⟨hl, fun A fr s H as us xs Q E room gd e0 bd rel want => F.run A fr s H as us xs Q E (roomH_of room) gd e0 bd rel (h A xs H Q E room.hd want)⟩
theorem fnq_of {x qual : Str} {st : Stmt} {f : Addr} {fd : FuncData} {N ps : List Str} {k : Nat} {sp : Around → Sp} (F : Fun K x qual st f fd) (Sc : FnScope N ps (defScope st)) (len : ∀ A xs H Q E, sp A xs H Q E → xs.length = ps.length)
    (hb : ∀ (cdv : Value) (A : Around) (fr : List Env) (s : Shared) (H : Hp) (xs : List V) (Q : VK) (E : XK) (p : Addr × Obj), RoomH k (A.deeper (PyProof.Rows.envOfC qual (defScope st) s.heap.objs.size f cdv)) → A.guards = some [] → sp A xs H Q E →
      ∃ t, PSs (cxH (L2N.CX P w) P w K mg base N qual (defScope st) f cdv A fr s H E p) (defBody st) t ∧ t { nx := fun _ H' => Q .non H', rt := Q } (L2.start N xs) H) :
    FnQ P w K mg base (k + 1) f fd ps sp := by
  obtain ⟨oc, od, kV, doc, pm, an, cdv, ct, osl, rfl, lk, hcd⟩ := F.ex
  refine ⟨len, fun A fr s H as us xs Q E room gd e0 bd rel want => ?_⟩
  have hlen := len _ _ _ _ _ want
  have inB := e0.mod.kin _ _ lk
  have kin : K.In s.heap := e0.mod.kin.keeps fun b o e => (e0.bs b o e).1
  have nof : f ∉ frs fr := fun hm => by
    have z := (e0.funs.mem hm).1
    rw [inB] at z
    cases z
  obtain ⟨p, pin⟩ : ∃ p : Addr × Obj, PinOk fr H s p := ⟨(f, _), (e0.bs _ _ inB).1, (e0.bs _ _ inB).2, nof, fun _ z => nomatch z⟩
  have hk : ((ps.zip us).all fun y => (defScope st).names.lookup y.1 == some .local || (defScope st).names.lookup y.1 == some .cell) = true := by
    rw [List.all_eq_true]
    rintro ⟨n, v⟩ hm
    rcases Sc.par n (List.of_mem_zip hm).1 with q | q
    · rw [q]; rfl
    · rw [q]; rfl
  refine Att.call_fn kin (e0.mod.nolimit.keeps fun b o e => (e0.bs b o e).1) lk hcd room.depth bd hk (fun s1 inC => ?_) Sc.co Sc.gen Sc.kind
  obtain ⟨t, ht, hq⟩ := hb cdv A fr s H xs Q E p (room.deeper _) gd want
  have inv := inv_startH (CX := L2N.CX P w) (N := N) (E := E) Sc pin e0 hlen rel inC
  refine wpAny_mono (ht.run [] s1 _ H _ inv hq) (fun fl s2 hs => ?_) fun e s2 hs => hs
  have back : ∀ {σ2 : L2.St} {H2 : Hp} {v : V} {u : Value}, Inv (cxH (L2N.CX P w) P w K mg base N qual (defScope st) f cdv A fr s H E p) [] σ2 H2 s2 → RelV v u → Q v H2 → CE fr P w H s Q u s2 :=
    fun {σ2 H2 v u} J rv q => ⟨v, H2, J.os, J.bare, J.base, J.hok, rv, q⟩
  match fl, hs with
  | .ret u, ⟨v, σ2, H2, J, rv, q⟩ => exact back J rv q
  | .next, ⟨σ2, H2, J, q⟩ => exact back (v := .non) (u := .none) J rfl q
  | .brk, ⟨_, _, _, q⟩ => exact q.elim
  | .cont, ⟨_, _, _, q⟩ => exact q.elim
end
section
open L2H
variable {X : Cx} {k : Nat} {f : Addr} {fd : FuncData} {ps : List Str} {sp : Around → Sp} {E : L2.St → XK} {x : Str} {p pos : Pos} {e : Expr} {es : List Expr} {t : TA}
theorem pe_callQ (F : FnQ X.prog X.w X.K X.mg X.base k f fd ps sp) (gd : X.A.guards = some []) (room : RoomH k X.A) (hg : Gl X x) (hm : X.mg x = some (.ref f)) (hk : PySem.W.keepIn X.K (.ref f) = true) (hb : Binds X.K fd ps []) (hx : ∀ σ, PassesAt (L2N.CX X.prog X.w) X σ (E σ))
    (ha : PA X (e :: es) t) (hdb : (x == ("__debug__" : Str)) = false := by decide) (he : starEach (e :: es) X.env = (false, eval e X.env) :: starEach es X.env := by rfl) (hpl : (backTo pos (starEach es X.env)).any (·.1) = false := by rfl) :
    PE X (.Call (.Name x p) (e :: es) [] pos) (tCallG (sp X.A) E t) := ⟨fun pins s σ H Q I h =>
  wpAny_Call_Name_kw (ld_glob I hg hm (PySem.W.callWith_K (h₀ := X.base) I.ok.mod.kin hk (thn (ha.run pos pins s σ H _ I h) fun us s1 ⟨xs, H1, I1, rel, want⟩ => ⟨I1.kIn, by
    have hl : (us ++ []).length = ps.length := by rw [List.append_nil, ← rel.length]; exact F.len _ _ _ _ _ want
    have bd := hb s1 us I1.kIn hl
    rw [List.append_nil] at bd
    refine wpAny_call (codeAny_mono (F.run X.A X.stack s1 H1 ⟨us, []⟩ us xs Q (E σ) room gd I1.env0 bd rel want) fun r s2 hq => ?_)
    match r, hq with
    | .error er, hq => exact hx σ pins H1 s1 er s2 I1 hq
    | .ok (.ret u), hq => exact I1.after hq
    | .ok .next, hq => exact False.elim hq
    | .ok .brk, hq => exact False.elim hq
    | .ok .cont, hq => exact False.elim hq⟩) he hpl) hdb)⟩
end
end DL
set_option Elab.async false
set_option linter.all false
set_option maxRecDepth 100000
set_option maxHeartbeats 1000000
namespace DL
open PySem L2
def S (x : List Nat) : Str := ⟨x.toArray⟩
theorem S_list (x : List Nat) : (S x).cps.toList = x := by simp [S]
theorem S_of (z : Str) : S z.cps.toList = z := by simp [S]
theorem str_len (z : Str) : z.length = z.cps.toList.length := by simp [Str.length]
theorem str_app (a b : Str) : (a ++ b).cps.toList = a.cps.toList ++ b.cps.toList := PySem.W.KT.app_list a b
section
variable {M : Ghost} {C : Ct M} {W W1 W2 W' : Wd M} {σ : L2.St} {ρ : DEnv} {e : Expr} {es : List Expr} {we : EW M} {pos : Pos}
theorem rp_str {K : PySem.W.Frag} {F : Hp} {R : List Addr} (z : Str) : Rp K F R (.str z) (.str z.cps.toList) := .str z _ rfl
theorem rp_strS {K : PySem.W.Frag} {F : Hp} {R : List Addr} (z : Str) {x : List Nat} (h : z.cps.toList = x) : Rp K F R (.str z) (.str x) := .str z _ h

def oAdd : D → D → (D → Prop) → Prop
  | .int i, .int j, q => q (.int (i + j))
  | .int i, .bl k, q => q (.int (i + PyProof.Rows.b2i k))
  | .str x, .str y, q => x.length + y.length ≤ sizeLine ∧ q (.str (x ++ y))
  | .tup x, .tup y, q => x.length + y.length ≤ sizeLine ∧ q (.tup (x ++ y))
  | _, _, _ => False
theorem opd_add : OpD C (binaryOp .Add) oAdd := by
  refine ⟨_, ((op_add.or op_add_ib).or op_add_str).or op_catA, fun W x y d e Q q k r1 r2 hQ h => ?_⟩
  cases d with
  | int i =>
    cases e with
    | int j => exact .inl (.inl (.inl ⟨i, j, r1.int_inv, r2.int_inv, hQ _ _ W (Go.refl W) k rfl (.int _) h⟩))
    | bl b => exact .inl (.inl (.inr ⟨i, b, r1.int_inv, r2.bl_inv, hQ _ _ W (Go.refl W) k rfl (.int _) h⟩))
    | _ => exact h.elim
  | str a =>
    cases e with
    | str b =>
      obtain ⟨z, rfl, rfl⟩ := r1.str_inv
      obtain ⟨z2, rfl, rfl⟩ := r2.str_inv
      exact .inl (.inr ⟨z, z2, rfl, rfl, by rw [str_len, str_len]; exact h.1, hQ _ _ W (Go.refl W) k rfl (rp_strS _ (str_app z z2)) h.2⟩)
    | _ => exact h.elim
  | tup a =>
    cases e with
    | tup b =>
      obtain ⟨p, vs, rfl, hs, ra⟩ := r1.tup_inv
      obtain ⟨p2, vs2, rfl, hs2, rb⟩ := r2.tup_inv
      refine .inr ⟨p, p2, vs, vs2, rfl, rfl, same_tup k.sub hs, same_tup k.sub hs2, by rw [ra.length, rb.length]; exact h.1, fun e => ?_, fun _ e => ?_, fun _ _ l hl => ?_⟩
      · subst e
        cases ra
        exact hQ _ _ W (Go.refl W) k rfl (.tup hs2 rb) h.2
      · subst e
        cases rb
        have hq := h.2
        rw [List.append_nil] at hq
        exact hQ _ _ W (Go.refl W) k rfl (.tup hs ra) hq
      · exact hQ _ _ (W.lay l (.tup (vs ++ vs2))) (Go.lay k hl) (k.lay hl) rfl (.tup (.of upd_same) ((ra.append rb).mono (same_new (k.noF hl)) fun _ _ z => z)) h.2
    | _ => exact h.elim
  | _ => exact h.elim
def oCat : D → D → (List D → Prop) → Prop
  | .lst x, .lst y, q => x.length + y.length ≤ sizeLine ∧ q (x ++ y)
  | _, _, _ => False
theorem opn_cat : OpN C (binaryOp .Add) oCat := by
  refine ⟨_, op_cat, fun W x y d e Q q k r1 r2 hQ h => ?_⟩
  cases d with
  | lst a =>
    cases e with
    | lst b =>
      obtain ⟨p, vs, rfl, hp, np, ra⟩ := r1.lst_inv k
      obtain ⟨p2, vs2, rfl, hp2, np2, rb⟩ := r2.lst_inv k
      exact ⟨p, p2, vs, vs2, rfl, rfl, hp, hp2, by rw [ra.length, rb.length]; exact h.1, fun l hl => hQ l _ _ (W.new l (.lst (vs ++ vs2))) (Go.new k hl) (k.new hl) rfl upd_same (k.noF hl) (k.noR hl) hl (ra.append rb) h.2⟩
    | _ => exact h.elim
  | _ => exact h.elim
def oSub : D → D → (D → Prop) → Prop
  | .int i, .int j, q => q (.int (i - j))
  | _, _, _ => False
theorem opd_sub : OpD C (binaryOp .Sub) oSub := by
  refine ⟨_, op_sub, fun W x y d e Q q k r1 r2 hQ h => ?_⟩
  cases d with
  | int i =>
    cases e with
    | int j => exact ⟨i, j, r1.int_inv, r2.int_inv, hQ _ _ W (Go.refl W) k rfl (.int _) h⟩
    | _ => exact h.elim
  | _ => exact h.elim
/-- a text times a number -/
theorem op_rep_str {X : Cx} : OpR X (binaryOp .Mult) (fun x y H Q => ∃ z k, x = .str z ∧ y = .int k ∧ 0 ≤ k ∧ z.length * k.toNat ≤ sizeLine ∧ k ≤ 2 ^ 32 ∧ Q (.str (S (List.replicate k.toNat z.cps.toList).flatten)) H) := by
  intro pins s σ H x y v u Q I rx ry h
  obtain ⟨z, k, rfl, rfl, h0, hz, hk, q⟩ := h
  obtain ⟨t, rfl⟩ := rx
  obtain ⟨t', rfl⟩ := ry
  have e63 : (2 : Int) ^ 63 = 9223372036854775808 := by decide
  have e32 : (2 : Int) ^ 32 = 4294967296 := by decide
  refine PySem.P.mul_str ?_ (fun h1 h2 => ?_) (fun h1 h2 => ?_) ?_
  · rw [decide_eq_false (by omega), decide_eq_false (by omega)]; rfl
  · have h4 : (z.length : Int) ≤ 16777216 := by
      have : z.length * 1 ≤ z.length * k.toNat := Nat.mul_le_mul_left _ (by omega)
      rw [sizeLine_eq] at hz
      omega
    have h5 : (16777216 : Int) ≤ (2 ^ 63 - 1) / k := by
      refine Int.le_ediv_of_mul_le (by omega) ?_
      have : 16777216 * k ≤ 16777216 * 4294967296 := Int.mul_le_mul_of_nonneg_left (by omega) (by omega)
      omega
    omega
  · unfold Builtin.Str.tooLong
    exact decide_eq_false (by omega)
  · by_cases h1 : k < 1
    · rw [if_pos h1]
      have : k = 0 := by omega
      subst this
      exact ⟨by decide, .str _, H, I.tok _, ⟨_, rfl⟩, q⟩
    · rw [if_neg h1]
      by_cases h2 : (k == 1 || z.length == 0) = true
      · rw [if_pos h2]
        have e : S (List.replicate k.toNat z.cps.toList).flatten = z := by
          rcases Bool.or_eq_true_iff.mp h2 with h3 | h3
          · have : k = 1 := by simpa using h3
            subst this
            simp [S]
          · have : z.cps = #[] := by simpa [Str.length] using h3
            obtain ⟨c⟩ := z
            simp at this
            subst this
            simp [S]
        rw [e] at q
        exact ⟨.str z, H, I, ⟨t, rfl⟩, q⟩
      · rw [if_neg h2]
        have e : (⟨(List.replicate k.toNat z.cps).foldl (· ++ ·) #[]⟩ : Str) = S (List.replicate k.toNat z.cps.toList).flatten := by
          have f : ∀ (n : Nat) (acc : Array Nat), ((List.replicate n z.cps).foldl (· ++ ·) acc).toList = acc.toList ++ (List.replicate n z.cps.toList).flatten := fun n => by
            induction n with
            | zero => intro acc; simp
            | succ n ih => intro acc; rw [List.replicate_succ, List.foldl_cons, ih]; simp [List.replicate_succ]
          unfold S
          congr 1
          apply Array.toList_inj.mp
          rw [f]
          simp
        refine ⟨?_, .str _, H, I.tok _, ⟨_, by rw [e]⟩, q⟩
        rw [e, str_len, S_list, PyProof.Rows.lm_len_rep_flat, ← str_len, Nat.mul_comm]
        exact hz

def oMul : D → D → (D → Prop) → Prop
  | .int i, .int j, q => CMul i j ∧ q (.int (i * j))
  | .str x, .int j, q => 0 ≤ j ∧ x.length * j.toNat ≤ sizeLine ∧ j ≤ 2 ^ 32 ∧ q (.str (List.replicate j.toNat x).flatten)
  | _, _, _ => False
theorem opd_mul : OpD C (binaryOp .Mult) oMul := by
  refine ⟨_, op_mul.or op_rep_str, fun W x y d e Q q k r1 r2 hQ h => ?_⟩
  cases d with
  | int i =>
    cases e with
    | int j => exact .inl ⟨i, j, r1.int_inv, r2.int_inv, h.1, hQ _ _ W (Go.refl W) k rfl (.int _) h.2⟩
    | _ => exact h.elim
  | str a =>
    cases e with
    | int j =>
      obtain ⟨z, rfl, rfl⟩ := r1.str_inv
      exact .inr ⟨z, j, rfl, r2.int_inv, h.1, by rw [str_len]; exact h.2.1, h.2.2.1, hQ _ _ W (Go.refl W) k rfl (rp_strS _ (S_list _)) h.2.2.2⟩
    | _ => exact h.elim
  | _ => exact h.elim
def oRep : D → D → (List D → Prop) → Prop
  | .lst x, .int j, q => -(2 ^ 63) ≤ j ∧ j < 2 ^ 63 ∧ x.length * j.toNat ≤ sizeLine ∧ q (List.replicate j.toNat x).flatten
  | _, _, _ => False
/-- ints by ints -/
theorem opd_ii {f : Value → Value → Sem Value} {Cd : Int → Int → Prop} {g : Int → Int → V} {gd : Int → Int → D} (ho : OpR C.X f (rI Cd g)) (hg : ∀ F R i j, Rp C.X.K F R (g i j) (gd i j)) :
    OpD C f (fun d e q => match d, e with | .int i, .int j => Cd i j ∧ q (gd i j) | _, _ => False) := by
  refine ⟨_, ho, fun W x y d e Q q k r1 r2 hQ h => ?_⟩
  cases d with
  | int i =>
    cases e with
    | int j => exact ⟨i, j, r1.int_inv, r2.int_inv, h.1, hQ _ _ W (Go.refl W) k rfl (hg _ _ _ _) h.2⟩
    | _ => exact h.elim
  | _ => exact h.elim
def oDiv : D → D → (D → Prop) → Prop := fun d e q => match d, e with | .int i, .int j => CDiv i j ∧ q (.int (i / j)) | _, _ => False
def oMod : D → D → (D → Prop) → Prop := fun d e q => match d, e with | .int i, .int j => 0 < j ∧ q (.int (i % j)) | _, _ => False
theorem opd_mod : OpD C (binaryOp .Mod) oMod := opd_ii op_mod fun _ _ _ _ => .int _
def oPow : D → D → (D → Prop) → Prop := fun d e q => match d, e with | .int i, .int j => CPow i j ∧ q (.int (i ^ j.toNat)) | _, _ => False
theorem opd_pow : OpD C (binaryOp .Pow) oPow := opd_ii op_pow fun _ _ _ _ => .int _
def asI (d : D) (q : Int → Prop) : Prop := match d with
  | .int i => q i
  | _ => False
@[simp] def wNeg (w : EW M) : EW M := fun ρ g q => w ρ g fun d g' => asI d fun i => q (.int (-i)) g'
theorem de_neg {a : Expr} {wa : EW M} (ha : DE C a wa) : DE C (.UnaryOp .USub a pos) (wNeg wa) := ⟨fun σ ρ W Q q S hQ hw => tOf_of (pe_un un_neg pe_tOf) (ha.run σ ρ W _ _ S (fun v d W' g k r q1 => by
  cases d with
  | int i => exact ⟨i, by cases r; rfl, hQ _ _ W' g k (.int _) q1⟩
  | _ => exact q1.elim) hw)⟩

def oLt : D → D → (D → Prop) → Prop
  | .int i, .int j, q => q (.bl (decide (i < j)))
  | .str x, .str y, q => q (.bl (decide (x < y)))
  | _, _, _ => False
def oLe : D → D → (D → Prop) → Prop
  | .int i, .int j, q => q (.bl (decide (i ≤ j)))
  | .str x, .str y, q => q (.bl (!decide (y < x)))
  | _, _, _ => False
def oGt : D → D → (D → Prop) → Prop
  | .int i, .int j, q => q (.bl (decide (j < i)))
  | .str x, .str y, q => q (.bl (decide (y < x)))
  | _, _, _ => False
def oGe : D → D → (D → Prop) → Prop
  | .int i, .int j, q => q (.bl (decide (j ≤ i)))
  | .str x, .str y, q => q (.bl (!decide (x < y)))
  | _, _, _ => False
theorem opd_is {f : Value → Value → Sem Value} {gi : Int → Int → Bool} {gs : List Nat → List Nat → Bool} (h1 : OpR C.X f (rI0 fun i j => .bl (gi i j)))
    (h2 : OpR C.X f (fun x y H Q => ∃ i j, x = .str i ∧ y = .str j ∧ Q (.bl (gs i.cps.toList j.cps.toList)) H)) :
    OpD C f (fun d e q => match d, e with | .int i, .int j => q (.bl (gi i j)) | .str x, .str y => q (.bl (gs x y)) | _, _ => False) := by
  refine ⟨_, h1.or h2, fun W x y d e Q q k r1 r2 hQ h => ?_⟩
  cases d with
  | int i =>
    cases e with
    | int j => exact .inl ⟨i, j, r1.int_inv, r2.int_inv, hQ _ _ W (Go.refl W) k rfl (.bl _) h⟩
    | _ => exact h.elim
  | str a =>
    cases e with
    | str b =>
      obtain ⟨z, rfl, rfl⟩ := r1.str_inv
      obtain ⟨z2, rfl, rfl⟩ := r2.str_inv
      exact .inr ⟨z, z2, rfl, rfl, hQ _ _ W (Go.refl W) k rfl (.bl _) h⟩
    | _ => exact h.elim
  | _ => exact h.elim
theorem OpD.of_eq {f : Value → Value → Sem Value} {r r' : D → D → (D → Prop) → Prop} (h : OpD C f r) (e : ∀ x y q, r' x y q → r x y q) : OpD C f r' := by
  obtain ⟨rr, h1, h2⟩ := h.run
  exact ⟨rr, h1, fun W x y d e' Q q k r1 r2 hQ hr => h2 W x y d e' Q q k r1 r2 hQ (e _ _ _ hr)⟩
theorem opd_lt : OpD C (compareOp .Lt) oLt := (opd_is (gi := fun i j => decide (i < j)) (gs := fun x y => decide (x < y)) op_lt op_lt_str).of_eq fun x y q h => by cases x <;> cases y <;> exact h
theorem opd_le : OpD C (compareOp .LtE) oLe := (opd_is (gi := fun i j => decide (i ≤ j)) (gs := fun x y => !decide (y < x)) op_le op_le_str).of_eq fun x y q h => by cases x <;> cases y <;> exact h
theorem opd_gt : OpD C (compareOp .Gt) oGt := (opd_is (gi := fun i j => decide (j < i)) (gs := fun x y => decide (y < x)) op_gt op_gt_str).of_eq fun x y q h => by cases x <;> cases y <;> exact h
mutual
def py : D → PyData
  | .non => .none
  | .bl b => .bool b
  | .int i => .int i
  | .str x => .str (S x)
  | .lst xs => .list (pyA xs)
  | .tup xs => .tuple (pyA xs)
  | .dic kvs => .dict (pyK kvs)
  | .ob _ => .none
  | .exn _ _ _ => .none
  | .tx _ => .none
  | .cl _ => .none
def pyA : List D → List PyData
  | [] => []
  | d :: ds => py d :: pyA ds
def pyK : List (Key × D) → List (PyData × PyData)
  | [] => []
  | (k, d) :: r => ((match k with | .inl i => .int i | .inr x => .str x), py d) :: pyK r
end
mutual
def pln : D → Bool
  | .lst xs => plnA xs
  | .tup xs => plnA xs
  | .dic kvs => plnK kvs
  | .ob _ => false
  | .exn _ _ _ => false
  | .tx _ => false
  | .cl _ => false
  | .non => true
  | .bl _ => true
  | .int _ => true
  | .str _ => true
def plnA : List D → Bool
  | [] => true
  | d :: ds => pln d && plnA ds
def plnK : List (Key × D) → Bool
  | [] => true
  | (_, d) :: r => pln d && plnK r
end
section
variable {K : PySem.W.Frag} {F H : Hp} {R : List Addr}
mutual
theorem rp_dp (s : Same F H) : ∀ {v : V} {d : D}, Rp K F R v d → (py d).canLay0 = true → pln d = true → Dp K H v (py d)
  | _, _, .non, _, _ => .non
  | _, _, .bl b, _, _ => .bl b
  | _, _, .int i, _, _ => .int i
  | _, _, .str z x h, _, _ => by subst h; rw [show py (.str z.cps.toList) = .str (S z.cps.toList) from rfl, S_of]; exact .str z
  | _, .lst ds, .lst h q, hc, hp => .lst (.of (s _ _ h)) (rpA_dp s q (by simpa [py, PyData.canLay0] using hc) (by simpa [pln] using hp))
  | _, .tup ds, .tup h q, hc, hp => .tup (same_tup s h) (rpA_dp s q (by simpa [py, PyData.canLay0] using hc) (by simpa [pln] using hp))
  | _, .dic ds, .dic h q, hc, _ => by simp [py, PyData.canLay0] at hc
  | _, .ob k, .ob h, _, hp => by simp [pln] at hp
  | _, .exn _ _ _, .exn0 _ _ _ _, _, hp => by simp [pln] at hp
  | _, .exn _ _ _, .exn _ _ _ _ _ _ _, _, hp => by simp [pln] at hp
  | _, .tx _, .tx _ _ _ _, _, hp => by simp [pln] at hp
  | _, .cl _, .cl _, _, hp => by simp [pln] at hp
theorem rpA_dp (s : Same F H) : ∀ {vs : List V} {ds : List D}, RpA K F R vs ds → PyData.canLayAll0 (pyA ds) = true → plnA ds = true → DpAll K H vs (pyA ds)
  | _, _, .nil, _, _ => .nil
  | _, d :: ds, .cons r t, hc, hp => by
    have h1 : (py d).canLay0 = true ∧ PyData.canLayAll0 (pyA ds) = true := by simpa [pyA, PyData.canLayAll0] using hc
    have h2 : pln d = true ∧ plnA ds = true := by simpa [plnA] using hp
    exact .cons (rp_dp s r h1.1 h2.1) (rpA_dp s t h1.2 h2.2)
end
end
theorem rdp_dp {K : PySem.W.Frag} (k : Wok K W) {v : V} {d : D} (h : RdP K W v d) (hc : (py d).canLay0 = true) (hp : pln d = true) : Dp K W.H v (py d) := by
  rcases h with h | ⟨p, vs, ds, rfl, rfl, h, n, r⟩
  · exact rp_dp k.sub h hc hp
  · exact .lst (.of h) (rpA_dp k.sub r (by simpa [py, PyData.canLay0] using hc) (by simpa [pln] using hp))
/-- == of data -/
def deq (d e : D) : Bool := PyData.eqv (py d) (py e)
def shp (d : D) : Bool := SeqAt.shaped (py d) && pln d
def oEqB (f : Bool → Bool) : D → D → (D → Prop) → Prop
  | .int i, .int j, q => q (.bl (f (decide (i = j))))
  | .str x, .str y, q => q (.bl (f (decide (x = y))))
  | .bl x, .bl y, q => q (.bl (f (decide (x = y))))
  | d, e, q => shp d = true ∧ shp e = true ∧ q (.bl (f (deq d e)))
def oEq := oEqB id
def oNe := oEqB not
theorem str_dec (z z2 : Str) : decide (V.str z = V.str z2) = decide (z.cps.toList = z2.cps.toList) := by
  refine decide_eq_decide.mpr ⟨fun h => by cases h; rfl, fun h => ?_⟩
  obtain ⟨a⟩ := z
  obtain ⟨b⟩ := z2
  rw [show a = b from Array.toList_inj.mp h]
theorem oEqB_cases {f : Bool → Bool} {d e : D} {q : D → Prop} (h : oEqB f d e q) : (∃ i j, d = .int i ∧ e = .int j ∧ q (.bl (f (decide (i = j))))) ∨ (∃ i j, d = .str i ∧ e = .str j ∧ q (.bl (f (decide (i = j))))) ∨ (∃ i j, d = .bl i ∧ e = .bl j ∧ q (.bl (f (decide (i = j))))) ∨
    (shp d = true ∧ shp e = true ∧ q (.bl (f (deq d e)))) := by
  cases d <;> cases e <;> first | exact .inl ⟨_, _, rfl, rfl, h⟩ | exact .inr (.inl ⟨_, _, rfl, rfl, h⟩) | exact .inr (.inr (.inl ⟨_, _, rfl, rfl, h⟩)) | exact .inr (.inr (.inr h))
theorem shp_and {d : D} (h : shp d = true) : SeqAt.shaped (py d) = true ∧ pln d = true := by simpa [shp] using h
theorem opd_eqB {f : Bool → Bool} {g : Value → Value → Sem Value} (h1 : OpR C.X g (fun x y H Q => scal x y = true ∧ Q (.bl (f (decide (x = y)))) H)) (h2 : OpR C.X g (fun x y H Q => ∃ d e, Dp C.X.K H x d ∧ Dp C.X.K H y e ∧ SeqAt.shaped d = true ∧ SeqAt.shaped e = true ∧ Q (.bl (f (PyData.eqv d e))) H)) :
    OpD C g (oEqB f) := by
  refine ⟨_, h1.or h2, fun W x y d e Q q k r1 r2 hQ h => ?_⟩
  rcases oEqB_cases h with ⟨i, j, rfl, rfl, h⟩ | ⟨i, j, rfl, rfl, h⟩ | ⟨i, j, rfl, rfl, h⟩ | ⟨a, b, h⟩
  · have e1 := r1.int_inv
    have e2 := r2.int_inv
    subst e1 e2
    refine .inl ⟨rfl, hQ _ _ W (Go.refl W) k rfl (.bl _) ?_⟩
    rw [dec_int, Bool.beq_eq_decide_eq]
    exact h
  · obtain ⟨z, rfl, rfl⟩ := r1.str_inv
    obtain ⟨z2, rfl, rfl⟩ := r2.str_inv
    refine .inl ⟨rfl, hQ _ _ W (Go.refl W) k rfl (.bl _) ?_⟩
    rw [str_dec]
    exact h
  · have e1 := r1.bl_inv
    have e2 := r2.bl_inv
    subst e1 e2
    refine .inl ⟨rfl, hQ _ _ W (Go.refl W) k rfl (.bl _) ?_⟩
    rw [dec_bl, Bool.beq_eq_decide_eq]
    exact h
  · obtain ⟨a1, a2⟩ := shp_and a
    obtain ⟨b1, b2⟩ := shp_and b
    exact .inr ⟨py d, py e, rdp_dp k r1 (SeqAt.canLay_of_shaped a1) a2, rdp_dp k r2 (SeqAt.canLay_of_shaped b1) b2, a1, b1, hQ _ _ W (Go.refl W) k rfl (.bl _) h⟩
theorem opd_eq (hu : C.X.A.units + 64 < cLine) : OpD C (compareOp .Eq) oEq := opd_eqB op_eq (op_eqD hu)
theorem opd_ne (hu : C.X.A.units + 64 < cLine) : OpD C (compareOp .NotEq) oNe := opd_eqB op_ne (op_neD hu)
/-- is None -/
def isN : D → Bool
  | .non => true
  | _ => false
def oIsN : D → D → (D → Prop) → Prop := fun d e q => match e with | .non => q (.bl (isN d)) | _ => False
def oNotN : D → D → (D → Prop) → Prop := fun d e q => match e with | .non => q (.bl (!isN d)) | _ => False
theorem isN_of {K : PySem.W.Frag} {v : V} {d : D} (r : RdP K W v d) : decide (v = .non) = isN d := by
  rcases r with r | ⟨p, vs, ds, rfl, rfl, _⟩
  · cases r <;> rfl
  · rfl
theorem opd_isN : OpD C (compareOp .Is) oIsN := by
  refine ⟨_, op_isN, fun W x y d e Q q k r1 r2 hQ h => ?_⟩
  cases e with
  | non => exact ⟨r2.non_inv, hQ _ _ W (Go.refl W) k rfl (.bl _) (by rw [isN_of r1]; exact h)⟩
  | _ => exact h.elim
theorem opd_notN : OpD C (compareOp .IsNot) oNotN := by
  refine ⟨_, op_notN, fun W x y d e Q q k r1 r2 hQ h => ?_⟩
  cases e with
  | non => exact ⟨r2.non_inv, hQ _ _ W (Go.refl W) k rfl (.bl _) (by rw [isN_of r1]; exact h)⟩
  | _ => exact h.elim

def oIx : D → D → (D → Prop) → Prop
  | .lst ds, .int i, q => ∃ d, atI ds i = some d ∧ q d
  | .tup ds, .int i, q => ∃ d, atI ds i = some d ∧ q d
  | .str x, .int i, q => x.length ≤ sizeLine ∧ ∃ c, atI x i = some c ∧ q (.str [c])
  | _, _, _ => False
theorem atI_get2 {K : PySem.W.Frag} {F : Hp} {R : List Addr} {vs : List V} {ds : List D} {i : Int} {d : D} (r : RpA K F R vs ds) (h : atI ds i = some d) : ∃ v, atI vs i = some v ∧ Rp K F R v d := by
  unfold atI at h ⊢
  rw [← r.length] at h
  cases hj : ixN vs.length i with
  | none => rw [hj] at h; cases h
  | some j =>
    rw [hj] at h
    exact r.get' h
variable {a b : Expr} {wa wb : EW M}
theorem de_ix (ha : DP C a wa) (hb : DP C b wb) (hs : PlainIx b) : DE C (.Subscript a b pos) (wBin oIx wa wb) := ⟨fun σ ρ W Q q S hQ hw =>
  tOf_of (pe_ix ix_seq pe_tOf pe_tOf hs) (two_run (f := fun _ _ => pure .none) ha hb S (fun W1 x y d e g k r1 r2 q1 => by
    cases d with
    | lst ds =>
      cases e with
      | int i =>
        obtain ⟨d, h1, q1⟩ := q1
        obtain ⟨p, vs, rfl, hp, np, ra⟩ := r1.lst_inv k
        obtain ⟨v, h2, h3⟩ := atI_get2 ra h1
        exact .inl ⟨p, vs, i, v, rfl, r2.int_inv, .of hp, h2, hQ v d W1 g k h3 q1⟩
      | _ => exact q1.elim
    | tup ds =>
      cases e with
      | int i =>
        obtain ⟨d, h1, q1⟩ := q1
        obtain ⟨p, vs, rfl, hp, ra⟩ := r1.tup_inv
        obtain ⟨v, h2, h3⟩ := atI_get2 ra h1
        exact .inr (.inl ⟨p, vs, i, v, rfl, r2.int_inv, same_tup k.sub hp, h2, hQ v d W1 g k h3 q1⟩)
      | _ => exact q1.elim
    | str x =>
      cases e with
      | int i =>
        obtain ⟨hz, c, h1, q1⟩ := q1
        obtain ⟨z, rfl, rfl⟩ := r1.str_inv
        exact .inr (.inr ⟨z, i, c, rfl, r2.int_inv, by rw [str_len]; exact hz, h1, hQ _ _ W1 g k (rp_strS _ rfl) q1⟩)
      | _ => exact q1.elim
    | _ => exact q1.elim) hw)⟩
abbrev OW (M : Ghost) := DEnv → M.G → (Option Int → M.G → Prop) → Prop
def oOf (X : Cx) (e : Option Expr) : TO := fun σ H Q => ∀ (pins : List (Addr × Obj)) (s : Shared), Inv X pins σ H s →
  wpAny (model X.prog X.w) X.A (evalPart e X.env) (fun u s' => ∃ o H', Inv X pins σ H' s' ∧ PySem.IsPart u o ∧ Q o H') X.xe s
theorem po_tOf {X : Cx} {e : Option Expr} : PO X e (oOf X e) := ⟨fun pins s _ _ _ I h => h pins s I⟩
structure DO (C : Ct M) (e : Option Expr) (w : OW M) : Prop where
  run : ∀ (σ : L2.St) (ρ : DEnv) (W : Wd M) (Q : Option Int → Hp → Prop) (q : Option Int → M.G → Prop), Sat C σ ρ W → (∀ o W', Go W W' → Wok C.X.K W' → q o W'.g → Q o W'.H) → w ρ W.g q → oOf C.X e σ W.H Q
@[simp] def wONone : OW M := fun _ g q => q none g
@[simp] def wOSome (w : EW M) : OW M := fun ρ g q => w ρ g fun d g' => asI d fun i => q (some i) g'
theorem do_none : DO C none wONone := ⟨fun σ ρ W Q q S hQ hw pins s I => po_none.run pins s σ W.H Q I (hQ none W (Go.refl W) S.ok hw)⟩
theorem do_some (he : DE C e we) : DO C (some e) (wOSome we) := ⟨fun σ ρ W Q q S hQ hw pins s I => (po_some pe_tOf).run pins s σ W.H Q I (he.run σ ρ W _ _ S (fun v d W' g k r q1 => by
  cases d with
  | int i => exact ⟨i, by cases r; rfl, hQ _ W' g k q1⟩
  | _ => exact q1.elim) hw)⟩
def cutL {α : Type} (xs : List α) (lo hi : Option Int) : List α := (xs.drop (HT.sIx xs.length 0 lo)).take (HT.sIx xs.length xs.length hi - HT.sIx xs.length 0 lo)
theorem RpA.cut {K : PySem.W.Frag} {F : Hp} {R : List Addr} {vs : List V} {ds : List D} (r : RpA K F R vs ds) (lo hi : Option Int) : RpA K F R (cutV vs lo hi) (cutL ds lo hi) := by
  unfold cutV cutL
  rw [r.length]
  exact (r.drop _).take _
theorem cut_all {α : Type} {xs : List α} {lo hi : Option Int} (h : HT.sIx xs.length 0 lo = 0 ∧ HT.sIx xs.length xs.length hi = xs.length) : cutL xs lo hi = xs := by
  unfold cutL
  rw [h.1, h.2]
  simp
def oSl : D → Option Int → Option Int → (D → Prop) → Prop
  | .str x, lo, hi, q => x.length ≤ sizeLine ∧ q (.str (cutL x lo hi))
  | .tup ds, lo, hi, q => q (.tup (cutL ds lo hi))
  | .lst ds, lo, hi, q => q (.lst (cutL ds lo hi))
  | _, _, _, _ => False
def oSlN : D → Option Int → Option Int → (List D → Prop) → Prop
  | .lst ds, lo, hi, q => q (cutL ds lo hi)
  | _, _, _, _ => False
@[simp] def wSl (w : EW M) (l h : OW M) : EW M := fun ρ g q => w ρ g fun d g1 => l ρ g1 fun lo g2 => h ρ g2 fun hi g3 => oSl d lo hi fun r => q r g3
@[simp] def wSlN (w : EW M) (l h : OW M) : NW M := fun ρ g q => w ρ g fun d g1 => l ρ g1 fun lo g2 => h ρ g2 fun hi g3 => oSlN d lo hi fun r => q r g3
variable {lo hi : Option Expr} {wl wh : OW M} {p2 : Pos}
theorem sl_run {rr : V → Option Int → Option Int → Hp → VK → Prop} (ha : DP C a wa) (hl : DO C lo wl) (hh : DO C hi wh) {Q : VK} {q : D → Option Int → Option Int → M.G → Prop} (S : Sat C σ ρ W)
    (h : ∀ W1 x d l u, Go W W1 → Wok C.X.K W1 → RdP C.X.K W1 x d → q d l u W1.g → rr x l u W1.H Q) (hw : wa ρ W.g fun d g1 => wl ρ g1 fun l g2 => wh ρ g2 fun u g3 => q d l u g3) :
    tSl rr (tOf C.X a) (oOf C.X lo) (oOf C.X hi) σ W.H Q :=
  ha.run σ ρ W _ _ S (fun v d W1 g1 k1 r1 q1 => hl.run σ ρ W1 _ _ (S.step g1 k1) (fun l W2 g2 k2 q2 => hh.run σ ρ W2 _ _ (S.step (g1.trans g2) k2) (fun u W3 g3 k3 q3 => h W3 v d l u ((g1.trans g2).trans g3) k3 ((r1.step g2).step g3) q3) q2) q1) hw
theorem de_slice (ha : DP C a wa) (hl : DO C lo wl) (hh : DO C hi wh) : DE C (.Subscript a (.Slice lo hi none p2) pos) (wSl wa wl wh) := ⟨fun σ ρ W Q q S hQ hw =>
  tOf_of (pe_slice ((sl_str.or sl_tupA).or sl_list) pe_tOf po_tOf po_tOf) (sl_run ha hl hh S (fun W1 x d l u g k r q1 => by
    cases d with
    | str y =>
      obtain ⟨z, rfl, rfl⟩ := r.str_inv
      refine .inl (.inl ⟨z, rfl, by rw [str_len]; exact q1.1, hQ _ _ W1 g k (rp_strS _ ?_) q1.2⟩)
      unfold cutS cutL
      rw [str_len]
    | tup ds =>
      obtain ⟨p, vs, rfl, hp, ra⟩ := r.tup_inv
      refine .inl (.inr ⟨p, vs, rfl, same_tup k.sub hp, fun hw => ?_, fun _ t ht => ?_⟩)
      · rw [ra.length] at hw
        rw [show oSl (.tup ds) l u (fun r => q r W1.g) = q (.tup (cutL ds l u)) W1.g from rfl, cut_all hw] at q1
        exact hQ _ _ W1 g k (.tup hp ra) q1
      · exact hQ _ _ (W1.lay t (.tup (cutV vs l u))) (g.trans (Go.lay k ht)) (k.lay ht) (.tup (.of upd_same) ((ra.cut l u).mono (same_new (k.noF ht)) fun _ _ z => z)) q1
    | lst ds =>
      obtain ⟨p, vs, rfl, hp, np, ra⟩ := r.lst_inv k
      exact .inr ⟨p, vs, rfl, .of hp, fun t ht => hQ _ _ (W1.lay t (.lst (cutV vs l u))) (g.trans (Go.lay k ht)) (k.lay ht) (.lst upd_same ((ra.cut l u).mono (same_new (k.noF ht)) fun _ _ z => z)) q1⟩
    | _ => exact q1.elim) hw)⟩
theorem nofresh (g : Go W W1) {p : Addr} (h : W1.H p = none) : W.H p = none := by
  cases z : W.H p with
  | none => rfl
  | some o => exact absurd h (g.live p (by rw [z]; simp))
theorem dn_slice (ha : DP C a wa) (hl : DO C lo wl) (hh : DO C hi wh) : DN C (.Subscript a (.Slice lo hi none p2) pos) (wSlN wa wl wh) := ⟨fun σ ρ W Q q S hQ hw =>
  tOf_of (pe_slice sl_list pe_tOf po_tOf po_tOf) (sl_run ha hl hh S (fun W1 x d l u g k r q1 => by
    cases d with
    | lst ds =>
      obtain ⟨p, vs, rfl, hp, np, ra⟩ := r.lst_inv k
      exact ⟨p, vs, rfl, .of hp, fun t ht => hQ t _ _ (W1.new t (.lst (cutV vs l u))) (g.trans (Go.new k ht)) (k.new ht) upd_same (k.noF ht) (k.noR ht) (nofresh g ht) (ra.cut l u) q1⟩
    | _ => exact q1.elim) hw)⟩

structure CallD (C : Ct M) (f : Value) (r : List D → (D → Prop) → Prop) : Prop where
  run : ∃ rr, CallR C.X f rr ∧ ∀ (W : Wd M) (vs : List V) (ds : List D) (Q : VK) (q : D → Prop), Wok C.X.K W → Paired (RdP C.X.K W) vs ds →
    (∀ v d' W', Go W W' → Wok C.X.K W' → W'.g = W.g → Rp C.X.K W'.F W'.R v d' → q d' → Q v W'.H) → r ds q → rr vs W.H Q
structure CallN (C : Ct M) (f : Value) (r : List D → (List D → Prop) → Prop) : Prop where
  run : ∃ rr, CallR C.X f rr ∧ ∀ (W : Wd M) (vs : List V) (ds : List D) (Q : VK) (q : List D → Prop), Wok C.X.K W → Paired (RdP C.X.K W) vs ds →
    (∀ p vs ds W', Go W W' → Wok C.X.K W' → W'.g = W.g → W'.H p = some (.lst vs) → W'.F p = none → p ∉ W'.R → W.H p = none → RpA C.X.K W'.F W'.R vs ds → q ds → Q (.ref p) W'.H) → r ds q → rr vs W.H Q
@[simp] def wCB (r : List D → (D → Prop) → Prop) (wa : AW M) : EW M := fun ρ g q => wa ρ g fun ds g' => r ds fun d => q d g'
@[simp] def wCN (r : List D → (List D → Prop) → Prop) (wa : AW M) : NW M := fun ρ g q => wa ρ g fun ds g' => r ds fun d => q d g'
variable {x : Str} {p : Pos} {id T : String} {r : List D → (D → Prop) → Prop} {rn : List D → (List D → Prop) → Prop} {wA : AW M}
theorem de_callB (hc : CallD C (.builtin id) r) (hg : Gl C.X x) (hm : C.X.mg x = none) (hv : bootBuiltins x = some (.builtin id)) (ha : DAP C (e :: es) wA) (hn : x ≠ "__name__" := by decide) (hdb : (x == ("__debug__" : Str)) = false := by decide)
    (he : starEach (e :: es) C.X.env = (false, eval e C.X.env) :: starEach es C.X.env := by rfl) (hpl : (backTo pos (starEach es C.X.env)).any (·.1) = false := by rfl) : DE C (.Call (.Name x p) (e :: es) [] pos) (wCB r wA) := ⟨fun σ ρ W Q q S hQ hw => by
  obtain ⟨rr, h1, h2⟩ := hc.run
  exact tOf_of (pe_callB h1 hg hm hv pa_tOf hn hdb he hpl) (ha.run σ ρ W _ _ S (fun vs ds W1 g1 k1 r1 q1 => h2 W1 vs ds Q _ k1 r1 (fun v d W2 g2 k2 eg r2 q2 => hQ v d W2 (g1.trans g2) k2 r2 (eg ▸ q2)) q1) hw)⟩
theorem de_callTy (hc : CallD C (.type T) r) (hg : Gl C.X x) (hm : C.X.mg x = none) (hv : bootBuiltins x = some (.type T)) (ha : DAP C (e :: es) wA) (hn : x ≠ "__name__" := by decide) (hdb : (x == ("__debug__" : Str)) = false := by decide)
    (he : starEach (e :: es) C.X.env = (false, eval e C.X.env) :: starEach es C.X.env := by rfl) (hpl : (backTo pos (starEach es C.X.env)).any (·.1) = false := by rfl) : DE C (.Call (.Name x p) (e :: es) [] pos) (wCB r wA) := ⟨fun σ ρ W Q q S hQ hw => by
  obtain ⟨rr, h1, h2⟩ := hc.run
  exact tOf_of (pe_callTy h1 hg hm hv pa_tOf hn hdb he hpl) (ha.run σ ρ W _ _ S (fun vs ds W1 g1 k1 r1 q1 => h2 W1 vs ds Q _ k1 r1 (fun v d W2 g2 k2 eg r2 q2 => hQ v d W2 (g1.trans g2) k2 r2 (eg ▸ q2)) q1) hw)⟩
theorem dn_callB (hc : CallN C (.builtin id) rn) (hg : Gl C.X x) (hm : C.X.mg x = none) (hv : bootBuiltins x = some (.builtin id)) (ha : DAP C (e :: es) wA) (hn : x ≠ "__name__" := by decide) (hdb : (x == ("__debug__" : Str)) = false := by decide)
    (he : starEach (e :: es) C.X.env = (false, eval e C.X.env) :: starEach es C.X.env := by rfl) (hpl : (backTo pos (starEach es C.X.env)).any (·.1) = false := by rfl) : DN C (.Call (.Name x p) (e :: es) [] pos) (wCN rn wA) := ⟨fun σ ρ W Q q S hQ hw => by
  obtain ⟨rr, h1, h2⟩ := hc.run
  exact tOf_of (pe_callB h1 hg hm hv pa_tOf hn hdb he hpl) (ha.run σ ρ W _ _ S (fun vs ds W1 g1 k1 r1 q1 => h2 W1 vs ds Q _ k1 r1 (fun p vs ds W2 g2 k2 eg a1 a2 a3 a4 r2 q2 => hQ p vs ds W2 (g1.trans g2) k2 a1 a2 a3 (nofresh g1 a4) r2 (eg ▸ q2)) q1) hw)⟩
def cLen : List D → (D → Prop) → Prop
  | [.str x], q => x.length ≤ sizeLine ∧ q (.int x.length)
  | [.lst ds], q => q (.int ds.length)
  | [.tup ds], q => q (.int ds.length)
  | _, _ => False
theorem pair1 {α β : Type} {P : α → β → Prop} {xs : List α} {y : β} (h : Paired P xs [y]) : ∃ x, xs = [x] ∧ P x y := by
  cases h with
  | cons a b => cases b; exact ⟨_, rfl, a⟩
theorem one_of {r : List D → (D → Prop) → Prop} {ds : List D} {q : D → Prop} (h : r ds q) (f : ∀ q, ¬ r [] q) (f2 : ∀ a b c q, ¬ r (a :: b :: c) q) : ∃ d, ds = [d] := by
  cases ds with
  | nil => exact absurd h (f q)
  | cons a t =>
    cases t with
    | nil => exact ⟨a, rfl⟩
    | cons b c => exact absurd h (f2 a b c q)
theorem calld_len : CallD C (.builtin "len") cLen := by
  refine ⟨_, call_len, fun W vs ds Q q k r hQ h => ?_⟩
  obtain ⟨d, rfl⟩ := one_of h (fun _ h => h) (fun a _ _ _ h => by cases a <;> exact h)
  obtain ⟨v, rfl, r0⟩ := pair1 r
  cases d with
  | str x =>
    obtain ⟨z, rfl, rfl⟩ := r0.str_inv
    refine ⟨_, z.length, rfl, ⟨by rw [str_len]; exact h.1, rfl⟩, hQ _ _ W (Go.refl W) k rfl (.int _) ?_⟩
    rw [str_len]
    exact h.2
  | lst ds =>
    obtain ⟨p, vs, rfl, hp, np, ra⟩ := r0.lst_inv k
    exact ⟨_, vs.length, rfl, .inl ⟨vs, .of hp, rfl⟩, hQ _ _ W (Go.refl W) k rfl (.int _) (by rw [ra.length]; exact h)⟩
  | tup ds =>
    obtain ⟨p, vs, rfl, hp, ra⟩ := r0.tup_inv
    exact ⟨_, vs.length, rfl, .inr ⟨vs, same_tup k.sub hp, rfl⟩, hQ _ _ W (Go.refl W) k rfl (.int _) (by rw [ra.length]; exact h)⟩
  | _ => exact h.elim
def cTuple : List D → (D → Prop) → Prop
  | [.lst ds], q => q (.tup ds)
  | [.tup ds], q => q (.tup ds)
  | _, _ => False
theorem calld_tuple : CallD C (.type "tuple") cTuple := by
  refine ⟨_, call_tuple_of, fun W vs ds Q q k r hQ h => ?_⟩
  obtain ⟨d, rfl⟩ := one_of h (fun _ h => h) (fun a _ _ _ h => by cases a <;> exact h)
  obtain ⟨v, rfl, r0⟩ := pair1 r
  cases d with
  | lst ds =>
    obtain ⟨p, vs, rfl, hp, np, ra⟩ := r0.lst_inv k
    exact ⟨p, vs, rfl, .inl ⟨.of hp, fun t ht => hQ _ _ (W.lay t (.tup vs)) (Go.lay k ht) (k.lay ht) rfl (.tup (.of upd_same) (ra.mono (same_new (k.noF ht)) fun _ _ z => z)) h⟩⟩
  | tup ds =>
    obtain ⟨p, vs, rfl, hp, ra⟩ := r0.tup_inv
    exact ⟨p, vs, rfl, .inr ⟨same_tup k.sub hp, hQ _ _ W (Go.refl W) k rfl (.tup hp ra) h⟩⟩
  | _ => exact h.elim
def cList : List D → (List D → Prop) → Prop
  | [.lst ds], q => q ds
  | [.tup ds], q => q ds
  | _, _ => False
def cMin2 : List D → (D → Prop) → Prop
  | [.int i, .int j], q => q (.int (if j < i then j else i))
  | _, _ => False
def cMax2 : List D → (D → Prop) → Prop
  | [.int i, .int j], q => q (.int (if j > i then j else i))
  | _, _ => False
def jn (sep : List Nat) : List (List Nat) → List Nat := TL.joinL sep
def oJoin (sep : List Nat) (d : D) (q : D → Prop) : Prop := ∃ ds xs, (d = .lst ds ∨ d = .tup ds) ∧ ds = xs.map D.str ∧ (xs.map (·.length)).sum + xs.length * sep.length ≤ 16777216 ∧ q (.str (jn sep xs))
def asS (d : D) (q : List Nat → Prop) : Prop := match d with
  | .str i => q i
  | _ => False
@[simp] def wJoin (wo we : EW M) : EW M := fun ρ g q => wo ρ g fun s g1 => asS s fun sep => we ρ g1 fun d g2 => oJoin sep d fun r => q r g2
theorem join_list (a : Str) (zs : List Str) : (PySem.Txt.join a zs).cps.toList = jn a.cps.toList (zs.map (·.cps.toList)) := by
  rw [TL.join_eq]
  exact TL.tl_join a zs
theorem de_join {o : Expr} {wo : EW M} {apos : Pos} (ho : DE C o wo) (he : DP C e we) (hs : starEach [e] C.X.env = [(false, eval e C.X.env)] := by rfl) (hbase : attributeBase o "join" C.X.env (eval o C.X.env) = eval o C.X.env := by rfl) (hline : (apos.endLine == pos.line) = true := by rfl) :
    DE C (.Call (.Attribute o "join" apos) [e] [] pos) (wJoin wo we) := ⟨fun σ ρ W Q q S hQ hw =>
  tOf_of (pe_join pe_tOf pe_tOf hs hbase hline) (ho.run σ ρ W _ _ S (fun v d W1 g1 k1 r1 q1 => by
    cases d with
    | str sep =>
      cases r1 with
      | str z _ hz =>
        subst hz
        refine ⟨⟨z, rfl⟩, he.run σ ρ W1 _ _ (S.step g1 k1) (fun u d2 W2 g2 k2 r2 q2 => ?_) q1⟩
        obtain ⟨ds, xs, hd, e1, hl, q2⟩ := q2
        subst e1
        have fin : ∀ {vs : List V}, RpA C.X.K W2.F W2.R vs (xs.map D.str) → ∃ zs : List Str, vs = zs.map V.str ∧ (zs.map (·.length)).sum + zs.length * z.length ≤ 16777216 ∧ Q (.str (PySem.Txt.join z zs)) W2.H := fun {vs} r => by
          obtain ⟨zs, e1, e2⟩ := r.strs
          refine ⟨zs, e1, ?_, hQ _ _ W2 (g1.trans g2) k2 (rp_strS _ (by rw [join_list, e2])) q2⟩
          subst e2
          have e3 : (List.map (fun x : Str => x.cps.toList) zs).map (·.length) = zs.map (·.length) := by
            rw [List.map_map]
            exact List.map_congr_left fun x _ => (str_len x).symm
          rw [e3, List.length_map, ← str_len] at hl
          exact hl
        rcases hd with rfl | rfl
        · obtain ⟨p, vs, rfl, hp, np, ra⟩ := r2.lst_inv k2
          obtain ⟨zs, rfl, h1, h2⟩ := fin ra
          exact ⟨z, p, zs, rfl, rfl, .inl (.of hp), h1, h2⟩
        · obtain ⟨p, vs, rfl, hp, ra⟩ := r2.tup_inv
          obtain ⟨zs, rfl, h1, h2⟩ := fin ra
          exact ⟨z, p, zs, rfl, rfl, .inr (same_tup k2.sub hp), h1, h2⟩
    | _ => exact q1.elim) hw)⟩
end
end DL
set_option Elab.async false
set_option linter.all false
set_option maxRecDepth 100000
set_option maxHeartbeats 1000000
namespace DL
open PySem L2
/-- (text, number), in Python's order -/
def leTI (p q : List Nat × Int) : Prop := p.1 < q.1 ∨ (p.1 = q.1 ∧ p.2 ≤ q.2)
theorem perm_map_inv {α β : Type} {f : α → β} : ∀ {l l2 : List β}, l.Perm l2 → ∀ rs : List α, l2 = rs.map f → ∃ rs' : List α, rs'.Perm rs ∧ l = rs'.map f := by
  intro l l2 h
  induction h with
  | nil =>
    intro rs e
    cases rs with
    | nil => exact ⟨[], .refl _, rfl⟩
    | cons a r => cases e
  | cons x h ih =>
    intro rs e
    cases rs with
    | nil => cases e
    | cons a r =>
      injection e with e1 e2
      obtain ⟨rs', p, e3⟩ := ih r e2
      exact ⟨a :: rs', p.cons a, by rw [e1, e3]; rfl⟩
  | swap x y l =>
    intro rs e
    cases rs with
    | nil => cases e
    | cons a r =>
      cases r with
      | nil => cases e
      | cons b r =>
        injection e with e1 e2
        injection e2 with e2 e3
        exact ⟨b :: a :: r, List.Perm.swap a b r, by rw [e1, e2, e3]; rfl⟩
  | trans h1 h2 ih1 ih2 =>
    intro rs e
    obtain ⟨r1, p1, e1⟩ := ih2 rs e
    obtain ⟨r2, p2, e2⟩ := ih1 r1 e1
    exact ⟨r2, p2.trans p1, e2⟩
abbrev RTI := Addr × Str × Int
def keyTI (r : RTI) : List (Int ⊕ List Nat) := [.inr r.2.1.cps.toList, .inl r.2.2]
def rSortedTI (K : PySem.W.Frag) : List V → Hp → VK → Prop := fun vs H Q => ∃ (a : Addr) (rs : List (Addr × Str × Int)), vs = [.ref a] ∧ SqL K H a (rs.map fun r => V.ref r.1) ∧ (∀ r ∈ rs, SqT K H r.1 [.str r.2.1, .int r.2.2]) ∧
  ∀ (rs' : List (Addr × Str × Int)) (p : Addr), rs'.Perm rs → rs'.Pairwise (fun r q => leTI (r.2.1.cps.toList, r.2.2) (q.2.1.cps.toList, q.2.2)) → H p = none → Q (.ref p) (upd H p (.lst (rs'.map fun r => V.ref r.1)))
theorem vals_refs : ∀ {rs : List RTI} {us : List Value}, Vals (rs.map fun r => V.ref r.1) us → us = rs.map fun r => Value.ref r.1
  | [], _, .nil => rfl
  | r :: rs, _, .cons a t => by
    have e : _ = Value.ref r.1 := a
    rw [e, vals_refs t]
    rfl
theorem refs_vals : ∀ rs : List RTI, Vals (rs.map fun r => V.ref r.1) (rs.map fun r => Value.ref r.1)
  | [] => .nil
  | r :: rs => .cons rfl (refs_vals rs)
theorem zip_refs : ∀ rs : List RTI, (rs.map fun r => Value.ref r.1).zip (rs.map fun r => Value.ref r.1) = rs.map fun r => (Value.ref r.1, Value.ref r.1)
  | [] => rfl
  | r :: rs => by rw [List.map_cons, List.map_cons, List.zip_cons_cons, zip_refs rs]
theorem kle_TI {r q : RTI} (h : (PyProof.Rows.G.tupKindC hp sh).kle (keyTI r) (keyTI q)) : leTI (r.2.1.cps.toList, r.2.2) (q.2.1.cps.toList, q.2.2) := by
  have h' : (decide (q.2.1.cps.toList < r.2.1.cps.toList) || (!decide (r.2.1.cps.toList < q.2.1.cps.toList) && (decide (q.2.2 < r.2.2) || (!decide (r.2.2 < q.2.2) && false)))) = false := h
  simp only [Bool.or_eq_false_iff, Bool.and_eq_false_iff, decide_eq_false_iff_not, Bool.not_eq_false', decide_eq_true_eq, Bool.and_false, Bool.or_false] at h'
  obtain ⟨h1, h2⟩ := h'
  by_cases h3 : r.2.1.cps.toList < q.2.1.cps.toList
  · exact .inl h3
  · refine .inr ⟨List.le_antisymm (List.not_lt.mp h1) (List.not_lt.mp h3), ?_⟩
    rcases h2 with h2 | h2
    · exact absurd h2 h3
    · show r.2.2 ≤ q.2.2
      simp at h2
      omega
theorem cr_sortedTI {X : Cx} : CallR X (.builtin "sorted") (rSortedTI X.K) := by
  intro pins s σ H vs us Q I r h
  obtain ⟨a, rs, rfl, hs, ht, q⟩ := h
  obtain ⟨its, rv, hl, hz⟩ := I.list hs
  obtain ⟨u, rfl, ru⟩ := vals1 r
  obtain rfl : u = Value.ref a := ru
  have eits := vals_refs rv
  subst eits
  -- each item, in the heap
  have at_ : ∀ r ∈ rs, ∃ o t1 t2 n, s.heap.get? r.1 = some o ∧ o.cls = .type "tuple" ∧ o.data = .seq #[.str r.2.1 t1, .int r.2.2 t2] n := fun r hr => by
    obtain ⟨its2, r2, ⟨o, ho, hc, n, hd⟩, _⟩ := I.tuple (ht r hr)
    obtain ⟨u1, u2, rfl, ⟨t1, rfl⟩, ⟨t2, rfl⟩⟩ := vals2 r2
    exact ⟨o, t1, t2, n, ho, hc, hd⟩
  have key : ∀ r ∈ rs, PyProof.Rows.G.tupKeyC s.heap (fun i => i == 0) (.ref r.1) = some (keyTI r) := fun r hr => by
    obtain ⟨o, t1, t2, n, ho, hc, hd⟩ := at_ r hr
    simp [PyProof.Rows.G.tupKeyC, PyProof.Rows.G.isTupObj, PyProof.Rows.tupKey, ho, hc, hd, PyProof.Rows.tupItems, keyTI]
  have tups : ∀ l : List RTI, (∀ r ∈ l, r ∈ rs) → ∃ fs, PyProof.Rows.TupsOf s.heap (fun i => i == 0) (l.map fun r => Value.ref r.1) fs := fun l => by
    induction l with
    | nil => exact fun _ => ⟨[], .nil⟩
    | cons r l ih =>
      intro hm
      obtain ⟨fs, hf⟩ := ih fun x hx => hm x (List.mem_cons_of_mem _ hx)
      obtain ⟨o, t1, t2, n, ho, hc, hd⟩ := at_ r (hm r List.mem_cons_self)
      exact ⟨.str r.2.1 t1 :: fs, .cons ⟨r.1, o, _, n, rfl, ho, hc, hd, rfl, fun z => by simp at z, fun _ => ⟨_, _, rfl⟩⟩ hf⟩
  obtain ⟨fs, hf⟩ := tups rs fun _ h => h
  have hlen : (rs.map fun r => Value.ref r.1).length ≤ sizeLine := by
    rw [List.length_map] at hz ⊢
    exact hz
  refine PyProof.Rows.G.sorted_tups hl.isList hf (fun v hv => ?_) hlen fun st' hp hsd _ => ?_
  · obtain ⟨r, hr, rfl⟩ := List.mem_map.mp hv
    exact ⟨_, key r hr⟩
  · obtain ⟨ep, he'⟩ := PyProof.Rows.sortedAll_at s.heap (rs.map fun r => Value.ref r.1) ((PyProof.Rows.arrOf st').map (·.2))
    have hp' : (PyProof.Rows.arrOf st').toList.Perm (rs.map fun r => (Value.ref r.1, Value.ref r.1)) := by
      have e : (PyProof.Rows.pairsOf (rs.map fun r => Value.ref r.1)).toList = rs.map fun r => (Value.ref r.1, Value.ref r.1) := by
        rw [PyProof.Rows.pairsOf_toList]
        exact zip_refs rs
      rw [← e]
      exact Array.perm_iff_toList_perm.mp hp
    obtain ⟨rs', p2, e2⟩ := perm_map_inv (f := fun r : RTI => (Value.ref r.1, Value.ref r.1)) hp' rs rfl
    have eo : ((PyProof.Rows.arrOf st').map (·.2)).toList = rs'.map fun r => Value.ref r.1 := by
      rw [Array.toList_map, e2, List.map_map]
      rfl
    have hin : ∀ r ∈ rs', r ∈ rs := fun r hr => p2.mem_iff.mp hr
    have kk : ∀ (i : Nat) r, rs'[i]? = some r → PyProof.Rows.KK (PyProof.Rows.G.tupKindC s.heap (fun i => i == 0)) (PyProof.Rows.arrOf st') i = keyTI r := fun i r e => by
      have h1 : (PyProof.Rows.arrOf st')[i]? = some (Value.ref r.1, Value.ref r.1) := by
        rw [← Array.getElem?_toList, e2, List.getElem?_map, e]
        rfl
      unfold PyProof.Rows.KK
      rw [h1]
      show (PyProof.Rows.G.tupKeyC s.heap (fun i => i == 0) (.ref r.1)).getD _ = _
      rw [key r (hin r (List.mem_of_getElem? e))]
      rfl
    have srt : rs'.Pairwise (fun r q => leTI (r.2.1.cps.toList, r.2.2) (q.2.1.cps.toList, q.2.2)) := by
      rw [List.pairwise_iff_getElem]
      intro i j hi hj hij
      have hjs : j < (PyProof.Rows.pairsOf (rs.map fun r => Value.ref r.1)).size := by
        rw [PyProof.Rows.pairsOf_size, List.length_map, ← p2.length_eq]
        exact hj
      have := hsd i j (Nat.le_of_lt hij) hjs
      rw [kk i _ (List.getElem?_eq_getElem hi), kk j _ (List.getElem?_eq_getElem hj)] at this
      exact kle_TI this
    refine ⟨.ref (s.heap.objs.size + 1), upd H (s.heap.objs.size + 1) (.lst (rs'.map fun r => V.ref r.1)), I.laid (t' := s.toks) (fun _ _ => PyProof.Rows.sortedAll_old) (Nat.le_succ _) ⟨?_, rs'.map fun r => Value.ref r.1, ep, refs_vals rs', ?_⟩, rfl,
      q rs' _ p2 srt (I.hok.fresh (Nat.le_succ _))⟩
    · rw [List.length_map, p2.length_eq, ← List.length_map (f := fun r : RTI => V.ref r.1)]
      exact hz
    · rw [he', ← eo]
section
variable {M : Ghost} {C : Ct M} {W W1 W2 W' : Wd M} {σ : L2.St} {ρ : DEnv} {e : Expr} {es : List Expr} {we : EW M} {pos : Pos}
def pairTI (p : List Nat × Int) : D := .tup [.str p.1, .int p.2]
/-- sorted of pairs (text, number) -/
def cSortedTI (ds : List D) (q : List D → Prop) : Prop := ∃ xs : List (List Nat × Int), ds = [.lst (xs.map pairTI)] ∧ ∀ ys : List (List Nat × Int), ys.Perm xs → ys.Pairwise leTI → q (ys.map pairTI)
theorem rpa_TI {K : PySem.W.Frag} {F : Hp} {R : List Addr} : ∀ {vs : List V} {xs : List (List Nat × Int)}, RpA K F R vs (xs.map pairTI) → ∃ rs : List RTI, vs = rs.map (fun r => V.ref r.1) ∧ xs = rs.map (fun r => (r.2.1.cps.toList, r.2.2)) ∧ ∀ r ∈ rs, SqT K F r.1 [.str r.2.1, .int r.2.2]
  | _, [], .nil => ⟨[], rfl, rfl, fun _ h => by cases h⟩
  | _, (x, i) :: xs, h => by
    have h' : RpA K F R _ (D.tup [.str x, .int i] :: xs.map pairTI) := h
    cases h' with
    | cons a t =>
      cases a with
      | tup hs b =>
        cases b with
        | cons b1 b2 =>
          cases b1 with
          | str z _ hz =>
            cases b2 with
            | cons b3 b4 =>
              cases b3
              cases b4
              obtain ⟨rs, e1, e2, h2⟩ := rpa_TI t
              refine ⟨(_, z, i) :: rs, by rw [e1]; rfl, by rw [e2, List.map_cons, hz], fun r hr => ?_⟩
              rcases List.mem_cons.mp hr with rfl | hr
              · exact hs
              · exact h2 r hr
theorem TI_rpa {K : PySem.W.Frag} {F : Hp} {R : List Addr} : ∀ {rs : List RTI}, (∀ r ∈ rs, SqT K F r.1 [.str r.2.1, .int r.2.2]) → RpA K F R (rs.map fun r => V.ref r.1) ((rs.map (fun r => (r.2.1.cps.toList, r.2.2))).map pairTI)
  | [], _ => .nil
  | r :: rs, h => .cons (.tup (h r List.mem_cons_self) (.cons (rp_str _) (.cons (.int _) .nil))) (TI_rpa fun x hx => h x (List.mem_cons_of_mem _ hx))
theorem calln_sortedTI : CallN C (.builtin "sorted") cSortedTI := by
  refine ⟨_, cr_sortedTI, fun W vs ds Q q k r hQ h => ?_⟩
  obtain ⟨xs, rfl, h⟩ := h
  obtain ⟨v, rfl, r0⟩ := pair1 r
  obtain ⟨p, vs, rfl, hp, np, ra⟩ := r0.lst_inv k
  obtain ⟨rs, rfl, rfl, hs⟩ := rpa_TI ra
  refine ⟨p, rs, rfl, .of hp, fun r hr => same_tup k.sub (hs r hr), fun rs' t p2 srt ht => ?_⟩
  refine hQ t _ _ (W.new t (.lst _)) (Go.new k ht) (k.new ht) rfl upd_same (k.noF ht) (k.noR ht) ht (TI_rpa fun r hr => hs r (p2.mem_iff.mp hr)) (h (rs'.map fun r => (r.2.1.cps.toList, r.2.2)) (p2.map _) ?_)
  rw [List.pairwise_map]
  exact srt

def rep (d : D) : List Nat := (py d).shown.cps.toList
def repOk (d : D) : Prop := (py d).showable = true ∧ pln d = true ∧ (py d).depth ≤ 60 ∧ (py d).shown.length ≤ sizeLine
theorem Inv.notSm {X : Cx} {pins : List (Addr × Obj)} {H : Hp} {s : Shared} (I : Inv X pins σ H s) (sb : SmB X.base) {a : Addr} {o : HO} (e : H a = some o) : a ≠ sysModules := fun z => by
  obtain ⟨u, hu⟩ := sb
  rw [z, (I.bs _ _ hu).2] at e
  cases e
theorem not_in_cons {a b : Addr} {as : List Addr} (h : a ≠ b) (r : b ∉ as) : b ∉ a :: as := fun z => (List.mem_cons.mp z).elim (fun e => h e.symm) r
theorem not_in_app {b : Addr} {as bs : List Addr} (h : b ∉ as) (r : b ∉ bs) : b ∉ as ++ bs := fun z => (List.mem_append.mp z).elim h r
mutual
theorem rp_reads {X : Cx} {pins : List (Addr × Obj)} {H : Hp} {s : Shared} {F : Hp} {R : List Addr} (I : Inv X pins σ H s) (sb : SmB X.base) (sm : Same F H) : ∀ {v : V} {d : D}, Rp X.K F R v d → pln d = true → ∀ u, RelV v u → ∃ as, Reads s.heap u (py d) as ∧ sysModules ∉ as
  | _, _, .non, _, _, r => by cases r; exact ⟨_, Reads.none, by simp⟩
  | _, _, .bl b, _, _, r => by cases r; exact ⟨_, Reads.bool b, by simp⟩
  | _, _, .int i, _, _, r => by obtain ⟨t, rfl⟩ := r; exact ⟨_, Reads.int i t, by simp⟩
  | _, _, .str z x h, _, _, r => by
    subst h
    obtain ⟨t, rfl⟩ := r
    rw [show py (.str z.cps.toList) = .str (S z.cps.toList) from rfl, S_of]
    exact ⟨_, Reads.str z t, by simp⟩
  | _, .lst ds, .lst h q, hp, _, r => by
    cases r
    obtain ⟨its, rv, ⟨o, n, ho, hc, _, hdat⟩, _⟩ := I.list (.of (sm _ _ h))
    obtain ⟨as, hr, hn⟩ := rpA_reads I sb sm q (by simpa [pln] using hp) its rv
    exact ⟨_, Reads.list ho hc hdat hr, not_in_cons (Inv.notSm I sb (sm _ _ h)) hn⟩
  | _, .tup ds, .tup h q, hp, _, r => by
    cases r
    obtain ⟨its, rv, ⟨o, ho, hc, n, hdat⟩, _⟩ := I.tuple (same_tup sm h)
    obtain ⟨as, hr, hn⟩ := rpA_reads I sb sm q (by simpa [pln] using hp) its rv
    exact ⟨_, Reads.tuple ho hc hdat hr, hn⟩
  | _, .dic ds, .dic (a := a) (kvs := kvs) h q, hp, _, r => by
    cases r
    obtain ⟨_, hsm, vs, kv, o, es, ep, ho, ⟨hc, _⟩, hdat, _, pr, _⟩ := (show ObjOk X.prog X.w H s.heap a (.dK kvs) from I.hok a _ (sm _ _ h))
    obtain ⟨as, bs, h1, h2, h3, h4⟩ := rpK_reads I sb sm q (by simpa [pln] using hp) es.toList vs kv pr
    refine ⟨_, Reads.dict ho hc hdat h1 h2, ?_⟩
    exact not_in_cons (by simpa using hsm) (not_in_app h3 h4)
  | _, .ob k, .ob h, hp, _, _ => by simp [pln] at hp
  | _, .exn _ _ _, .exn0 _ _ _ _, hp, _, _ => by simp [pln] at hp
  | _, .exn _ _ _, .exn _ _ _ _ _ _ _, hp, _, _ => by simp [pln] at hp
  | _, .tx _, .tx _ _ _ _, hp, _, _ => by simp [pln] at hp
theorem rpA_reads {X : Cx} {pins : List (Addr × Obj)} {H : Hp} {s : Shared} {F : Hp} {R : List Addr} (I : Inv X pins σ H s) (sb : SmB X.base) (sm : Same F H) : ∀ {vs : List V} {ds : List D}, RpA X.K F R vs ds → plnA ds = true → ∀ us, Vals vs us → ∃ as, ReadsAll s.heap us (pyA ds) as ∧ sysModules ∉ as
  | _, _, .nil, _, _, r => by cases r; exact ⟨_, ReadsAll.nil, by simp⟩
  | _, d :: ds, .cons h t, hp, _, r => by
    have h2 : pln d = true ∧ plnA ds = true := by simpa [plnA] using hp
    cases r with
    | cons r1 r2 =>
      obtain ⟨as, q1, n1⟩ := rp_reads I sb sm h h2.1 _ r1
      obtain ⟨bs, q2, n2⟩ := rpA_reads I sb sm t h2.2 _ r2
      exact ⟨_, ReadsAll.cons q1 q2, not_in_app n1 n2⟩
theorem rpK_reads {X : Cx} {pins : List (Addr × Obj)} {H : Hp} {s : Shared} {F : Hp} {R : List Addr} (I : Inv X pins σ H s) (sb : SmB X.base) (sm : Same F H) : ∀ {kvs : List (Key × V)} {kds : List (Key × D)}, RpK X.K F R kvs kds → plnK kds = true → ∀ (es : List DictEntry) (vs : List (Key × Value)), KV kvs vs → Pairs (mixKind X.prog X.w) es vs →
    ∃ as bs, ReadsAll s.heap (es.map (·.key)) ((pyK kds).map (·.1)) as ∧ ReadsAll s.heap (es.map (·.val)) ((pyK kds).map (·.2)) bs ∧ sysModules ∉ as ∧ sysModules ∉ bs
  | _, _, .nil, _, _, _, kv, pr => by
    cases kv
    cases pr
    exact ⟨_, _, ReadsAll.nil, ReadsAll.nil, by simp, by simp⟩
  | _, (k, d) :: kds, .cons h t, hp, _, _, kv, pr => by
    have h2 : pln d = true ∧ plnK kds = true := by simpa [plnK] using hp
    cases kv with
    | cons kv1 kv2 =>
      cases pr with
      | cons p1 p2 p3 =>
        rename_i kw kws e es
        obtain ⟨k', u⟩ := kw
        obtain ⟨ek, rv⟩ := kv1
        have ek' : k = k' := ek
        subst ek'
        obtain ⟨as, q1, n1⟩ := rp_reads I sb sm h h2.1 _ rv
        obtain ⟨cs, bs, q2, q3, n2, n3⟩ := rpK_reads I sb sm t h2.2 _ _ kv2 p3
        have p2' : e.val = u := p2
        rcases keyIs_shape (show keyIs k e.key = true from p1) with ⟨i, tk, rfl, ke⟩ | ⟨x, tk, rfl, ke⟩
        · refine ⟨[] ++ cs, as ++ bs, ?_, ?_, not_in_app (by simp) n2, not_in_app n1 n3⟩
          · rw [List.map_cons, ke]; exact ReadsAll.cons (Reads.int i tk) q2
          · rw [List.map_cons, p2']; exact ReadsAll.cons q1 q3
        · refine ⟨[] ++ cs, as ++ bs, ?_, ?_, not_in_app (by simp) n2, not_in_app n1 n3⟩
          · rw [List.map_cons, ke]; exact ReadsAll.cons (Reads.str x tk) q2
          · rw [List.map_cons, p2']; exact ReadsAll.cons q1 q3
end
def rRepr (X : Cx) : List V → Hp → VK → Prop := fun vs H Q => ∃ (v : V) (d : D) (F : Hp) (R : List Addr), vs = [v] ∧ Same F H ∧ Rp X.K F R v d ∧ repOk d ∧ Q (.str (py d).shown) H
theorem cr_repr {X : Cx} (sb : SmB X.base) (hg : X.A.guards = some []) (hu : X.A.units + 64 < cLine) : CallR X (.builtin "repr") (rRepr X) := by
  intro pins s σ H vs us Q I r h
  obtain ⟨v, d, F, R, rfl, sm, rp, ⟨h1, h3, h4, h5⟩, q⟩ := h
  obtain ⟨u, rfl, ru⟩ := vals1 r
  obtain ⟨as, hr, hn⟩ := rp_reads I sb sm rp h3 u ru
  have go : ∀ a, u = .ref a → wpAny (model X.prog X.w) X.A (call (.builtin "repr") [u]) (EP X pins σ Q) X.xe s := fun a e => by
    subst e
    refine repr_of_reads' hr h1 (fun _ => hn) hg (by omega) (fun _ _ h => h) (fun h' u tk hk => ⟨.str _, H, I.kept hk, ⟨_, rfl⟩, q⟩) h5
  cases rp with
  | non => cases ru; exact PySem.P.repr_of_none ⟨.str _, H, I.tok _, ⟨_, rfl⟩, q⟩
  | bl b => cases ru; exact PySem.P.repr_of_bool ⟨.str _, H, I.tok _, ⟨_, rfl⟩, q⟩
  | int i =>
    obtain ⟨t, rfl⟩ := ru
    exact PySem.P.repr_of_int (of_decide_eq_true h1) ⟨.str _, H, I.tok _, ⟨_, rfl⟩, q⟩
  | str z x hz =>
    obtain ⟨t, rfl⟩ := ru
    subst hz
    have ez : (py (.str z.cps.toList)).shown = reprText z := by show reprText (S z.cps.toList) = _; rw [S_of]
    rw [ez] at q h5
    exact PySem.P.repr_of_str ⟨.str _, H, I.tok _, ⟨_, rfl⟩, q⟩ h5
  | lst h q => cases ru; exact go _ rfl
  | tup h q => cases ru; exact go _ rfl
  | dic h q => cases ru; exact go _ rfl
  | ob h => cases ru; exact go _ rfl
  | exn0 => cases ru; exact go _ rfl
  | exn => cases ru; exact go _ rfl
  | tx => cases ru; exact go _ rfl
  | cl => cases ru; exact go _ rfl
def cRepr (ds : List D) (q : D → Prop) : Prop := ∃ d, ds = [d] ∧ repOk d ∧ q (.str (rep d))
theorem calld_repr (sb : SmB C.X.base) (hg : C.X.A.guards = some []) (hu : C.X.A.units + 64 < cLine) : CallD C (.builtin "repr") cRepr := by
  refine ⟨_, cr_repr sb hg hu, fun W vs ds Q q k r hQ h => ?_⟩
  obtain ⟨d, rfl, ho, h⟩ := h
  obtain ⟨v, rfl, r0⟩ := pair1 r
  rcases r0 with r0 | ⟨p, vs, ds, rfl, rfl, hp, np, ra⟩
  · exact ⟨v, d, W.F, W.R, rfl, k.sub, r0, ho, hQ _ _ W (Go.refl W) k rfl (rp_strS _ rfl) h⟩
  · refine ⟨.ref p, .lst ds, upd W.F p (.lst vs), W.R, rfl, fun a o e => ?_, .lst upd_same (ra.mono ?_ fun _ _ z => z), ho, hQ _ _ W (Go.refl W) k rfl (rp_strS _ rfl) h⟩
    · by_cases z : a = p
      · subst z; rw [upd_same] at e; cases e; exact hp
      · rw [upd_ne z] at e; exact k.sub _ _ e
    · intro a o e
      by_cases z : a = p
      · subst z
        have := k.sub _ _ e
        rw [hp] at this
        cases this
        exact upd_same
      · rw [upd_ne z]; exact e
end
end DL
set_option Elab.async false
set_option linter.all false
set_option maxRecDepth 100000
set_option maxHeartbeats 1000000
namespace DL
open PySem L2
/-- the stream: its list at R[0], the large cells' list at R[1], all cells frozen; at most n numbers were mixed -/
def StrOk (K : PySem.W.Frag) (n : Nat) (R : List Addr) (F H : Hp) : Prop := ∃ (a b c : Addr) (L cs : List Int) (m : Int), R[0]? = some a ∧ R[1]? = some b ∧ a ≠ b ∧ H a = some (.lst [.ref b, .ref c, .int m]) ∧ H b = some (.lst (L.map V.int)) ∧
  F c = some (.lst (cs.map V.int)) ∧ 0 ≤ m ∧ m ≤ n ∧ cs ≠ []
@[reducible] def stg : Ghost where
  G := Nat
  ok := fun K n R F H => R.length = 2 ∧ (n ≤ 2 ^ 60 → StrOk K n R F H)
  keep := fun {K g R F H F' H'} h s k => ⟨h.1, fun hn => by
    obtain ⟨a, b, c, L, cs, m, h1, h2, h3, h4, h5, h6, h7⟩ := h.2 hn
    exact ⟨a, b, c, L, cs, m, h1, h2, h3, by rw [k a (List.mem_of_getElem? h1)]; exact h4, by rw [k b (List.mem_of_getElem? h2)]; exact h5, s _ _ h6, h7⟩⟩
/-- a thing of the region, written -/
abbrev Wd.reg {M : Ghost} (W : Wd M) (p : Addr) (o : HO) (g : M.G) : Wd M := { W with H := upd W.H p o, g := g }
section
variable {M : Ghost} {K : PySem.W.Frag} {W : Wd M} {p : Addr} {o : HO} {g : M.G}
theorem Go.reg' (h : p ∈ W.R) : Go W (W.reg p o g) := by
  refine ⟨Same.refl _, fun a x e n => ?_, fun a e => ?_, fun _ z => .inl z, [], by simp, by simp⟩
  · show upd W.H p o a = some x
    rw [upd_ne (show a ≠ p from fun z => n (z ▸ h))]
    exact e
  · show upd W.H p o a ≠ none
    by_cases z : a = p
    · subst z; rw [upd_same]; simp
    · rw [upd_ne z]; exact e
theorem Wok.reg (k : Wok K W) (h : p ∈ W.R) (gh : M.ok K g W.R W.F (upd W.H p o)) : Wok K (W.reg p o g) := by
  refine ⟨fun a x e => ?_, gh, k.rf, fun a ha => ?_⟩
  · show upd W.H p o a = some x
    rw [upd_ne (show a ≠ p from fun z => by subst z; rw [k.rf _ h] at e; cases e)]
    exact k.sub _ _ e
  · show upd W.H p o a ≠ none
    by_cases z : a = p
    · subst z; rw [upd_same]; simp
    · rw [upd_ne z]; exact k.rh a ha
end
/-- a draw below many -/
def dDraw : DSp stg := fun ds g q _ => ∃ many : Int, ds = [.ob 0, .int many] ∧ 0 < many ∧ many < 1152921504606846976 ∧ g + 1 ≤ 2 ^ 60 ∧ ∀ v : Int, 0 ≤ v → v < many → q (.int v) (g + 1)
theorem map_int_get {L : List Int} {i : Nat} {x : V} (h : (L.map V.int)[i]? = some x) : ∃ j, x = .int j ∧ L[i]? = some j := by
  rw [List.getElem?_map] at h
  cases q : L[i]? with
  | none => rw [q] at h; cases h
  | some j => rw [q] at h; cases h; exact ⟨j, rfl, rfl⟩
/-- the stream is made -/
def spStream (K : PySem.W.Frag) : Sp := fun vs H Q _ => ∃ (a : Addr) (ns : List Int), vs = [.ref a] ∧ SqL K H a (ns.map V.int) ∧ ns.length ≤ 63 ∧
  ∀ (H' : Hp) (p b c : Addr) (L cs : List Int), Same H H' → H p = none → H b = none → H c = none → p ≠ b → p ≠ c → b ≠ c → H' p = some (.lst [.ref b, .ref c, .int 0]) → H' b = some (.lst (L.map V.int)) → H' c = some (.lst (cs.map V.int)) → cs ≠ [] → Q (.ref p) H'
/-- what the rest of a draw needs of the state -/
structure DrawAt (K : PySem.W.Frag) (W W1 : Wd stg) (a b c : Addr) (L cs : List Int) (m : Int) : Prop where
  go : Go W W1
  ok : Wok K W1
  g : W1.g = W.g
  r0 : W1.R[0]? = some a
  r1 : W1.R[1]? = some b
  ne : a ≠ b
  ha : W1.H a = some (.lst [.ref b, .ref c, .int m])
  hb : W1.H b = some (.lst (L.map V.int))
  hc : W1.F c = some (.lst (cs.map V.int))
  m0 : 0 ≤ m
  mn : m ≤ W.g
  cs0 : cs ≠ []
section
variable {K : PySem.W.Frag} {W W1 W2 : Wd stg} {a b c : Addr} {L cs : List Int} {m : Int}
theorem DrawAt.new (d : DrawAt K W W1 a b c L cs m) {p : Addr} {o : HO} (h : W1.H p = none) : DrawAt K W (W1.new p o) a b c L cs m := by
  have na : a ≠ p := ne_of_none d.ha h
  have nb : b ≠ p := ne_of_none d.hb h
  exact ⟨d.go.trans (Go.new d.ok h), d.ok.new h, d.g, d.r0, d.r1, d.ne, (upd_ne na).trans d.ha, (upd_ne nb).trans d.hb, d.hc, d.m0, d.mn, d.cs0⟩
theorem DrawAt.setB (d : DrawAt K W W1 a b c L cs m) (L' : List Int) : DrawAt K W (W1.reg b (.lst (L'.map V.int)) W1.g) a b c L' cs m := by
  have hb := List.mem_of_getElem? d.r1
  have ok' : Wok K (W1.reg b (.lst (L'.map V.int)) W1.g) := d.ok.reg hb ⟨d.ok.gh.1, fun hn => ⟨a, b, c, L', cs, m, d.r0, d.r1, d.ne, (upd_ne d.ne).trans d.ha, upd_same, d.hc, d.m0, by rw [show ((W1.g : Nat) : Int) = ((W.g : Nat) : Int) from congrArg Int.ofNat d.g]; exact d.mn, d.cs0⟩⟩
  exact ⟨d.go.trans (Go.reg' hb), ok', d.g, d.r0, d.r1, d.ne, (upd_ne d.ne).trans d.ha, upd_same, d.hc, d.m0, d.mn, d.cs0⟩
end

theorem wok_more {K : PySem.W.Frag} {W : Wd stg} (k : Wok K W) {n : Nat} (h : W.g ≤ n) : Wok K ({ W with g := n } : Wd stg) := by
  refine ⟨k.sub, ⟨k.gh.1, fun hn => ?_⟩, k.rf, k.rh⟩
  obtain ⟨a, b, c, L, cs, m, h1, h2, h3, h4, h5, h6, h7, h8, h9⟩ := k.gh.2 (Nat.le_trans h hn)
  refine ⟨a, b, c, L, cs, m, h1, h2, h3, h4, h5, h6, h7, ?_, h9⟩
  exact Int.le_trans h8 (Int.ofNat_le.mpr h)
theorem go_more {W : Wd stg} {n : Nat} : Go W ({ W with g := n } : Wd stg) := ⟨Same.refl _, fun _ _ h _ => h, fun _ h => h, fun _ h => .inl h, [], by simp, by simp⟩

section
variable {M : Ghost} {C : Ct M} {W W1 W2 W' : Wd M} {σ : L2.St} {ρ : DEnv} {e e2 : Expr} {we wi : EW M} {pos apos cpos p1 : Pos}
end
end DL
set_option Elab.async false
set_option linter.all false
set_option maxRecDepth 100000
set_option maxHeartbeats 1000000
namespace DL
open PySem PySem.Spec PyProof.Rows L2
/-- the tracked heap of a law's entry: the script alone, or nothing where the script is the module's own -/
def hp0 (K : PySem.W.Frag) (a : Addr) (ob : Obj) (ns : List Int) : Hp := fun b => if b = a ∧ K.lookup a = none then some (.frz ob (.lst (ns.map V.int))) else none
theorem hp0_some {K : PySem.W.Frag} {a b : Addr} {ob : Obj} {ns : List Int} {u : HO} (h : hp0 K a ob ns b = some u) : b = a ∧ K.lookup a = none ∧ u = .frz ob (.lst (ns.map V.int)) := by
  unfold hp0 at h
  split at h
  · rename_i q
    exact ⟨q.1, q.2, (Option.some.inj h).symm⟩
  · cases h
theorem law_callG {P : Program} {w : World} {K : PySem.W.Frag} {mg mb : Str → Option Value} {k : Nat} {fa a : Addr} {fd : FuncData} {x : Str} {sp : Sp} {s1 : Shared} {vs : List Value} {ns : List Int}
    (kin : K.In s1.heap) (nsG : s1.heap.Ns mainGlobals mg) (nsB : s1.heap.Ns builtinsNs mb) (boot : ∀ x : Str, x ≠ "__name__" → mb x = bootBuiltins x) (lim : s1.heap.NoLimit) (gens : s1.gens = #[])
    (ha : s1.heap.get? a = some { cls := .type "list", data := .seq vs.toArray }) (hi : IntsAre vs ns) (hl : ns.length ≤ sizeLine) (room : Room k callerA) (mods : ∃ mm, s1.heap.Ns sysModules mm)
    (F : ∀ base : Heap, K.In base → base.Ns mainGlobals mg → SmB base → FnG P w K mg base k fa fd [x] sp) (hbind : ∀ (s : Shared) (u : Value), BindsTo s fd ⟨[u], []⟩ [(x, u)])
    (want : ∀ H : Hp, SqL K H a (ns.map V.int) → sp [.ref a] H (fun v _ => v = .bl true) fun _ _ _ => False) :
    codeAny (model P w) callerA (.call (.ref fa) ⟨[.ref a], []⟩) (fun r s' => r = .ok (.ret (.bool true)) ∧ OldK s1.heap s'.heap ∧ s'.os = s1.os ∧ AllBare s'.gens) s1 := by
  have rel := vals_ints hi
  generalize hob : ({ cls := .type "list", data := .seq vs.toArray } : Obj) = ob at ha
  -- the script is read in it
  have seq : SqL K (hp0 K a ob ns) a (ns.map V.int) := by
    cases q : K.lookup a with
    | none => exact .inl (.inr ⟨ob, by unfold hp0; rw [if_pos ⟨rfl, q⟩]⟩)
    | some o =>
      have e := kin a o q
      rw [ha] at e
      cases e
      subst hob
      exact .inr ⟨_, vs.toArray, _, q, rfl, rfl, rfl, by rw [List.size_toArray, hi.length]; exact hl, by simpa using rel⟩
  have held : HOk P w (hp0 K a ob ns) s1.heap := fun b u e => by
    obtain ⟨rfl, _, rfl⟩ := hp0_some e
    subst hob
    exact ⟨ha, by rw [List.length_map]; exact hl, vs, _, rel, ha⟩
  -- what is not the script stands in the base
  have keep : ∀ {b : Addr} {o : Obj}, s1.heap.get? b = some o → hp0 K a ob ns b = none → (hidT s1.heap (hp0 K a ob ns)).get? b = some o := fun e n => hidT_get e n
  have dict : ∀ {b : Addr} {m : Str → Option Value}, s1.heap.Ns b m → (hidT s1.heap (hp0 K a ob ns)).Ns b m := fun {b m} ⟨o, es, ep, e, d, r⟩ => by
    refine ⟨o, es, ep, keep e ?_, d, r⟩
    cases q : hp0 K a ob ns b with
    | none => rfl
    | some u =>
      obtain ⟨rfl, _, _⟩ := hp0_some q
      rw [ha] at e
      cases e
      subst hob
      cases d
  have kin' : K.In (hidT s1.heap (hp0 K a ob ns)) := fun b o e => keep (kin b o e) (by
    cases q : hp0 K a ob ns b with
    | none => rfl
    | some u =>
      obtain ⟨rfl, z, _⟩ := hp0_some q
      rw [z] at e
      cases e)
  have modl : Mod K mg (hidT s1.heap (hp0 K a ob ns)) := ⟨kin', dict nsG, ⟨mb, dict nsB, boot⟩, let ⟨mc, q1, q2⟩ := lim; ⟨mc, dict q1, q2⟩⟩
  have entry : Env0 P w K mg (hidT s1.heap (hp0 K a ob ns)) callerA [] s1 (hp0 K a ob ns) :=
    ⟨rfl, modl, fun b o e => of_hidT e, Nat.le_of_eq (hidT_size _ _), trivial, (fun b hb => by cases hb), held, .of_eq gens⟩
  have smb : SmB (hidT s1.heap (hp0 K a ob ns)) := by
    obtain ⟨mm, hm⟩ := mods
    obtain ⟨o, es, ep, e, _⟩ := dict hm
    exact ⟨o, e⟩
  have run := (F _ kin' (dict nsG) smb).run callerA [] s1 (hp0 K a ob ns) ⟨[.ref a], []⟩ [.ref a] [.ref a] _ _ room rfl entry (hbind s1 (.ref a)) (.cons rfl .nil) (want _ seq)
  refine codeAny_mono run fun r s2 h => ?_
  match r, h with
  | .error e, h =>
    obtain ⟨_, _, _, _, _, _, _, _, _, _, _, _, z⟩ := h
    exact z.elim
  | .ok (.ret u), ⟨v, H2, os, bare, un, held2, ru, q⟩ =>
    have q' : v = .bl true := q
    subst q'
    obtain rfl : u = Value.bool true := ru
    refine ⟨rfl, OldK.of_keep fun b o e => ?_, os, bare⟩
    cases z : hp0 K a ob ns b with
    | none => exact un.keep b o e z (by intro y; cases y) (by simp)
    | some u =>
      obtain ⟨_, _, rfl⟩ := hp0_some z
      obtain ⟨e1, _⟩ := held b _ z
      obtain ⟨e2, _⟩ := held2 b _ (un.frzs b ob _ z)
      rw [e] at e1
      cases e1
      exact e2
/-- the goal that k_head leaves, from the law's promise -/
theorem walkG {l : PySem.W.OpenLaw} {n k : Nat} {q : Program} {loose : List Str} {XP : (Str → Option Value) → Heap → Prop} {YP : World → Heap → Prop} {d : DefRec} {K : Params → PySem.W.Frag} {sp : World → Sp} {x : Str}
    (hn : l.most = some n) (hi : importsNone q = true) (hn2 : n ≤ sizeLine) (hdf : d.params.defaults = []) (room : Room k callerA) (hY : ∀ (w : World) (h : Heap), YP w h → (K w.params).In h)
    (F : ∀ (w : World) (mg : Str → Option Value) (fa : Addr) (h : Heap), (K w.params).In h → h.Ns mainGlobals mg → mg d.name = some (.ref fa) →
      ∃ fd : FuncData, (∀ (s : Shared) (u : Value), BindsTo s fd ⟨[u], []⟩ [(x, u)]) ∧ ∀ base : Heap, (K w.params).In base → base.Ns mainGlobals mg → SmB base → FnG l.prog w (K w.params) mg base k fa fd [x] (sp w))
    (want : ∀ (w : World) (H : Hp) (a : Addr) (ns : List Int), ns.length ≤ n → SqL (K w.params) H a (ns.map V.int) → sp w [.ref a] H (fun v _ => v = .bl true) fun _ _ _ => False) :
    PySem.W.WalkO q loose XP YP l.row.toRowW d [] (fun f vs => PySem.call f vs) :=
  Att.attach_call hn hdf fun w s0 s1 mg mb fa o pm cd doc a vs ns G Y ho hd hcd hmg hobj hints hlen hg => by
    obtain ⟨fd, hb, hF⟩ := F w mg fa _ (hY w _ Y) G.T.g hmg
    exact law_callG (hY w _ Y) G.T.g G.T.b G.T.builtins G.T.nolimit hg hobj hints (Nat.le_trans hlen hn2) room (let ⟨mm, h, _⟩ := (G.T.seer hi).mods; ⟨mm, h⟩) hF hb fun H hS => want w H a ns hlen hS
/-- a law whose first statement makes the stream; the rest by data -/
def spLaw (K : PySem.W.Frag) : Sp := fun vs H Q _ => ∃ (a : Addr) (ns : List Int), vs = [.ref a] ∧ SqL K H a (ns.map V.int) ∧ ns.length ≤ 63 ∧ ∀ H', Q (.bl true) H'
/-- the slots at the law's first step: the script is not looked at any more -/
@[simp] def rhoLaw (n i : Nat) : DEnv := (List.replicate n Sl.no).set i (.im (.ob 0))
theorem takes_none {M : Ghost} {X : Cx} {W0 B : Wd M} : TakesD (M := M) ⟨X, W0, xno, B⟩ := fun u s' x => by
  obtain ⟨_, _, _, _, _, _, _, _, _, _, _, _, _, _, _, _, z⟩ := x
  obtain ⟨_, _, _, _, _, _, y⟩ := z
  exact y.elim
theorem passLN {X : Cx} : L2.Passes (L2N.CX X.prog X.w) X E0 := fun pins σ H s e s' I c => by
  obtain ⟨a, B, H', cls, d, _, _, _, _, _, _, _, z⟩ := c
  exact z.elim
end DL
set_option Elab.async false
set_option linter.all false
set_option maxRecDepth 100000
set_option maxHeartbeats 1000000
namespace DL
open PySem L2
/-- a def of the text that keeps a promise by data: called by its name -/
structure FnB (P : Program) (w : World) (K : PySem.W.Frag) (mg : Str → Option Value) (base : Heap) (k : Nat) (x : Str) (ps : List Str) (sp : Sp) : Prop where
  ex : ∃ (f : Addr) (fd : FuncData), FnG P w K mg base k f fd ps sp ∧ mg x = some (.ref f) ∧ PySem.W.keepIn K (.ref f) = true ∧ Binds K fd ps []
section
variable {M : Ghost} {C : Ct M} {W W1 W2 W' : Wd M} {σ : L2.St} {ρ : DEnv} {e : Expr} {es : List Expr} {we : EW M} {pos p : Pos} {wa : AW M}
@[simp] def wCallB (n : Nat) (sp : DSp M) (wa : AW M) (EX : Exn → DEnv → M.G → Prop) : EW M := fun ρ g q => wa ρ g fun ds g' => ds.length = n ∧ sp ds g' q fun x g2 => EX x ρ g2
theorem de_callF {k : Nat} {ps : List Str} {n : Nat} {sp : DSp M} {x : Str} (F : FnB C.X.prog C.X.w C.X.K C.X.mg C.X.base k x ps (liftSp C.X.K C.X.mg n sp)) (hgd : C.X.A.guards = some []) (hr : Room k C.X.A) (tk : TakesD C) (ha : DA C (e :: es) wa)
    (hg : Gl C.X x := by rfl) (hdb : (x == ("__debug__" : Str)) = false := by decide) (he : starEach (e :: es) C.X.env = (false, eval e C.X.env) :: starEach es C.X.env := by rfl) (hpl : (backTo pos (starEach es C.X.env)).any (·.1) = false := by rfl) :
    DE C (.Call (.Name x p) (e :: es) [] pos) (wCallB n sp wa C.EX) := ⟨fun σ ρ W Q q S hQ hw => by
  obtain ⟨f, fd, F, hm, hk, hb⟩ := F.ex
  exact tOf_of (pe_callG (E := fun σ => EXs C σ) F hgd hr hg hm hk hb (fun σ => L2N.passAt tk σ) pa_tOf hdb he hpl) (ha.run σ ρ W _ _ S (fun vs ds W1 g1 k1 r1 q1 =>
    ⟨W1, ds, q, fun x g => C.EX x ρ g, rfl, k1, r1, q1.1, q1.2, fun v d W2 g2 k2 r2 q2 => hQ v d W2 (g1.trans g2) k2 r2 q2, fun cls d H' h => exs_of (S.step g1 k1) (fun _ _ z => z) h⟩) hw)⟩
/-- .. that may be called where an exception is handled -/
structure FnQB (P : Program) (w : World) (K : PySem.W.Frag) (mg : Str → Option Value) (base : Heap) (k : Nat) (x : Str) (ps : List Str) (sp : Around → Sp) : Prop where
  ex : ∃ (f : Addr) (fd : FuncData), FnQ P w K mg base k f fd ps sp ∧ mg x = some (.ref f) ∧ PySem.W.keepIn K (.ref f) = true ∧ Binds K fd ps []
theorem lift_hot {M : Ghost} {K : PySem.W.Frag} {mg : Str → Option Value} {n : Nat} {sp : DSp M} {A : Around} {xs : List V} {H : Hp} {Q : VK} {E : XK} (hd : A.handled = none) (h : liftSp K mg n sp xs H Q E) : liftSpH K mg n sp A xs H Q E := by
  obtain ⟨W, ds, q, ex, h1, h2, h3, h4, h5, h6⟩ := h
  exact ⟨W, ds, q, ex, h1, h2, h3, h4, h5, h6, .inl hd⟩
theorem liftH_len {M : Ghost} {K : PySem.W.Frag} {mg : Str → Option Value} {n : Nat} {sp : DSp M} {A : Around} {xs : List V} {H : Hp} {Q : VK} {E : XK} (h : liftSpH K mg n sp A xs H Q E) : xs.length = n := by
  obtain ⟨W, ds, q, ex, h1, h2, h3, h4, _⟩ := h
  rw [h3.length, h4]
theorem lift_len {M : Ghost} {K : PySem.W.Frag} {mg : Str → Option Value} {n : Nat} {sp : DSp M} {xs : List V} {H : Hp} {Q : VK} {E : XK} (h : liftSp K mg n sp xs H Q E) : xs.length = n := by
  obtain ⟨W, ds, q, ex, h1, h2, h3, h4, _⟩ := h
  rw [h3.length, h4]
theorem FnQB.b {M : Ghost} {P : Program} {w : World} {K : PySem.W.Frag} {mg : Str → Option Value} {base : Heap} {k n : Nat} {x : Str} {ps : List Str} {sp : DSp M} (F : FnQB P w K mg base k x ps (liftSpH K mg n sp)) (hn : n = ps.length := by rfl) : FnB P w K mg base k x ps (liftSp K mg n sp) := by
  subst hn
  obtain ⟨f, fd, F, h⟩ := F.ex
  exact ⟨f, fd, F.g (fun _ _ _ _ => lift_len) (fun _ _ _ _ _ hd => lift_hot hd), h⟩
theorem de_callQ {k : Nat} {ps : List Str} {n : Nat} {sp : DSp M} {x : Str} (F : FnQB C.X.prog C.X.w C.X.K C.X.mg C.X.base k x ps (liftSpH C.X.K C.X.mg n sp)) (hgd : C.X.A.guards = some []) (hr : L2H.RoomH k C.X.A) (tk : TakesD C) (hot : HotF C.X.A C.B.F) (ha : DA C (e :: es) wa)
    (hg : Gl C.X x := by rfl) (hdb : (x == ("__debug__" : Str)) = false := by decide) (he : starEach (e :: es) C.X.env = (false, eval e C.X.env) :: starEach es C.X.env := by rfl) (hpl : (backTo pos (starEach es C.X.env)).any (·.1) = false := by rfl) :
    DE C (.Call (.Name x p) (e :: es) [] pos) (wCallB n sp wa C.EX) := ⟨fun σ ρ W Q q S hQ hw => by
  obtain ⟨f, fd, F, hm, hk, hb⟩ := F.ex
  exact tOf_of (pe_callQ (E := fun σ => EXs C σ) F hgd hr hg hm hk hb (fun σ => L2N.passAt tk σ) pa_tOf hdb he hpl) (ha.run σ ρ W _ _ S (fun vs ds W1 g1 k1 r1 q1 =>
    ⟨W1, ds, q, fun x g => C.EX x ρ g, rfl, k1, r1, q1.1, q1.2, ⟨fun v d W2 g2 k2 r2 q2 => hQ v d W2 (g1.trans g2) k2 r2 q2, fun cls d H' h => exs_of (S.step g1 k1) (fun _ _ z => z) h⟩, hot.mono (S.step g1 k1).gs.sub⟩) hw)⟩
theorem fnQB_of {P : Program} {w : World} {K : PySem.W.Frag} {mg : Str → Option Value} {base : Heap} {x qual : Str} {st : Stmt} {f : Addr} {fd : FuncData} {k : Nat} {ps : List Str} {sp : Around → Sp} (F : Fun K x qual st f fd) (g : mg x = some (.ref f)) (G : FnQ P w K mg base k f fd ps sp) (b : Binds K fd ps []) : FnQB P w K mg base k x ps sp :=
  ⟨f, fd, G, g, F.kp, b⟩
theorem fnB_of {P : Program} {w : World} {K : PySem.W.Frag} {mg : Str → Option Value} {base : Heap} {x qual : Str} {st : Stmt} {f : Addr} {fd : FuncData} {k : Nat} {ps : List Str} {sp : Sp} (F : Fun K x qual st f fd) (g : mg x = some (.ref f)) (G : FnG P w K mg base k f fd ps sp) (b : Binds K fd ps []) : FnB P w K mg base k x ps sp :=
  ⟨f, fd, G, g, F.kp, b⟩

/-- the end of a def over the stream: the bound may be given greater -/
@[simp] def kEndS (q : D → Nat → Prop) : K3 stg := { nx := fun _ (g : Nat) => ∃ n : Nat, g ≤ n ∧ q .non n, rt := fun d (g : Nat) => ∃ n : Nat, g ≤ n ∧ q d n, bk := fun _ _ => False, ct := fun _ _ => False }
theorem fnS_of {P : Program} {w : World} {K : PySem.W.Frag} {mg : Str → Option Value} {base : Heap} {x qual : Str} {st : Stmt} {f : Addr} {fd : FuncData} {N ps : List Str} {k : Nat} {sp : DSp stg} {wb : (Exn → stg.G → Prop) → SW stg} (F : Fun K x qual st f fd) (Sc : FnScope N ps (defScope st))
    (hbody : ∀ (cdv : Value) (A : Around) (outer : List Env) (s : Shared) (H : Hp) (E : XK) (W0 : Wd stg) (EX : Exn → stg.G → Prop), Room k (A.deeper (PyProof.Rows.envOfC qual (defScope st) s.heap.objs.size f cdv)) → A.guards = some [] →
      TakesD (M := stg) ⟨cxOf (L2N.CX P w) P w K mg base N qual (defScope st) f cdv A outer s H E, W0, xk EX, W0⟩ → DSs (M := stg) ⟨cxOf (L2N.CX P w) P w K mg base N qual (defScope st) f cdv A outer s H E, W0, xk EX, W0⟩ (defBody st) (wb EX))
    (hpure : ∀ (ds : List D) (g : Nat) (q : D → Nat → Prop) (ex : Exn → Nat → Prop), ds.length = ps.length → sp ds g q ex → wb ex (kEndS q) (startD N ds) g) :
    FnG P w K mg base (k + 1) f fd ps (liftSp K mg ps.length sp) := by
  refine fng_of F Sc (fun vs H Q E h => ?_) (fun cdv A outer s H vs Q E hr hgd h => ?_)
  · obtain ⟨W, ds, q, ex, _, _, r, hl, _⟩ := h
    rw [r.length, hl]
  · obtain ⟨W, ds, q, ex, rfl, ok, r, hl, hsp, hQ, hE⟩ := h
    have tk : TakesD (M := stg) ⟨cxOf (L2N.CX P w) P w K mg base N qual (defScope st) f cdv A outer s W.H E, W, xk ex, W⟩ := fun u s' x =>
      L2N.takes_of (X := cxOf (L2N.CX P w) P w K mg base N qual (defScope st) f cdv A outer s W.H E) rfl rfl rfl rfl u s' (by
        obtain ⟨a, B, sI, pins, σ, H, cls, d, e, I, nb, up, sky, na, os, ag, x, ρ, W', z1, z2, z3, z4⟩ := x
        exact ⟨a, B, sI, pins, σ, H, cls, d, e, I, nb, up, sky, na, os, ag, hE _ _ _ ⟨x, W', z1, z2.go, z2.ok, z3, z4⟩⟩)
    refine ⟨_, pss_tOf, ?_⟩
    refine (hbody cdv A outer s W.H E W ex hr hgd tk).run _ _ W (kEndS q) _ (sat_start ok rfl rfl r) ⟨fun σ' ρ' W' g S' h => ?_, fun v d W' g k r h => ?_, fun _ _ _ _ _ h => h.elim, fun _ _ _ _ _ h => h.elim⟩ (hpure ds W.g q ex hl hsp)
    · obtain ⟨n, hn, h⟩ := h
      exact hQ .non .non ({ W' with g := n } : Wd stg) (S'.go.trans (go_more (n := n))) (wok_more S'.ok hn) .non h
    · obtain ⟨n, hn, h⟩ := h
      exact hQ v d ({ W' with g := n } : Wd stg) (g.trans (go_more (n := n))) (wok_more k hn) r h
/-- .. called also where an exception is handled -/
theorem fnQS_of {P : Program} {w : World} {K : PySem.W.Frag} {mg : Str → Option Value} {base : Heap} {x qual : Str} {st : Stmt} {f : Addr} {fd : FuncData} {N ps : List Str} {k : Nat} {sp : DSp stg} {wb : (Exn → stg.G → Prop) → SW stg} (F : Fun K x qual st f fd) (Sc : FnScope N ps (defScope st))
    (hbody : ∀ (cdv : Value) (A : Around) (outer : List Env) (s : Shared) (H : Hp) (E : XK) (p : Addr × Obj) (W0 : Wd stg) (EX : Exn → stg.G → Prop), L2H.RoomH k (A.deeper (PyProof.Rows.envOfC qual (defScope st) s.heap.objs.size f cdv)) → A.guards = some [] → HotF A W0.F →
      TakesD (M := stg) ⟨L2H.cxH (L2N.CX P w) P w K mg base N qual (defScope st) f cdv A outer s H E p, W0, xk EX, W0⟩ → DSs (M := stg) ⟨L2H.cxH (L2N.CX P w) P w K mg base N qual (defScope st) f cdv A outer s H E p, W0, xk EX, W0⟩ (defBody st) (wb EX))
    (hpure : ∀ (ds : List D) (g : Nat) (q : D → Nat → Prop) (ex : Exn → Nat → Prop), ds.length = ps.length → sp ds g q ex → wb ex (kEndS q) (startD N ds) g) :
    FnQ P w K mg base (k + 1) f fd ps (liftSpH K mg ps.length sp) := by
  refine fnq_of F Sc (fun A vs H Q E h => liftH_len h) (fun cdv A outer s H vs Q E p hr hgd h => ?_)
  · obtain ⟨W, ds, q, ex, rfl, ok, r, hl, hsp, ⟨hQ, hE⟩, hot⟩ := h
    have tk : TakesD (M := stg) ⟨L2H.cxH (L2N.CX P w) P w K mg base N qual (defScope st) f cdv A outer s W.H E p, W, xk ex, W⟩ := fun u s' x =>
      L2N.takes_of (X := L2H.cxH (L2N.CX P w) P w K mg base N qual (defScope st) f cdv A outer s W.H E p) rfl rfl rfl rfl u s' (by
        obtain ⟨a, B, sI, pins, σ, H, cls, d, e, I, nb, up, sky, na, os, ag, x, ρ, W', z1, z2, z3, z4⟩ := x
        exact ⟨a, B, sI, pins, σ, H, cls, d, e, I, nb, up, sky, na, os, ag, hE _ _ _ ⟨x, W', z1, z2.go, z2.ok, z3, z4⟩⟩)
    refine ⟨_, pss_tOf, ?_⟩
    refine (hbody cdv A outer s W.H E p W ex hr hgd hot tk).run _ _ W (kEndS q) _ (sat_start ok rfl rfl r) ⟨fun σ' ρ' W' g S' h => ?_, fun v d W' g k r h => ?_, fun _ _ _ _ _ h => h.elim, fun _ _ _ _ _ h => h.elim⟩ (hpure ds W.g q ex hl hsp)
    · obtain ⟨n, hn, h⟩ := h
      exact hQ .non .non ({ W' with g := n } : Wd stg) (S'.go.trans (go_more (n := n))) (wok_more S'.ok hn) .non h
    · obtain ⟨n, hn, h⟩ := h
      exact hQ v d ({ W' with g := n } : Wd stg) (g.trans (go_more (n := n))) (wok_more k hn) r h

theorem wk_rng {K : PySem.W.Frag} (lo : Int) (n : Nat) : WK K W (Itr lo n) ((List.range n).map fun (i : Nat) => D.int (lo + i)) where
  go := fun i W1 d g k e => by
    rw [List.getElem?_map] at e
    by_cases hi : i < n
    · rw [List.getElem?_range hi] at e
      cases e
      refine ⟨hi, fun x H' y => ?_⟩
      obtain ⟨rfl, rfl⟩ := y
      exact ⟨W1, rfl, Go.refl _, k, rfl, .int _⟩
    · rw [List.getElem?_eq_none (by simpa using hi)] at e
      cases e
  stop := fun i W1 g k e => by
    have := List.getElem?_eq_none_iff.mp e
    rw [List.length_map, List.length_range] at this
    exact this
def rngL (lo hi : Int) : List D := (List.range (hi - lo).toNat).map fun (i : Nat) => D.int (lo + i)
@[simp] def wRng1 (wa : EW M) : IW M := fun ρ g q => wa ρ g fun d g' => asI d fun j => -(2 ^ 62) ≤ j ∧ j < 2 ^ 62 ∧ q (rngL 0 j) g'
theorem di_range1 {tg a : Expr} {wa : EW M} (hm : C.X.mg "range" = none) (ha : DE C a wa) (hg : Gl C.X "range" := by rfl) (hs : starEach [a] C.X.env = [(false, eval a C.X.env)] := by rfl) (hs2 : starEach [a] C.X.env = (false, eval a C.X.env) :: starEach [] C.X.env := by rfl) :
    DI C tg (.Call (.Name "range" p) [a] [] pos) (wRng1 wa) := ⟨fun σ ρ W R q S hR hw => iOf_of (pi_range1 hg hm (pa_cons pe_tOf pa_nil hs2) hs) (ha.run σ ρ W _ _ S (fun v d W1 g1 k1 r1 q1 => by
  cases d with
  | int j =>
    cases r1
    refine ⟨j, rfl, q1.1, q1.2.1, ?_⟩
    have e : rngL 0 j = (List.range j.toNat).map fun (i : Nat) => D.int (0 + i) := by unfold rngL; rw [Int.sub_zero]
    exact hR _ _ W1 g1 k1 (e ▸ wk_rng 0 j.toNat) q1.2.2
  | _ => exact q1.elim) hw)⟩
@[simp] def wRng2 (wa wb : EW M) : IW M := fun ρ g q => wa ρ g fun d g1 => wb ρ g1 fun e g2 => asI d fun i => asI e fun j => (-(2 ^ 62) ≤ i ∧ i < 2 ^ 62 ∧ -(2 ^ 62) ≤ j ∧ j < 2 ^ 62) ∧ q (rngL i j) g2
theorem di_range2 {tg a b : Expr} {wa wb : EW M} (hm : C.X.mg "range" = none) (ha : DE C a wa) (hb : DE C b wb) (hg : Gl C.X "range" := by rfl) (hs : starEach [a, b] C.X.env = [(false, eval a C.X.env), (false, eval b C.X.env)] := by rfl) (hs2 : starEach [b] C.X.env = [(false, eval b C.X.env)] := by rfl)
    (h1 : starEach [a, b] C.X.env = (false, eval a C.X.env) :: starEach [b] C.X.env := by rfl) (h2 : starEach [b] C.X.env = (false, eval b C.X.env) :: starEach [] C.X.env := by rfl) :
    DI C tg (.Call (.Name "range" p) [a, b] [] pos) (wRng2 wa wb) := ⟨fun σ ρ W R q S hR hw => iOf_of (pi_range2 hg hm (pa_cons pe_tOf (pa_cons pe_tOf pa_nil h2) h1) hs hs2) (ha.run σ ρ W _ _ S (fun v d W1 g1 k1 r1 q1 => by
  refine hb.run σ ρ W1 _ _ (S.step g1 k1) (fun u d2 W2 g2 k2 r2 q2 => ?_) q1
  cases d with
  | int i =>
    cases d2 with
    | int j =>
      cases r1
      cases r2
      exact ⟨i, j, rfl, q2.1, hR _ _ W2 (g1.trans g2) k2 (wk_rng i (j - i).toNat) q2.2⟩
    | _ => exact q2.elim
  | _ => exact q2.elim) hw)⟩

/-- a, b = x, y with two plain local names -/
@[simp] def wPar (i j : Nat) (wx wy : VW M) : SW M := fun k ρ g => wx ρ g fun s g1 => wy ρ g1 fun t g2 => k.nx ((ρ.set i s).set j t) g2
theorem ds_par {i j : Nat} {x y : Str} {a b : Expr} {wx wy : VW M} {px py pt : Pos} {kt k2 : Nat} {pt2 : Pos} (hc : C.X.calm = true) (hN : C.X.N.Nodup) (hi : C.X.N[i]? = some x) (hj : C.X.N[j]? = some y) (hij : i ≠ j)
    (hx : C.X.env.scope.names.lookup x = some .local) (hy : C.X.env.scope.names.lookup y = some .local) (ha : DV C a wx) (hb : DV C b wy)
    (hw : swappedStores [.Tuple [.Name x px, .Name y py] kt pt] (.Tuple [a, b] k2 pt2) C.X.env = pure (some [x, y]) := by rfl) (hs : swapsWithSole [.Tuple [.Name x px, .Name y py] kt pt] (.Tuple [a, b] k2 pt2) pos.line C.X.env = pure false := by rfl)
    (h1 : starEach [a, b] C.X.env = (false, eval a C.X.env) :: starEach [b] C.X.env := by rfl) (h2 : starEach [b] C.X.env = (false, eval b C.X.env) :: starEach [] C.X.env := by rfl) :
    DS C (.Assign [.Tuple [.Name x px, .Name y py] kt pt] (.Tuple [a, b] k2 pt2) pos) (wPar i j wx wy) := ⟨fun σ ρ W k E S l h => by
  refine tsOf_of (ps_par hc hN hi hj hij hx hy (pa_cons pe_tOf (pa_cons pe_tOf pa_nil h2) h1) hw hs) ?_
  refine ha.run σ ρ W _ _ S (fun v s W1 g1 k1 f1 q1 => ?_) h
  refine hb.run σ ρ W1 _ _ (S.step g1 k1) (fun u t W2 g2 k2 f2 q2 => ?_) q1
  refine ⟨v, u, rfl, ?_⟩
  have S2 := S.step (g1.trans g2) k2
  have o1 : SlOk C W2 s (some v) := (slOk_fresh S g1 f1).step g2
  have o2 : SlOk C W2 t (some u) := slOk_fresh (S.step g1 k1) g2 f2
  have T1 := S2.puts o1 i fun p w1 e1 m t' w2 _ a1 a2 => own_live S w2 a1 a2 (fresh_dead f1 w1 e1)
  have T2 := T1.puts o2 j fun p w1 e1 m t' w2 _ a1 a2 => by
    have dead := fresh_dead f2 w1 e1
    by_cases hm : i = m
    · subst hm
      have hlt : i < ρ.length := by
        have := (List.getElem?_eq_some_iff.mp a1).1
        rwa [List.length_set] at this
      rw [List.getElem?_set_self hlt] at a1
      rw [List.getElem?_set_self (by rw [S.len]; exact hlt)] at a2
      cases a1
      cases a2
      exact fresh_live f1 w2 rfl dead
    · rw [List.getElem?_set_ne hm] at a1 a2
      exact g1.live _ (own_live S w2 a1 a2) dead
  exact l.nx _ _ W2 (g1.trans g2).s T2 q2⟩
end
end DL
set_option Elab.async false
set_option linter.all false
set_option maxRecDepth 100000
set_option maxHeartbeats 1000000
namespace DL
open PySem
section
variable {prog : Program} {w : World} {A : Around} {E : Value → Shared → Prop} {s : Shared}
def Slot0 (v : Value) : Prop := v = .none ∨ ∃ T : Nat, v = rawInt T
abbrev enObj (s0 : Value) (f : Bool) (it : Addr) (i : Int) (old : Value) : Obj := { cls := .type "enumerate", dict := none, data := .fields #[s0, .bool f, .ref it, rawInt i, .none, old], slots := #[] }
abbrev ziObj (s0 : Value) (f : Bool) (TI TO : Addr) : Obj := { cls := .type "zip", dict := none, data := .fields #[s0, .bool f, .bool false, .ref TI, .ref TO], slots := #[] }
def EnA (h : Heap) (e it : Addr) (i : Int) : Prop := ∃ s0 f old, Slot0 s0 ∧ h.get? e = some (enObj s0 f it i old)
def ZiA (h : Heap) (z TI TO : Addr) : Prop := ∃ s0 f, Slot0 s0 ∧ h.get? z = some (ziObj s0 f TI TO)
theorem alive_any {a : Addr} {Q : Option Obj → Shared → Prop} (h : Q (s.heap.get? a) s) : wpAny (model prog w) A (loadIfAlive a) Q E s := fun _ _ _ => h
theorem free_en {e it : Addr} {s0 old : Value} {f : Bool} {i : Int} {Q : Bool → Shared → Prop} (he : s.heap.get? e = some (enObj s0 f it i old)) (hs : Slot0 s0) (h1 : Q true s)
    (h2 : ∀ h' f', h'.get? e = some (enObj s0 f' it i old) → Heap.SameBut e s.heap h' → Q false { s with heap := h' }) : wpAny (model prog w) A (Builtin.SmallTypes.ownedTupleIsFree (.ref e)) Q E s := by
  unfold Builtin.SmallTypes.ownedTupleIsFree
  refine wpAny_bind (wpAny_field he rfl (x := s0) rfl ?_)
  rcases hs with rfl | ⟨T, rfl⟩
  · exact wpAny_pure h1
  · show wpAny _ _ (loadIfAlive ((T : Int).toNat) >>= _) _ _ _
    rw [Int.toNat_natCast]
    refine wpAny_bind (alive_any ?_)
    cases s.heap.get? T with
    | none => exact wpAny_pure h1
    | some oT =>
      simp only [Option.isNone_some, Bool.false_eq_true, if_false]
      refine wpAny_bind (wpAny_field he rfl (x := .bool f) rfl ?_)
      cases f with
      | true =>
        rw [if_neg (show ¬ ((Value.bool true != Value.bool true) = true) from Bool.false_ne_true)]
        exact wpAny_pure (h2 s.heap true he (Heap.SameBut.refl _ _))
      | false =>
        rw [if_pos (show (Value.bool false != Value.bool true) = true from rfl)]
        exact wpAny_bind (wpAny_setField_rec he (by simp) fun h₁ hz₁ hs₁ => wpAny_pure (h2 h₁ true hz₁ hs₁))
/-- what the draws of an iterator are, which may lay new things -/
structure Dr (prog : Program) (w : World) (A : Around) (it : Addr) (fp wr : List Addr) (n : Nat) (P : Nat → Value → Nat → Nat → Heap → Prop) (St : Nat → Heap → Prop) : Prop where
  sub : ∀ b ∈ wr, b ∈ fp
  mem : it ∈ wr
  live : ∀ i h, St i h → ∀ b ∈ wr, ∃ o, h.get? b = some o
  frame : ∀ i h h', St i h → (∀ b ∈ fp, ∀ o, h.get? b = some o → h'.get? b = some o) → St i h'
  grow : ∀ i x N Z h h', P i x N Z h → (∀ b o, N ≤ b → h.get? b = some o → h'.get? b = some o) → P i x N Z h'
  item : ∀ i (s : Shared) (Q : Value → Shared → Prop) (E : Value → Shared → Prop), i < n → St i s.heap →
    (∀ x h' tk, P i x s.heap.objs.size h'.objs.size h' → St (i + 1) h' → s.heap.objs.size ≤ h'.objs.size → (∀ b o, b ∉ wr → s.heap.get? b = some o → h'.get? b = some o) → Q x { s with heap := h', toks := tk }) →
    wpAny (model prog w) A (Builtin.SmallTypes.nextOf (.ref it)) Q E s
  done : ∀ (s : Shared) (Q : Value → Shared → Prop) (E : Value → Shared → Prop), St n s.heap →
    (∀ h' tk e, (∀ b o, b ∉ wr → s.heap.get? b = some o → h'.get? b = some o) → (∃ o, h'.get? e = some o ∧ o.cls = .type "StopIteration") → E (.ref e) { s with heap := h', toks := tk }) →
    wpAny (model prog w) A (Builtin.SmallTypes.nextOf (.ref it)) Q E s
theorem Dr.of {it : Addr} {fp : List Addr} {n : Nat} {P : Nat → Value → Prop} {St : Nat → Heap → Prop} (D : Draws prog w A it fp n P St) (hm : it ∈ fp) : Dr prog w A it fp [it] n (fun i x _ _ _ => P i x) St where
  sub := fun b hb => by rw [List.mem_singleton.mp hb]; exact hm
  mem := List.mem_singleton_self _
  live := fun i h st b hb => by rw [List.mem_singleton.mp hb]; exact D.live i h st
  frame := D.frame
  grow := fun _ _ _ _ _ _ h _ => h
  item := fun i s Q E hi st hQ => D.item i s Q E hi st fun x h' tk p st' sb => hQ x h' tk p st' (by rw [sb.1]; exact Nat.le_refl _) fun b o hb e => sb.extBut b o (fun q => hb (by simp [q])) e
  done := fun s Q E st hE => D.done s Q E st fun h' e k he => hE h' s.toks e (fun b o hb x => k b o (fun q => hb (by simp [q])) x) he

theorem en_item {e it : Addr} {fp wr : List Addr} {n i : Nat} {P : Nat → Value → Nat → Nat → Heap → Prop} {St : Nat → Heap → Prop} {Q : Value → Shared → Prop}
    (D : Dr prog w A it fp wr n P St) (he : EnA s.heap e it (i : Nat)) (hst : St i s.heap) (hlt : i < n) (hef : e ∉ fp)
    (hQ : ∀ x h' tk T t Z, P i x s.heap.objs.size Z h' → s.heap.objs.size ≤ Z → Z ≤ T → T < h'.objs.size → EnA h' e it ((i + 1 : Nat) : Int) → St (i + 1) h' →
      h'.get? T = some { cls := .type "tuple", data := .seq #[.int (i : Nat) t, x] } →
      (∀ b o, b ≠ e → b ∉ wr → s.heap.get? b = some o → h'.get? b = some o) → Q (.ref T) { s with heap := h', toks := tk }) :
    wpAny (model prog w) A (Builtin.«enumerate.__next__» ⟨[.ref e], []⟩) (fun fin s' => ∃ v, fin = .done (.ret v) ∧ Q v s') E s := by
  have hew : e ∉ wr := fun q => hef (D.sub e q)
  obtain ⟨s0, f, old, hs0, he⟩ := he
  obtain ⟨hp, g, d, tk₀, os⟩ := s
  show wpAny _ _ (field (.ref e) 2 >>= _) _ _ _
  refine wpAny_bind (wpAny_field he rfl (x := .ref it) rfl ?_)
  refine wpAny_bind (D.item i _ _ _ hlt hst fun x h₁ tk hPx hit₁ hle₁ hk₁ => ?_)
  replace hk₁ : ∀ b o, b ∉ wr → hp.get? b = some o → h₁.get? b = some o := hk₁
  replace hle₁ : hp.objs.size ≤ h₁.objs.size := hle₁
  have he₁ : h₁.get? e = some (enObj s0 f it i old) := hk₁ e _ hew he
  show wpAny _ _ (field (.ref e) 3 >>= _) _ _ ⟨h₁, g, d, tk, os⟩
  refine wpAny_bind (wpAny_field he₁ rfl (x := rawInt i) rfl ?_)
  show wpAny _ _ (field (.ref e) 4 >>= _) _ _ ⟨h₁, g, d, tk, os⟩
  refine wpAny_bind (wpAny_field he₁ rfl (x := .none) rfl ?_)
  show wpAny _ _ (mkInt i >>= _) _ _ ⟨h₁, g, d, tk, os⟩
  refine wpAny_bind (wpAny_mkInt ?_)
  show wpAny _ _ (setField (.ref e) 3 (rawInt ((i : Int) + 1)) >>= _) _ _ ⟨h₁, g, d, tk + 1, os⟩
  refine wpAny_bind (wpAny_setField_rec he₁ (by simp) fun h₂ he₂ hs₂ => ?_)
  replace hs₂ : Heap.SameBut e h₁ h₂ := hs₂
  replace he₂ : h₂.get? e = some (enObj s0 f it ((i : Int) + 1) old) := he₂
  show wpAny _ _ (setField (.ref e) 4 .none >>= _) _ _ ⟨h₂, g, d, tk + 1, os⟩
  refine wpAny_bind (wpAny_setField_rec he₂ (by simp) fun h₃ he₃ hs₃ => ?_)
  replace hs₃ : Heap.SameBut e h₂ h₃ := hs₃
  replace he₃ : h₃.get? e = some (enObj s0 f it ((i : Int) + 1) old) := he₃
  show wpAny _ _ (newTuple [.int i tk, x] >>= _) _ _ ⟨h₃, g, d, tk + 1, os⟩
  refine wpAny_bind (wpAny_newTuple ?_)
  have he₄ : (h₃.push { cls := .type "tuple", data := .seq #[.int i tk, x] }).get? e = some (enObj s0 f it ((i : Int) + 1) old) := Heap.get?_push_of_some _ he₃
  have hsz : h₃.objs.size = h₁.objs.size := by rw [hs₃.1, hs₂.1]
  have hel : e < h₁.objs.size := Heap.lt_size he₁
  have help : e < hp.objs.size := Heap.lt_size he
  have e1 : ((i + 1 : Nat) : Int) = (i : Int) + 1 := by omega
  generalize hh₄ : h₃.push { cls := .type "tuple", data := .seq #[.int i tk, x] } = h₄ at he₄
  have ht₄ : h₄.get? h₁.objs.size = some { cls := .type "tuple", data := .seq #[.int i tk, x] } := by rw [← hh₄, ← hsz]; exact Heap.get?_push_size _ rfl
  have hz₄ : h₄.objs.size = h₁.objs.size + 1 := by rw [← hh₄, Heap.size_push, hsz]
  have hk₄ : ∀ b o, b ≠ e → h₁.get? b = some o → h₄.get? b = some o := fun b o hbe hb => by
    rw [← hh₄]; exact Heap.get?_push_of_some _ (hs₃.extBut b o hbe (hs₂.extBut b o hbe hb))
  have fin : ∀ h₅ (tk5 : Nat), EnA h₅ e it ((i : Int) + 1) → h₅.objs.size = h₄.objs.size → (∀ b o, b ≠ e → h₄.get? b = some o → h₅.get? b = some o) → Q (.ref h₁.objs.size) ⟨h₅, g, d, tk5, os⟩ := fun h₅ tk5 en z5 k5 => by
    refine hQ x h₅ tk5 h₁.objs.size tk h₁.objs.size ?_ hle₁ (Nat.le_refl _) (by rw [z5, hz₄]; exact Nat.lt_succ_self _) (by rw [e1]; exact en) ?_ (k5 _ _ (Nat.ne_of_gt hel) ht₄) ?_
    · exact D.grow _ _ _ _ _ _ hPx fun b o hb q => k5 b o (fun z => absurd (z ▸ hb) (Nat.not_le_of_lt help)) (hk₄ b o (fun z => absurd (z ▸ hb) (Nat.not_le_of_lt help)) q)
    · exact D.frame _ _ _ hit₁ fun b hb o y => k5 b o (fun q => hef (q ▸ hb)) (hk₄ b o (fun q => hef (q ▸ hb)) y)
    · exact fun b o hbe hbw y => k5 b o hbe (hk₄ b o hbe (hk₁ b o hbw y))
  show wpAny _ _ (Builtin.SmallTypes.ownedTupleIsFree (.ref e) >>= _) _ _ ⟨h₄, g, d, tk + 1, os⟩
  rw [hsz]
  refine wpAny_bind (free_en (s := ⟨h₄, g, d, tk + 1, os⟩) he₄ hs0 ?_ fun h₅ f' he₅ hs₅ => ?_)
  · simp only [if_true]
    refine wpAny_bind (wpAny_rule ?_)
    refine wpAny_bind (wpAny_field he₄ rfl (x := old) rfl ?_)
    refine wpAny_bind (wpAny_setField_rec he₄ (by simp) fun h₅ he₅ hs₅ => ?_)
    replace hs₅ : Heap.SameBut e h₄ h₅ := hs₅
    replace he₅ : h₅.get? e = some (enObj s0 f it ((i : Int) + 1) x) := he₅
    show wpAny _ _ (Builtin.SmallTypes.ownedTupleHandOut (.ref e) (.ref h₁.objs.size) >>= _) _ _ ⟨h₅, g, d, tk + 1, os⟩
    refine wpAny_bind ?_
    unfold Builtin.SmallTypes.ownedTupleHandOut
    refine wpAny_bind (wpAny_setField_rec he₅ (by simp) fun h₆ he₆ hs₆ => ?_)
    replace hs₆ : Heap.SameBut e h₅ h₆ := hs₆
    replace he₆ : h₆.get? e = some (enObj (rawInt h₁.objs.size) f it ((i : Int) + 1) x) := he₆
    refine wpAny_setField_rec he₆ (by simp) fun h₇ he₇ hs₇ => ?_
    replace hs₇ : Heap.SameBut e h₆ h₇ := hs₇
    replace he₇ : h₇.get? e = some (enObj (rawInt h₁.objs.size) false it ((i : Int) + 1) x) := he₇
    refine wpAny_bind (wpAny_letGo (wpAny_pure ⟨_, rfl, fin h₇ (tk + 1) ⟨_, _, _, .inr ⟨_, rfl⟩, he₇⟩ (by rw [hs₇.1, hs₆.1, hs₅.1]) fun b o hbe hb => hs₇.extBut b o hbe (hs₆.extBut b o hbe (hs₅.extBut b o hbe hb))⟩))
  · simp only [Bool.false_eq_true, if_false]
    exact wpAny_pure ⟨_, rfl, fin h₅ (tk + 1) ⟨_, _, _, hs0, he₅⟩ hs₅.1 fun b o hbe hb => hs₅.extBut b o hbe hb⟩
theorem en_pyNext_item {e it : Addr} {fp wr : List Addr} {n i : Nat} {P : Nat → Value → Nat → Nat → Heap → Prop} {St : Nat → Heap → Prop} {Q : Option Value → Shared → Prop}
    (D : Dr prog w A.in1 it fp wr n P St) (he : EnA s.heap e it (i : Nat)) (hst : St i s.heap) (hlt : i < n) (hef : e ∉ fp)
    (hQ : ∀ x h' tk T t Z, P i x s.heap.objs.size Z h' → s.heap.objs.size ≤ Z → Z ≤ T → T < h'.objs.size → EnA h' e it ((i + 1 : Nat) : Int) → St (i + 1) h' →
      h'.get? T = some { cls := .type "tuple", data := .seq #[.int (i : Nat) t, x] } →
      (∀ b o, b ≠ e → b ∉ wr → s.heap.get? b = some o → h'.get? b = some o) → Q (some (.ref T)) { s with heap := h', toks := tk }) :
    wpAny (model prog w) A (pyNext (.ref e)) Q E s := by
  have hT : s.TypeIs (.ref e) "enumerate" := by obtain ⟨_, _, _, _, q⟩ := he; exact ⟨_, q, rfl⟩
  unfold pyNext
  exact wpAny_bind (wpAny_attempt (wpAny_callSpecial?_slot (name := Str.ofString "__next__") hT F.slot_enumerate_next
    (wpAny_call_entry F.slot_enumerate_next hT F.entry_enumerate_next
      (en_item D he hst hlt hef fun x h' tk T t Z a1 a2 a3 a4 a5 a6 a7 a8 => wpAny_pure (hQ x h' tk T t Z a1 a2 a3 a4 a5 a6 a7 a8)) (F.args_enumerate_next_1 _))))
theorem en_pyNext_end {e it : Addr} {fp wr : List Addr} {n : Nat} {P : Nat → Value → Nat → Nat → Heap → Prop} {St : Nat → Heap → Prop} {i : Int} {Q : Option Value → Shared → Prop}
    (D : Dr prog w A.in1 it fp wr n P St) (he : EnA s.heap e it i) (hst : St n s.heap)
    (hQ : ∀ h' tk, (∀ b o, b ∉ wr → s.heap.get? b = some o → h'.get? b = some o) → Q none { s with heap := h', toks := tk }) : wpAny (model prog w) A (pyNext (.ref e)) Q E s := by
  obtain ⟨s0, f, old, hs0, he⟩ := he
  have hT : s.TypeIs (.ref e) "enumerate" := ⟨_, he, rfl⟩
  unfold pyNext
  refine wpAny_bind (wpAny_attempt (wpAny_callSpecial?_slot (name := Str.ofString "__next__") hT F.slot_enumerate_next
    (wpAny_call_entry F.slot_enumerate_next hT F.entry_enumerate_next ?_ (F.args_enumerate_next_1 _))))
  show wpAny _ _ (field (.ref e) 2 >>= _) _ _ _
  refine wpAny_bind (wpAny_field he rfl (x := .ref it) rfl ?_)
  refine wpAny_bind (D.done _ _ _ hst fun h' tk x he' hx' => ?_)
  obtain ⟨o, ho, hc⟩ := hx'
  refine wpAny_bind (wpAny_isInstance (T := "StopIteration") (b := true) ⟨o, ho, hc⟩ isSubtype_stop ?_)
  exact wpAny_pure (hQ _ _ he')
theorem en_go {tg : Expr} {e it : Addr} {u : Value} {i : Int} {Q : Unit → Shared → Prop} (he : EnA s.heap e it i)
    (hQ : ∀ h', EnA h' e it i → Heap.SameBut e s.heap h' → Q () { s with heap := h' }) : wpAny (model prog w) A (letOwnedTupleGo tg (.ref e) u) Q E s := by
  have hk : Q () s := hQ s.heap he (Heap.SameBut.refl _ _)
  obtain ⟨s0, f, old, hs0, he⟩ := he
  have go : ∀ a : Addr, wpAny (model prog w) A (do
      let o ← load e
      match o.cls, o.data with
      | .type n, .fields vs =>
        if ["enumerate", "zip", "dict_itemiterator", "dict_reverseitemiterator", "odict_iterator", "itertools.zip_longest", "itertools.pairwise"].contains n && vs[0]? == some (rawInt a) then
          rule "for.unpacks-the-owned-tuple"
          updateField e 0 .none
      | _, _ => pure ()) Q E s := by
    intro a
    refine wpAny_bind (wpAny_load he ?_)
    show wpAny _ A (if (_ && (some s0 == some (rawInt a))) = true then _ else _) Q E s
    split
    · refine wpAny_bind (wpAny_rule ?_)
      show wpAny _ A (setField (.ref e) 0 .none) Q E s
      exact wpAny_setField_rec he (by simp) fun h' he' hs' => hQ h' ⟨_, _, _, .inl rfl, he'⟩ hs'
    · exact wpAny_pure hk
  unfold letOwnedTupleGo
  cases tg <;> first | exact wpAny_pure hk | (cases u <;> first | exact wpAny_pure hk | exact go _)
end
section
variable {prog : Program} {w : World} {A : Around} {E : Value → Shared → Prop} {s : Shared} {z TI TO i1 i2 : Addr} {fp1 fp2 : List Addr} {n1 n2 i : Nat} {P1 P2 : Nat → Value → Prop} {St1 St2 : Nat → Heap → Prop} {a1 a2 : Value}
def OutZ (h : Heap) (TO : Addr) : Prop := ∃ a1 a2, IsTupOf2 h TO a1 a2
end
end DL
set_option Elab.async false
set_option linter.all false
set_option maxRecDepth 100000
set_option maxHeartbeats 1000000
namespace DL
open PySem PySem.Spec PyProof.Rows L2
theorem vals_rev : ∀ {xs : List V} {us : List Value} {i : Nat} {u : Value}, Vals xs us → us[i]? = some u → ∃ x, xs[i]? = some x ∧ RelV x u
  | _, _, _, _, .nil, e => by simp at e
  | _, _, 0, _, .cons r _, e => by simp at e; subst e; exact ⟨_, rfl, r⟩
  | _, _, i + 1, u, .cons _ t, e => by
    obtain ⟨x, h1, h2⟩ := vals_rev (i := i) (u := u) t (by simpa using e)
    exact ⟨x, by simpa using h1, h2⟩
theorem iter_en {prog : Program} {w : World} {A : Around} {E : Value → Shared → Prop} {s : Shared} {e it : Addr} {i : Int} {Q : Value → Shared → Prop} (he : EnA s.heap e it i) (h : Q (.ref e) s) : wpAny (model prog w) A (pyIter (.ref e)) Q E s := by
  obtain ⟨_, _, _, _, q⟩ := he
  have hT : s.TypeIs (.ref e) "enumerate" := ⟨_, q, rfl⟩
  refine wpAny_pyIter_slot hT F.slot_enumerate_iter (wpAny_call_entry F.slot_enumerate_iter hT F.entry_enumerate_iter ?_ (F.args_enumerate_iter_1 _))
  show wpAny _ _ (ret (.ref e)) _ _ s
  exact wpAny_pure ⟨_, rfl, "enumerate", _, hT, F.slot_enumerate_next.lookup, h⟩
/-- what each draw does, with the store known -/
structure Pull (P : Program) (w : World) (K : PySem.W.Frag) (J : It) (fp : List Addr) (it : Addr) (tn : Nat → Heap → Prop) : Prop where
  mem : it ∈ fp
  obj : ∀ i h, tn i h → ∀ b ∈ fp, ∃ o, h.get? b = some o ∧ ∀ v, o.data ≠ .cell v
  keep : ∀ i h h', tn i h → (∀ b ∈ fp, ∀ o, h.get? b = some o → h'.get? b = some o) → tn i h'
  item : ∀ (X : Cx), X.prog = P → X.w = w → X.K = K → ∀ (A : Around), A.handled = none → ∀ (i : Nat) (pins : List (Addr × Obj)) (s : Shared) (σ : L2.St) (H : Hp) (E : Value → Shared → Prop), Inv X pins σ H s → (∀ b ∈ fp, FpOk X pins H b) → tn i s.heap → J.go i H →
    wpAny (model P w) A (pyNext (.ref it)) (fun r s1 => ∃ u, r = some u ∧ ∃ x H', Inv X pins σ H' s1 ∧ RelV x u ∧ J.yld i H x H' ∧ tn (i + 1) s1.heap ∧ ∀ b ∈ fp, H' b = none) E s
  done : ∀ (X : Cx), X.prog = P → X.w = w → X.K = K → ∀ (A : Around), A.handled = none → ∀ (i : Nat) (pins : List (Addr × Obj)) (s : Shared) (σ : L2.St) (H : Hp) (E : Value → Shared → Prop), Inv X pins σ H s → (∀ b ∈ fp, FpOk X pins H b) → tn i s.heap → J.stop i H →
    wpAny (model P w) A (pyNext (.ref it)) (fun r s1 => r = none ∧ Inv X pins σ H s1) E s
theorem turn_of {P : Program} {w : World} {K : PySem.W.Frag} {tg : Expr} {J : It} {fp : List Addr} {it : Addr} {tn : Nat → Heap → Prop} (p : Pull P w K J fp it tn)
    (go : ∀ (A : Around) (i : Nat) (s : Shared) (u : Value) (Q : Unit → Shared → Prop) (E : Value → Shared → Prop), tn i s.heap → (∀ h', tn i h' → Heap.SameBut it s.heap h' → Q () { s with heap := h' }) → wpAny (model P w) A (letOwnedTupleGo tg (.ref it) u) Q E s)
    (self : ∀ (A : Around) (i : Nat) (s : Shared) (Q : Value → Shared → Prop) (E : Value → Shared → Prop), tn i s.heap → Q (.ref it) s → wpAny (model P w) A (pyIter (.ref it)) Q E s) : Turn P w K tg J fp it tn where
  mem := p.mem
  obj := p.obj
  keep := p.keep
  item := by
    intro X hP hw hK hc i pins s σ H E I hf st hg
    refine thn (p.item X hP hw hK X.A (I.ok.hd hc) i pins s σ H E I hf st hg) fun r s1 ⟨u, hr, x, H', I', rel, y, st', fn⟩ => ⟨u, hr, go _ _ _ _ _ _ st' fun h' st2 sb => ⟨x, H', ?_, rel, y, st2, fn⟩⟩
    exact I'.turnedL (t' := s1.toks) (ch := [it]) (fun b o hb q => (sb.2 b (fun z => hb (by simp [z]))).trans q) fun b hb => by rw [List.mem_singleton.mp hb]; exact ⟨fn it p.mem, (hf it p.mem).2⟩
  done := fun X hP hw hK hc i pins s σ H E I hf st hg => p.done X hP hw hK X.A (I.ok.hd hc) i pins s σ H E I hf st hg
  self := self
inductive Sq | lst (a : Addr) | tup (a : Addr) | str (z : Str)
namespace Sq
def v : Sq → V
  | lst a => .ref a
  | tup a => .ref a
  | str z => .str z
def val (t : Tok) : Sq → Value
  | lst a => .ref a
  | tup a => .ref a
  | str z => .str z t
def its (K : PySem.W.Frag) (H : Hp) (xs : List V) : Sq → Prop
  | lst a => SqL K H a xs
  | tup a => SqT K H a xs
  | str z => xs = z.cps.toList.map fun c => V.str ⟨#[c]⟩
def st (t : Tok) (it : Addr) (i : Nat) (h : Heap) : Sq → Prop
  | lst a => h.IsListIter it a i
  | tup a => h.IsTupleIter it a i
  | str z => h.IsStrIter it (strIterType z) z t i
def addr : Sq → List Addr
  | lst a => [a]
  | tup a => [a]
  | str z => []
theorem rel {S : Sq} {u : Value} (r : RelV S.v u) : ∃ t, u = S.val t := by
  cases S with
  | lst a => exact ⟨0, r⟩
  | tup a => exact ⟨0, r⟩
  | str z => exact r
theorem inj {X : Cx} {pins : List (Addr × Obj)} {σ : L2.St} {H : Hp} {s : Shared} (I : Inv X pins σ H s) {S : Sq} {xs ys : List V} (h : S.its X.K H xs) (h' : S.its X.K H ys) : xs = ys := by
  cases S with
  | lst a => exact I.list_inj h h'
  | tup a => exact I.tuple_inj h h'
  | str z => exact (show xs = _ from h).trans (show ys = _ from h').symm
theorem stLive {S : Sq} {t : Tok} {it : Addr} {i : Nat} {h : Heap} (q : S.st t it i h) : ∃ o, h.get? it = some o ∧ ∃ vs, o.data = .fields vs := by
  cases S with
  | lst a => obtain ⟨o, e, _, d⟩ := q; exact ⟨o, e, _, d⟩
  | tup a => obtain ⟨o, e, _, d⟩ := q; exact ⟨o, e, _, d⟩
  | str z => obtain ⟨o, e, _, d⟩ := q; exact ⟨o, e, _, d⟩
theorem stAt {S : Sq} {t : Tok} {it : Addr} {i : Nat} {h h' : Heap} (q : S.st t it i h) (k : ∀ o, h.get? it = some o → h'.get? it = some o) : S.st t it i h' := by
  cases S with
  | lst a => obtain ⟨o, e, r⟩ := q; exact ⟨o, k o e, r⟩
  | tup a => obtain ⟨o, e, r⟩ := q; exact ⟨o, k o e, r⟩
  | str z => obtain ⟨o, e, r⟩ := q; exact ⟨o, k o e, r⟩
/-- the draws of its iterator, as things stand -/
theorem draws {X : Cx} {pins : List (Addr × Obj)} {σ : L2.St} {H : Hp} {s : Shared} (I : Inv X pins σ H s) {S : Sq} {xs : List V} (h : S.its X.K H xs) {t : Tok} {it : Addr} (hn : it ∉ S.addr) (A : Around) (hh : A.handled = none) :
    ∃ (fp : List Addr) (P : Nat → Value → Prop) (St : Nat → Heap → Prop), Draws X.prog X.w A it (it :: fp) xs.length P St ∧ (∀ b ∈ fp, b ∈ S.addr) ∧ (∀ i, S.st t it i s.heap → St i s.heap) ∧ (∀ i h, St i h → S.st t it i h) ∧ ∀ i u, P i u → ∃ x, xs[i]? = some x ∧ RelV x u := by
  cases S with
  | lst a =>
    obtain ⟨its, rv, p, hz⟩ := I.list h
    have e : its.toArray.size = xs.length := by rw [List.size_toArray, rv.length]
    refine ⟨[a], _, _, e ▸ Draws.list hh it a (fun q => hn (by rw [q]; exact List.mem_singleton_self _)) its.toArray, fun b hb => hb, fun i q => ⟨q, p.isList⟩, fun i h q => q.1, fun i u q => ?_⟩
    exact vals_rev rv (by simpa using q)
  | tup a =>
    obtain ⟨its, rv, p, hz⟩ := I.tuple h
    have e : its.toArray.size = xs.length := by rw [List.size_toArray, rv.length]
    refine ⟨[a], _, _, e ▸ Draws.tuple hh it a (fun q => hn (by rw [q]; exact List.mem_singleton_self _)) its.toArray, fun b hb => hb, fun i q => ⟨q, p⟩, fun i h q => q.1, fun i u q => ?_⟩
    exact vals_rev rv (by simpa using q)
  | str z =>
    have h' : xs = z.cps.toList.map fun c => V.str ⟨#[c]⟩ := h
    subst h'
    have e : z.cps.size = (z.cps.toList.map fun c => V.str ⟨#[c]⟩).length := by simp
    refine ⟨[], _, _, e ▸ Draws.text hh it z t, fun b hb => hb, fun i q => q, fun i h q => q, fun i u q => ?_⟩
    obtain ⟨c, u, hc, rfl⟩ := q
    exact ⟨.str ⟨#[c]⟩, by simp [hc], u, rfl⟩
def obj (t : Tok) : Sq → Obj
  | lst a => { cls := .type "list_iterator", data := .fields #[.ref a, .int 0 0] }
  | tup a => { cls := .type "tuple_iterator", data := .fields #[.ref a, .int 0 0] }
  | str z => { cls := .type (strIterType z), data := .fields #[.str z t, .int 0 0] }
theorem begins {X : Cx} {pins : List (Addr × Obj)} {σ : L2.St} {H : Hp} {s : Shared} (I : Inv X pins σ H s) {S : Sq} {xs : List V} (h : S.its X.K H xs) (t : Tok) : ∃ Hp, Begins (S.val t) (S.obj t) Hp ∧ Hp s.heap := by
  cases S with
  | lst a =>
    obtain ⟨its, rv, p, hz⟩ := I.list h
    exact ⟨_, begins_list a its.toArray, p.isList⟩
  | tup a =>
    obtain ⟨its, rv, p, hz⟩ := I.tuple h
    exact ⟨_, begins_tuple a its.toArray, p⟩
  | str z => exact ⟨_, begins_text z t, trivial⟩
theorem st0 {S : Sq} {t : Tok} {it : Addr} {h : Heap} (e : h.get? it = some (S.obj t)) : S.st t it 0 h := by
  cases S with
  | lst a => exact ⟨_, e, rfl, rfl⟩
  | tup a => exact ⟨_, e, rfl, rfl⟩
  | str z => exact ⟨_, e, rfl, rfl⟩
theorem addr_lt {X : Cx} {pins : List (Addr × Obj)} {σ : L2.St} {H : Hp} {s : Shared} (I : Inv X pins σ H s) {S : Sq} {xs : List V} (h : S.its X.K H xs) : ∀ b ∈ S.addr, b < s.heap.objs.size := by
  cases S with
  | lst a =>
    obtain ⟨its, rv, ⟨o, n, e, _⟩, hz⟩ := I.list h
    intro b hb
    rw [List.mem_singleton.mp hb]
    exact Heap.lt_size e
  | tup a =>
    obtain ⟨its, rv, ⟨o, e, _⟩, hz⟩ := I.tuple h
    intro b hb
    rw [List.mem_singleton.mp hb]
    exact Heap.lt_size e
  | str z => intro b hb; cases hb
end Sq
theorem tup_ok {P : Program} {w : World} {H : Hp} {h : Heap} {T : Addr} {xs : List V} {us : List Value} (hl : xs.length ≤ sizeLine) (r : Vals xs us) (hT : h.get? T = some { cls := .type "tuple", data := .seq us.toArray }) : ObjOk P w H h T (.tup xs) :=
  ⟨hl, us, r, ⟨_, hT, rfl, _, rfl⟩⟩

def Jen (K : PySem.W.Frag) (S : Sq) (n : Nat) : It :=
  ⟨fun i H => i < n ∧ ∃ xs, S.its K H xs ∧ xs.length = n, fun i H v H' => ∃ T x, v = .ref T ∧ H T = none ∧ H' = upd H T (.tup [.int (i : Nat), x]) ∧ ∀ xs, S.its K H xs → xs[i]? = some x, fun i H => n ≤ i ∧ ∃ xs, S.its K H xs ∧ xs.length = n⟩
theorem pull_en {P : Program} {w : World} {K : PySem.W.Frag} (S : Sq) (t : Tok) (e it : Addr) (n : Nat) (hne : e ≠ it) (h1 : e ∉ S.addr) (h2 : it ∉ S.addr) :
    Pull P w K (Jen K S n) [e, it] e (fun i h => i ≤ n ∧ EnA h e it (i : Nat) ∧ S.st t it i h) where
  mem := by simp
  obj := fun i h st b hb => by
    obtain ⟨_, ⟨_, _, _, _, he⟩, hs⟩ := st
    have e' : b = e ∨ b = it := by simpa using hb
    rcases e' with z | z
    · rw [z]; exact ⟨_, he, fun v q => nomatch q⟩
    · rw [z]
      obtain ⟨o, ho, vs, hd⟩ := Sq.stLive hs
      exact ⟨o, ho, fun v q => by rw [hd] at q; cases q⟩
  keep := fun i h h' st k => by
    obtain ⟨hi, ⟨s0, f, old, h0, he⟩, hs⟩ := st
    exact ⟨hi, ⟨s0, f, old, h0, k e (by simp) _ he⟩, Sq.stAt hs fun o q => k it (by simp) o q⟩
  item := by
    intro X hP hw hK A hh i pins s σ H E I hf st hg
    subst hP hw hK
    obtain ⟨hle, hen, hs⟩ := st
    obtain ⟨hi, xs, hq, hl⟩ := hg
    obtain ⟨fp, Pv, St, D, hfp, up, down, val⟩ := Sq.draws I hq (t := t) h2 A.in1 hh
    refine en_pyNext_item (Dr.of D (by simp)) hen (up i hs) (by omega) (fun q => ?_) fun x h' tk T t' Z p hN hZ hT hen' hs' hTup hk => ?_
    · rcases List.mem_cons.mp q with q | q
      · exact hne q
      · exact h1 (hfp _ q)
    · obtain ⟨xv, hx, rx⟩ := val i x p
      have hTl : s.heap.objs.size ≤ T := Nat.le_trans hN hZ
      have hel : e < s.heap.objs.size := by obtain ⟨_, _, _, _, q⟩ := hen; exact Heap.lt_size q
      have hil : it < s.heap.objs.size := by obtain ⟨o, q, _⟩ := Sq.stLive hs; exact Heap.lt_size q
      have I1 : Inv X pins σ (upd H T (.tup [.int (i : Nat), xv])) { s with heap := h', toks := tk } :=
        I.turnedNew (ch := [e, it]) (fun b ob hb q => hk b ob (fun z => hb (by simp [z])) (fun z => hb (by simp at z; simp [z])) q) hf hTl (tup_ok (by show 2 ≤ sizeLine; decide) (.cons ⟨_, rfl⟩ (.cons rx .nil)) hTup)
      refine ⟨_, rfl, .ref T, _, I1, rfl, ⟨T, xv, rfl, I.hok.fresh hTl, rfl, fun ys hy => by rw [Sq.inj I hy hq]; exact hx⟩, ⟨by omega, hen', down _ _ hs'⟩, fun b hb => ?_⟩
      have hb' : b < s.heap.objs.size := by
        have e' : b = e ∨ b = it := by simpa using hb
        rcases e' with z | z
        · rw [z]; exact hel
        · rw [z]; exact hil
      rw [upd_ne (Nat.ne_of_lt (Nat.lt_of_lt_of_le hb' hTl))]
      exact (hf b hb).1
  done := by
    intro X hP hw hK A hh i pins s σ H E I hf st hg
    subst hP hw hK
    obtain ⟨hle, hen, hs⟩ := st
    obtain ⟨hi, xs, hq, hl⟩ := hg
    obtain ⟨fp, Pv, St, D, hfp, up, down, val⟩ := Sq.draws I hq (t := t) h2 A.in1 hh
    have e1 : i = xs.length := by omega
    exact en_pyNext_end (Dr.of D (by simp)) hen (by rw [← e1]; exact up i hs) fun h' tk k => ⟨rfl, I.turnedL (ch := [e, it]) (fun b o hb q => k b o (fun z => hb (by simp at z; simp [z])) q) hf⟩
theorem turn_en {P : Program} {w : World} {K : PySem.W.Frag} {tg : Expr} (S : Sq) (t : Tok) (e it : Addr) (n : Nat) (hne : e ≠ it) (h1 : e ∉ S.addr) (h2 : it ∉ S.addr) :
    Turn P w K tg (Jen K S n) [e, it] e (fun i h => i ≤ n ∧ EnA h e it (i : Nat) ∧ S.st t it i h) :=
  turn_of (pull_en S t e it n hne h1 h2) (fun A i s u Q E st hQ => en_go st.2.1 fun h' q sb => hQ h' ⟨st.1, q, Sq.stAt st.2.2 fun o q => (sb.2 it (Ne.symm hne)).trans q⟩ sb) fun A i s Q E st h => iter_en st.2.1 h

/-- the cells of a zip: apart, and apart from what it goes over -/
structure ZiAp (S1 S2 : Sq) (z TI TO i1 i2 : Addr) : Prop where
  TIz : TI ≠ z
  TOz : TO ≠ z
  TITO : TI ≠ TO
  TIi1 : TI ≠ i1
  TIi2 : TI ≠ i2
  zi1 : z ≠ i1
  zi2 : z ≠ i2
  TOi1 : TO ≠ i1
  TOi2 : TO ≠ i2
  i12 : i1 ≠ i2
  out : ∀ b, b ∈ S1.addr ∨ b ∈ S2.addr → b ≠ z ∧ b ≠ TI ∧ b ≠ TO ∧ b ≠ i1 ∧ b ≠ i2
section
variable {S1 S2 : Sq} {z TI TO i1 i2 : Addr}
theorem ZiAp.sep (D : ZiAp S1 S2 z TI TO i1 i2) {fp1 fp2 : List Addr} (h1 : ∀ b ∈ fp1, b ∈ S1.addr) (h2 : ∀ b ∈ fp2, b ∈ S2.addr) : ZipSep2 z TI TO i1 i2 (i1 :: fp1) (i2 :: fp2) := by
  have o1 : ∀ b ∈ fp1, b ≠ z ∧ b ≠ TI ∧ b ≠ TO ∧ b ≠ i1 ∧ b ≠ i2 := fun b hb => D.out b (.inl (h1 b hb))
  have o2 : ∀ b ∈ fp2, b ≠ z ∧ b ≠ TI ∧ b ≠ TO ∧ b ≠ i1 ∧ b ≠ i2 := fun b hb => D.out b (.inr (h2 b hb))
  refine ⟨D.TIz, D.TOz, D.TITO, D.TIi1, List.mem_cons_self, ?_, ?_, D.TIi2, List.mem_cons_self, ?_, ?_, ?_, ?_⟩
  · intro q; rcases List.mem_cons.mp q with q | q
    · exact D.zi1 q
    · exact (o1 _ q).1 rfl
  · intro q; rcases List.mem_cons.mp q with q | q
    · exact D.TOi1 q
    · exact (o1 _ q).2.2.1 rfl
  · intro q; rcases List.mem_cons.mp q with q | q
    · exact D.zi2 q
    · exact (o2 _ q).1 rfl
  · intro q; rcases List.mem_cons.mp q with q | q
    · exact D.TOi2 q
    · exact (o2 _ q).2.2.1 rfl
  · intro q; rcases List.mem_cons.mp q with q | q
    · exact D.i12 q
    · exact (o2 _ q).2.2.2.1 rfl
  · intro q; rcases List.mem_cons.mp q with q | q
    · exact D.i12 q.symm
    · exact (o1 _ q).2.2.2.2 rfl
def ZiSt (S1 S2 : Sq) (t1 t2 : Tok) (z TI TO i1 i2 : Addr) (i : Nat) (h : Heap) : Prop := ZiA h z TI TO ∧ IsTupOf2 h TI (.ref i1) (.ref i2) ∧ OutZ h TO ∧ S1.st t1 i1 i h ∧ S2.st t2 i2 i h
theorem ZiSt.keep {t1 t2 : Tok} {i : Nat} {h h' : Heap} (st : ZiSt S1 S2 t1 t2 z TI TO i1 i2 i h) (k : ∀ b ∈ [z, TI, TO, i1, i2], ∀ o, h.get? b = some o → h'.get? b = some o) : ZiSt S1 S2 t1 t2 z TI TO i1 i2 i h' := by
  obtain ⟨⟨_, _, h0, hz⟩, hTI, ⟨_, _, hTO⟩, s1, s2⟩ := st
  exact ⟨⟨_, _, h0, k z (by simp) _ hz⟩, k TI (by simp) _ hTI, ⟨_, _, k TO (by simp) _ hTO⟩, Sq.stAt s1 fun o q => k i1 (by simp) o q, Sq.stAt s2 fun o q => k i2 (by simp) o q⟩
theorem ZiSt.obj {t1 t2 : Tok} {i : Nat} {h : Heap} (st : ZiSt S1 S2 t1 t2 z TI TO i1 i2 i h) : ∀ b ∈ [z, TI, TO, i1, i2], ∃ o, h.get? b = some o ∧ ∀ v, o.data ≠ .cell v := by
  obtain ⟨⟨_, _, h0, hz⟩, hTI, ⟨_, _, hTO⟩, s1, s2⟩ := st
  intro b hb
  have e' : b = z ∨ b = TI ∨ b = TO ∨ b = i1 ∨ b = i2 := by simpa using hb
  rcases e' with q | q | q | q | q
  · rw [q]; exact ⟨_, hz, fun v q => nomatch q⟩
  · rw [q]; exact ⟨_, hTI, fun v q => nomatch q⟩
  · rw [q]; exact ⟨_, hTO, fun v q => nomatch q⟩
  · rw [q]; obtain ⟨o, ho, vs, hd⟩ := Sq.stLive s1; exact ⟨o, ho, fun v q => by rw [hd] at q; cases q⟩
  · rw [q]; obtain ⟨o, ho, vs, hd⟩ := Sq.stLive s2; exact ⟨o, ho, fun v q => by rw [hd] at q; cases q⟩
end
end DL
set_option Elab.async false
set_option linter.all false
set_option maxRecDepth 100000
set_option maxHeartbeats 1000000
namespace DL
open PySem
open Sem (wp)
set_option maxHeartbeats 2000000 in
theorem meets_en1 {v : Value} {H : Heap → Prop} {itA : Heap → Addr} {grow : Heap → Heap} (B : ∀ (prog : Program) (w : World) (A : Around) (E : Value → Shared → Prop) (s : Shared) (Q : Value → Shared → Prop), H s.heap → Q (.ref (itA s.heap)) { s with heap := grow s.heap } → wpAny (model prog w) A (pyIter v) Q E s) :
    Meets (Builtin.«enumerate.__new__» ⟨[.type "enumerate", v], []⟩) (fun _ R s => H s.heap ∧
      R (.ok (.ret (.ref (grow s.heap).objs.size))) { s with heap := (grow s.heap).push { cls := .type "enumerate", data := .fields #[.none, .bool false, .ref (itA s.heap), rawInt 0, .none, .none] } }) :=
  .of_wp fun prog w A R s h => by
    obtain ⟨hp, g, d, tk, os⟩ := s; obtain ⟨h1, h⟩ := h
    have hsub := sub_enumerate
    have q1 : ∀ {A' : Around} {E : Value → Shared → Prop} {Q : Value → Shared → Prop}, Q (.ref (itA hp)) ⟨grow hp, g, d, tk, os⟩ → wpAny (model prog w) A' (pyIter v) Q E ⟨hp, g, d, tk, os⟩ :=
      fun q => B prog w _ _ ⟨hp, g, d, tk, os⟩ _ h1 q
    wp_walk using q1
    refine wpAny_stack_any fun st => wpAny_pure ?_
    split
    · rename_i c _ _ _ _ _
      cases (c == Value.type "enumerate")
      · wp_walk using q1
        exact ⟨_, rfl, h⟩
      · wp_walk using q1
        exact ⟨_, rfl, h⟩
    · wp_walk using q1
      exact ⟨_, rfl, h⟩
section
variable {prog : Program} {w : World} {A : Around} {E : Value → Shared → Prop} {s : Shared}
theorem en_begins {v : Value} {H : Heap → Prop} {itA : Heap → Addr} {grow : Heap → Heap} {Q : Value → Shared → Prop} (B : ∀ (prog : Program) (w : World) (A : Around) (E : Value → Shared → Prop) (s : Shared) (Q : Value → Shared → Prop), H s.heap → Q (.ref (itA s.heap)) { s with heap := grow s.heap } → wpAny (model prog w) A (pyIter v) Q E s) (h1 : H s.heap)
    (h : ∀ h', EnA h' (grow s.heap).objs.size (itA s.heap) ((0 : Nat) : Int) → h'.objs.size = (grow s.heap).objs.size + 1 →
      (∀ b o, (grow s.heap).get? b = some o → h'.get? b = some o) → Q (.ref (grow s.heap).objs.size) { s with heap := h' }) :
    wpAny (model prog w) A (call (.type "enumerate") [v]) Q E s := by
  refine callType_new F.called_enumerate (by decide) (F.typeCall_enumerate_1 _) (F.newCall_enumerate_1 _) (fun obj => F.args_object_init_2 obj _) F.entry_enumerate_new (meets_en1 B) ⟨h1, ?_⟩
  have he : ((grow s.heap).push { cls := .type "enumerate", data := .fields #[.none, .bool false, .ref (itA s.heap), rawInt 0, .none, .none] }).get? (grow s.heap).objs.size = some (enObj .none false (itA s.heap) 0 .none) := Heap.get?_push_size _ rfl
  show _ ∧ _
  exact ⟨⟨_, he, rfl⟩, h _ ⟨_, _, _, .inl rfl, he⟩ (by rw [Heap.size_push]) fun b o x => Heap.get?_push_of_some _ x⟩
end
open PySem.Spec PyProof.Rows L2
def iEn (K : PySem.W.Frag) (ta : TA) : TI := fun σ H R => ta σ H fun vs H1 => ∃ (S : Sq) (xs : List V), vs = [S.v] ∧ S.its K H1 xs ∧ R (Jen K S xs.length) H1
theorem pi_en {X : Cx} {tg e : Expr} {ta : TA} {p pos : Pos} (hg : Gl X "enumerate") (hm : X.mg "enumerate" = none) (ha : PA X [e] ta) (hs : starEach [e] X.env = [(false, eval e X.env)] := by rfl) :
    PI X tg (.Call (.Name "enumerate" p) [e] [] pos) (iEn X.K ta) := by
  refine ⟨fun pins s σ H R I h => ?_⟩
  refine Call_ (ld_blt I hg hm boot_enumerate (PyProof.Rows.callWith_type1 (thn (ha.run pos pins s σ H _ I h) fun us s1 ⟨vs, H1, I1, r1, q1⟩ => ?_) hs rfl))
  obtain ⟨S, xs, rfl, hq, q⟩ := q1
  obtain ⟨u, rfl, ru⟩ := vals1 r1
  obtain ⟨t, rfl⟩ := Sq.rel ru
  obtain ⟨Hp, B, hHp⟩ := Sq.begins I1 hq t
  have lt := Sq.addr_lt I1 hq
  refine en_begins (itA := fun h => h.objs.size) (grow := fun h => h.push (S.obj t)) (fun prog w A E s Q h q => B.iter prog w A E s Q h q) hHp fun h' he hsz hk => ?_
  have hz : (s1.heap.push (S.obj t)).objs.size = s1.heap.objs.size + 1 := Heap.size_push ..
  simp only [hz] at he hsz hk ⊢
  refine iter_en he ?_
  have I2 : Inv X pins σ H1 { s1 with heap := h' } := I1.kept (t' := s1.toks) fun b o e => hk b o (Heap.get?_push_of_some _ e)
  refine ⟨s1.heap.objs.size + 1, [s1.heap.objs.size + 1, s1.heap.objs.size], _, _, H1, rfl, I2, turn_en S t (s1.heap.objs.size + 1) s1.heap.objs.size xs.length (Nat.succ_ne_self _) (fun z => ?_) (fun z => ?_), ⟨Nat.zero_le _, he, Sq.st0 (hk _ _ (Heap.get?_push_size _ B.free))⟩, fun b hb => ?_, q⟩
  · have := lt _ z
    exact absurd this (Nat.not_lt_of_le (Nat.le_succ _))
  · exact absurd (lt _ z) (Nat.lt_irrefl _)
  · have e' : b = s1.heap.objs.size + 1 ∨ b = s1.heap.objs.size := by simpa using hb
    have hle : s1.heap.objs.size ≤ b := by
      rcases e' with z | z
      · rw [z]; exact Nat.le_add_right _ _
      · rw [z]; exact Nat.le_refl _
    exact I1.fpOk hle (I1.hok.fresh hle)
section
variable {M : Ghost} {C : Ct M} {W W1 W2 W' : Wd M} {σ : L2.St} {ρ : DEnv} {e : Expr} {we : EW M} {pos p : Pos}
/-- a sequence as a source, for good -/
structure SqD (K : PySem.W.Frag) (W : Wd M) (S : Sq) (vs : List V) (ds : List D) : Prop where
  its : ∀ W', Gs W W' → Wok K W' → S.its K W'.H vs
  rd : RpA K W.F W.R vs ds
theorem sqd_of {K : PySem.W.Frag} {v : V} {d : D} {ds : List D} (k : Wok K W) (r : Rp K W.F W.R v d) (h : itemsOf d = some ds) : ∃ S vs, v = Sq.v S ∧ SqD K W S vs ds := by
  cases d with
  | lst ds' =>
    cases h
    cases r with
    | lst h r2 => exact ⟨.lst _, _, rfl, fun W' g k' => .of (k'.sub _ _ (g.sub _ _ h)), r2⟩
  | tup ds' =>
    cases h
    cases r with
    | tup h r2 => exact ⟨.tup _, _, rfl, fun W' g k' => same_tup k'.sub (same_tup g.sub h), r2⟩
  | str x =>
    cases h
    cases r with
    | str z _ h =>
      subst h
      refine ⟨.str z, z.cps.toList.map fun c => V.str ⟨#[c]⟩, rfl, fun W' g k' => rfl, ?_⟩
      have : ∀ l : List Nat, RpA K W.F W.R (l.map fun c => V.str ⟨#[c]⟩) (l.map fun c => D.str [c]) := fun l => by
        induction l with
        | nil => exact .nil
        | cons c l ih => exact .cons (.str _ _ rfl) ih
      exact this _
  | _ => cases h
theorem SqD.step {K : PySem.W.Frag} {S : Sq} {vs : List V} {ds : List D} (h : SqD K W S vs ds) (g : Go W W1) : SqD K W1 S vs ds := ⟨fun W' g' k' => h.its W' (g.s.trans g') k', h.rd.step g⟩
theorem idx_inj {K : PySem.W.Frag} {S : Sq} {vs : List V} {ds : List D} (h : SqD K W S vs ds) (g : Gs W W1) (k : Wok K W1) {i : Nat} {x : V} {d : D} (hd : ds[i]? = some d) (hx : ∀ xs, S.its K W1.H xs → xs[i]? = some x) : Rp K W1.F W1.R x d := by
  obtain ⟨v, h1, h2⟩ := (h.rd.gs g).get' hd
  have := hx _ (h.its W1 g k)
  rw [h1] at this
  cases this
  exact h2
def enL : Nat → List D → List D
  | _, [] => []
  | n, d :: ds => .tup [.int (n : Nat), d] :: enL (n + 1) ds
theorem enL_get : ∀ (ds : List D) (n i : Nat), (enL n ds)[i]? = (ds[i]?).map fun d => .tup [.int ((n + i : Nat) : Int), d]
  | [], _, _ => by simp [enL]
  | d :: ds, n, 0 => by simp [enL]
  | d :: ds, n, i + 1 => by
    show (enL (n + 1) ds)[i]? = _
    rw [enL_get ds (n + 1) i, show n + 1 + i = n + (i + 1) by omega]
    simp
theorem wk_en {K : PySem.W.Frag} {S : Sq} {vs : List V} {ds : List D} (k0 : Wok K W) (h : SqD K W S vs ds) : WK K W (Jen K S vs.length) (enL 0 ds) where
  go := fun i W1 d g k e => by
    rw [enL_get, Nat.zero_add] at e
    cases hd : ds[i]? with
    | none => rw [hd] at e; cases e
    | some d0 =>
      rw [hd] at e
      cases e
      have hl : i < vs.length := by rw [h.rd.length]; exact (List.getElem?_eq_some_iff.mp hd).1
      refine ⟨⟨hl, vs, h.its W1 g k, rfl⟩, fun x H' y => ?_⟩
      obtain ⟨T, x, rfl, hT, rfl, hx⟩ := y
      have r := idx_inj h g k hd hx
      exact ⟨W1.lay T (.tup [.int (i : Nat), x]), rfl, Go.lay k hT, k.lay hT, rfl, .tup (.of upd_same) (.cons (.int _) (.cons (r.mono (same_new (k.noF hT)) fun _ _ z => z) .nil))⟩
  stop := fun i W1 g k e => by
    rw [enL_get, Nat.zero_add] at e
    refine ⟨?_, vs, h.its W1 g k, rfl⟩
    rw [h.rd.length]
    cases hd : ds[i]? with
    | none => exact List.getElem?_eq_none_iff.mp hd
    | some d0 => rw [hd] at e; cases e
@[simp] def wEnum (w : EW M) : IW M := fun ρ g q => w ρ g fun d g' => ∃ ds, itemsOf d = some ds ∧ q (enL 0 ds) g'
theorem di_enum {tg : Expr} (hm : C.X.mg "enumerate" = none) (he : DE C e we) (hg : Gl C.X "enumerate" := by rfl) (hs : starEach [e] C.X.env = [(false, eval e C.X.env)] := by rfl) (hs2 : starEach [e] C.X.env = (false, eval e C.X.env) :: starEach [] C.X.env := by rfl) :
    DI C tg (.Call (.Name "enumerate" p) [e] [] pos) (wEnum we) := ⟨fun σ ρ W R q S hR hw => iOf_of (pi_en hg hm (pa_cons pe_tOf pa_nil hs2) hs) (he.run σ ρ W _ _ S (fun v d W1 g1 k1 r1 q1 => by
  obtain ⟨ds, hd, q1⟩ := q1
  obtain ⟨S', vs, rfl, sq⟩ := sqd_of k1 r1 hd
  exact ⟨S', vs, rfl, sq.its W1 (Gs.refl _) k1, hR _ _ W1 g1 k1 (wk_en k1 sq) q1⟩) hw)⟩
variable {a b : Expr} {wa wb : EW M} {p2 pos2 : Pos}
end
end DL
set_option Elab.async false
set_option linter.all false
set_option maxRecDepth 100000
set_option maxHeartbeats 1000000
namespace DL
open PySem PySem.Spec PyProof.Rows L2
section
variable {X : Cx} {pins : List (Addr × Obj)} {σ : L2.St}
/-- an untracked list S is tracked at last -/
theorem track {H : Hp} {s : Shared} {S : Addr} {vs : List V} {us : List Value} {c : Nat} (I : Inv X pins σ H s) (hf : FpOk X pins H S) (hz : vs.length ≤ sizeLine) (r : Vals vs us) (hS : s.heap.get? S = some { cls := .type "list", dict := none, data := .seq us.toArray c, slots := #[] }) :
    Inv X pins σ (upd H S (.lst vs)) s := by
  have hn := hf.1
  refine I.step (g' := s.gens) (d' := s.drawn) (t' := s.toks) (h' := s.heap) (ch := [S]) (fun b hb => by rw [List.mem_singleton.mp hb]; exact ⟨hf.2.2.2.1, hf.2.1, hf.2.2.2.2.1, hf.2.2.2.2.2⟩) (fun b o _ _ _ e _ => e) (fun b o _ _ _ e _ => ⟨o.slots, e⟩)
    (fun b o hb e n => ?_) (fun b o _ e => ⟨o, e⟩) (fun b xs e => ?_) (fun b o u e => ?_) (fun b ps e => ⟨#[], ?_⟩) (fun m hm => hm) (fun b u e => ?_) I.bare
  · rw [upd_ne (fun z => hb (by simp [z]))]; exact n
  · rw [upd_ne (ne_of_none e hn)]; exact e
  · rw [upd_ne (ne_of_none e hn)]; exact e
  · rw [upd_ne (ne_of_none e hn), e]; simp
  · by_cases hb : b = S
    · subst hb
      rw [upd_same] at e
      cases e
      exact ⟨hz, us, c, r, hS⟩
    · rw [upd_ne hb] at e
      exact (I.hok b u e).stay (fun c v hc q => q) (fun c q => by rw [upd_ne (ne_of_none q hn)]; exact q) fun c xs q => by rw [upd_ne (ne_of_none q hn)]; exact q
end
def PullE (X : Cx) (pins : List (Addr × Obj)) (σ : L2.St) (R : It → Hp → Prop) (v : Value) (s2 : Shared) : Prop :=
  ∃ (T : String) (it : Addr) (fp : List Addr) (tn : Nat → Heap → Prop) (J : It) (H' : Hp), v = .ref it ∧ Inv X pins σ H' s2 ∧ Pull X.prog X.w X.K J fp it tn ∧ tn 0 s2.heap ∧ (∀ b ∈ fp, FpOk X pins H' b) ∧ R J H' ∧
    (∀ (A : Around) (i : Nat) (s : Shared) (Q : Value → Shared → Prop) (E : Value → Shared → Prop), tn i s.heap → Q (.ref it) s → wpAny (model X.prog X.w) A (pyIter (.ref it)) Q E s) ∧ (∀ i (s : Shared), tn i s.heap → s.TypeIs (.ref it) T) ∧
    (Value.type T == Value.type "list") = false ∧ (Value.type T == Value.type "tuple") = false ∧ typeLookup (.type T) "__len__" = pure none ∧ typeLookup (.type T) "__length_hint__" = pure none
structure PJ (X : Cx) (iter : Expr) (wi : TI) : Prop where
  run : ∀ (pins : List (Addr × Obj)) (s : Shared) (σ : L2.St) (H : Hp) (R : It → Hp → Prop), Inv X pins σ H s → wi σ H R → wpAny (model X.prog X.w) X.A (eval iter X.env) (PullE X pins σ R) X.xe s
section
variable {M : Ghost} {C : Ct M} {W W1 W2 W' : Wd M} {σ : L2.St} {ρ : DEnv} {e : Expr} {we : EW M} {pos p : Pos}
variable {a b : Expr} {wa wb : EW M} {p2 pos2 : Pos}
end
end DL
set_option Elab.async false
set_option linter.all false
set_option maxRecDepth 100000
set_option maxHeartbeats 1000000
namespace DL
open PySem L2 StX
section
variable {M : Ghost} {C : Ct M} {W W1 W2 W' : Wd M} {σ : L2.St} {ρ : DEnv} {e : Expr} {es : List Expr} {we : EW M} {pos p : Pos} {wa : AW M}

def tyN : D → Option String
  | .non => some "NoneType"
  | .bl _ => some "bool"
  | .int _ => some "int"
  | .str _ => some "str"
  | .lst _ => some "list"
  | .tup _ => some "tuple"
  | .dic _ => some "dict"
  | .ob _ => none
  | .exn _ _ _ => none
  | .tx _ => none
  | .cl _ => none
def isTyp (t T : String) : Bool := t == T || (t == "bool" && T == "int")
/-- the answers of isinstance for the class T -/
structure KitTab (K : PySem.W.Frag) (T : String) : Prop where
  ok : ∀ t ∈ ["NoneType", "bool", "int", "str", "list", "tuple", "dict"], PySem.W.kitOne K (.type t) (.type T) = some (isTyp t T)
theorem tyN_mem {d : D} {t : String} (h : tyN d = some t) : t ∈ ["NoneType", "bool", "int", "str", "list", "tuple", "dict"] := by
  cases d <;> cases h <;> decide
theorem tyx_of {K : PySem.W.Frag} {v : V} {d : D} {t : String} (k : Wok K W) (r : RdP K W v d) (h : tyN d = some t) : TyX K W.H v (.type t) := by
  rcases r with r | ⟨p, vs, es, rfl, rfl, hp, np, ra⟩
  · cases r with
    | non => cases h; exact .base .non
    | bl b => cases h; exact .base (.bl b)
    | int i => cases h; exact .base (.int i)
    | str z x hz => cases h; exact .base (.str z)
    | lst hq r => cases h; exact .base (.lst (k.sub _ _ hq))
    | tup hq r =>
      cases h
      rcases hq with (hq | ⟨o, hq⟩) | ⟨o, its, n, hq, hc, _⟩
      · exact .base (.tup (k.sub _ _ hq))
      · exact .fTuple (k.sub _ _ hq)
      · exact .kTuple hq hc
    | dic hq r => cases h; exact .base (.dK (k.sub _ _ hq))
    | ob hq => cases h
    | exn0 => cases h
    | exn => cases h
    | tx => cases h
    | cl => cases h
  · cases h
    exact .base (.lst hp)
def isiD (T : String) (d : D) (q : D → Prop) : Prop := ∃ t, tyN d = some t ∧ q (.bl (isTyp t T))
@[simp] def wIsi (T : String) (we : EW M) : EW M := fun ρ g q => we ρ g fun d g' => isiD T d fun r => q r g'
theorem de_isi {x : Str} {T : String} {pT : Pos} (kt : KitTab C.X.K T) (he : DP C e we) (hm : C.X.mg "isinstance" = none) (hmT : C.X.mg x = none) (hv : bootBuiltins x = some (.type T)) (hnT : x ≠ "__name__" := by decide) (hdT : (x == ("__debug__" : Str)) = false := by decide) (hg : Gl C.X "isinstance" := by rfl) (hgT : Gl C.X x := by rfl)
    (h1 : starEach [e, .Name x pT] C.X.env = (false, eval e C.X.env) :: starEach [.Name x pT] C.X.env := by rfl) (h2 : starEach [.Name x pT] C.X.env = (false, eval (.Name x pT) C.X.env) :: starEach [] C.X.env := by rfl) (hpl : (backTo pos (starEach [.Name x pT] C.X.env)).any (·.1) = false := by rfl) :
    DE C (.Call (.Name "isinstance" p) [e, .Name x pT] [] pos) (wIsi T we) := ⟨fun σ ρ W Q q S hQ hw =>
  tOf_of (pe_callB call_isi hg hm PyProof.Rows.boot_isinstance (pa_cons pe_tOf (pa_cons (pe_bltn (v := .ty T) hgT hmT hv rfl hnT hdT) pa_nil h2) h1) (by decide) (by decide) h1 hpl)
    (he.run σ ρ W _ _ S (fun v d W1 g1 k1 r1 q1 => by
      obtain ⟨t, ht, q1⟩ := q1
      exact ⟨v, .ty T, .type t, .type T, isTyp t T, rfl, .ty T, tyx_of k1 r1 ht, kt.ok t (tyN_mem ht), hQ _ _ W1 g1 k1 (.bl _) q1⟩) hw)⟩
theorem kit_str {K : PySem.W.Frag} : KitTab K "str" := ⟨fun t h => by
  simp only [List.mem_cons, List.not_mem_nil, or_false] at h
  rcases h with rfl | rfl | rfl | rfl | rfl | rfl | rfl <;> rfl⟩
def cInt : List D → (D → Prop) → Prop
  | [.int i], q => q (.int i)
  | [.bl b], q => q (.int (if b then 1 else 0))
  | [.str x], q => ∃ n, PySem.intText? (S x) = some n ∧ x.length ≤ 640 ∧ q (.int n)
  | _, _ => False
theorem calld_int : CallD C (.type "int") cInt := by
  refine ⟨_, call_int1.or call_int_str, fun W vs ds Q q k r hQ h => ?_⟩
  obtain ⟨d, rfl⟩ := one_of h (fun _ h => h) (fun a _ _ _ h => by cases a <;> exact h)
  obtain ⟨v, rfl, r0⟩ := pair1 r
  cases d with
  | int i => exact .inl (.inl ⟨i, by rw [r0.int_inv], hQ _ _ W (Go.refl W) k rfl (.int _) h⟩)
  | bl b => exact .inl (.inr ⟨b, by rw [r0.bl_inv], hQ _ _ W (Go.refl W) k rfl (.int _) h⟩)
  | str x =>
    obtain ⟨z, rfl, rfl⟩ := r0.str_inv
    obtain ⟨n, hn, hl, h⟩ := h
    rw [S_of] at hn
    exact .inr ⟨z, n, rfl, hn, by rw [str_len]; exact hl, hQ _ _ W (Go.refl W) k rfl (.int _) h⟩
  | _ => exact h.elim
/-- the signs of a number -/
def dec (i : Int) : List Nat := (Str.ofString (toString i)).cps.toList
def cStr : List D → (D → Prop) → Prop
  | [.int i], q => i.natAbs.log2 < 1920 ∧ q (.str (dec i))
  | _, _ => False
theorem calld_str : CallD C (.type "str") cStr := by
  refine ⟨_, call_str_int, fun W vs ds Q q k r hQ h => ?_⟩
  obtain ⟨d, rfl⟩ := one_of h (fun _ h => h) (fun a _ _ _ h => by cases a <;> exact h)
  obtain ⟨v, rfl, r0⟩ := pair1 r
  cases d with
  | int i => exact ⟨i, by rw [r0.int_inv], h.1, hQ _ _ W (Go.refl W) k rfl (rp_strS _ rfl) h.2⟩
  | _ => exact h.elim
def cAll (ds : List D) (q : D → Prop) : Prop := ∃ bs : List Bool, ds = [.lst (bs.map D.bl)] ∧ q (.bl (bs.all id))
theorem calld_all (hc : C.X.calm = true) : CallD C (.builtin "all") cAll := by
  refine ⟨_, cr_all hc, fun W vs ds Q q k r hQ h => ?_⟩
  obtain ⟨ns, rfl, h⟩ := h
  obtain ⟨v, rfl, r0⟩ := pair1 r
  obtain ⟨p, vs, rfl, hp, np, ra⟩ := r0.lst_inv k
  obtain rfl := ra.bls
  exact ⟨p, ns, rfl, .of hp, hQ _ _ W (Go.refl W) k rfl (.bl _) h⟩
def flatD : D → Bool
  | .non => true
  | .bl _ => true
  | .int _ => true
  | .str _ => true
  | _ => false
def eqF : D → D → Bool
  | .non, .non => true
  | .bl a, .bl b => a == b
  | .bl a, .int b => (if a then 1 else 0) == b
  | .int a, .bl b => a == (if b then 1 else 0)
  | .int a, .int b => a == b
  | .str a, .str b => a == b
  | _, _ => false
theorem str_beq (z z2 : Str) : (z == z2) = (z.cps.toList == z2.cps.toList) := by
  have : (z == z2) = decide (z = z2) := by
    cases h : decide (z = z2) with
    | true => exact (by simpa using h)
    | false => exact (by simpa using h)
  rw [this, Bool.beq_eq_decide_eq]
  refine decide_eq_decide.mpr ⟨fun h => by rw [h], fun h => ?_⟩
  obtain ⟨a⟩ := z
  obtain ⟨b⟩ := z2
  rw [show a = b from Array.toList_inj.mp h]
theorem rp_flat {K : PySem.W.Frag} {F : Hp} {R : List Addr} {v : V} {d : D} (r : Rp K F R v d) : flatV v = flatD d := by cases r <;> rfl
theorem rp_eqF {K : PySem.W.Frag} {F : Hp} {R : List Addr} {v u : V} {d e : D} (r : Rp K F R v d) (s : Rp K F R u e) : eqV v u = eqF d e := by
  cases r <;> cases s <;> first | rfl | skip
  rename_i z x hz z2 x2 hz2
  subst hz hz2
  exact str_beq z z2
theorem rpa_flat {K : PySem.W.Frag} {F : Hp} {R : List Addr} : ∀ {vs : List V} {ds : List D}, RpA K F R vs ds → vs.all flatV = ds.all flatD
  | _, _, .nil => rfl
  | _, _, .cons r t => by rw [List.all_cons, List.all_cons, rp_flat r, rpa_flat t]
theorem rpa_in {K : PySem.W.Frag} {F : Hp} {R : List Addr} {x : V} {d : D} (r : Rp K F R x d) : ∀ {vs : List V} {ds : List D}, RpA K F R vs ds → inV x vs = ds.any fun y => eqF y d
  | _, _, .nil => rfl
  | _, _, .cons s t => by
    rw [List.any_cons, ← rpa_in r t, ← rp_eqF s r]
    rfl
def oInB (f : Bool → Bool) : D → D → (D → Prop) → Prop
  | .str [c], .str z, q => q (.bl (f (decide (c ∈ z))))
  | d, .lst ds, q => flatD d = true ∧ ds.all flatD = true ∧ q (.bl (f (ds.any fun y => eqF y d)))
  | d, .tup ds, q => flatD d = true ∧ ds.all flatD = true ∧ q (.bl (f (ds.any fun y => eqF y d)))
  | _, _, _ => False
def oIn := oInB id
def oNotIn := oInB not
theorem oInB_inv {f : Bool → Bool} {d e : D} {q : D → Prop} (h : oInB f d e q) : (∃ c z, d = .str [c] ∧ e = .str z ∧ q (.bl (f (decide (c ∈ z))))) ∨ (∃ ds, (e = .lst ds ∨ e = .tup ds) ∧ flatD d = true ∧ ds.all flatD = true ∧ q (.bl (f (ds.any fun y => eqF y d)))) := by
  unfold oInB at h
  split at h
  · exact .inl ⟨_, _, rfl, rfl, h⟩
  · exact .inr ⟨_, .inl rfl, h⟩
  · exact .inr ⟨_, .inr rfl, h⟩
  · exact h.elim
theorem flat_frozen {K : PySem.W.Frag} {v : V} {d : D} (r : RdP K W v d) (h : flatD d = true) : Rp K W.F W.R v d := by
  rcases r with r | ⟨_, _, _, _, rfl, _⟩
  · exact r
  · cases h
theorem opd_inB {f : Bool → Bool} {neg : Bool} {g : Value → Value → Sem Value} (hf : ∀ b, f b = if neg then !b else b) (h1 : OpR C.X g (rIn C.X.K neg)) (h2 : OpR C.X g (fun x y H Q => ∃ (c : Nat) (z : Str), x = .str ⟨#[c]⟩ ∧ y = .str z ∧ Q (.bl (f (decide (c ∈ z.cps.toList)))) H)) : OpD C g (oInB f) := by
  refine ⟨_, h1.or h2, fun W x y d e Q q k r1 r2 hQ h => ?_⟩
  rcases oInB_inv h with ⟨c, z, rfl, rfl, h⟩ | ⟨ds, he, f1, f2, h⟩
  · obtain ⟨z1, rfl, e1⟩ := r1.str_inv
    obtain ⟨z2, rfl, rfl⟩ := r2.str_inv
    have : z1 = ⟨#[c]⟩ := by
      obtain ⟨a⟩ := z1
      have : a.toList = [c] := e1
      rw [show a = #[c] from Array.toList_inj.mp this]
    subst this
    exact .inr ⟨c, z2, rfl, rfl, hQ _ _ W (Go.refl W) k rfl (.bl _) h⟩
  · have r0 := flat_frozen r1 f1
    have fr : ∃ (a : Addr) (vs : List V), y = .ref a ∧ (SqL C.X.K W.H a vs ∨ SqT C.X.K W.H a vs) ∧ RpA C.X.K W.F W.R vs ds := by
      rcases he with rfl | rfl
      · obtain ⟨a, vs, rfl, hp, np, ra⟩ := r2.lst_inv k
        exact ⟨a, vs, rfl, .inl (.of hp), ra⟩
      · obtain ⟨a, vs, rfl, hp, ra⟩ := r2.tup_inv
        exact ⟨a, vs, rfl, .inr (same_tup k.sub hp), ra⟩
    obtain ⟨a, vs, rfl, hq, ra⟩ := fr
    refine .inl ⟨a, vs, rfl, hq, by rw [rp_flat r0]; exact f1, by rw [rpa_flat ra]; exact f2, hQ _ _ W (Go.refl W) k rfl (.bl _) ?_⟩
    rw [rpa_in r0 ra, ← hf]
    exact h
theorem opd_in : OpD C (compareOp .In) oIn := opd_inB (neg := false) (fun b => rfl) op_in_seq op_in_sign
variable {a b c : Expr} {wx wy wz : EW M} {r r' : D → D → (D → Prop) → Prop}
@[simp] def wChain (r r' : D → D → (D → Prop) → Prop) (wx wy wz : EW M) : EW M := fun ρ g q => wx ρ g fun x g1 => wy ρ g1 fun y g2 => r x y fun t => isB t fun k => if k = true then wz ρ g2 fun z g3 => r' y z fun d => q d g3 else q (.bl false) g2
theorem chain_run {op op' : CmpOp} {r1 r2 : R2} (h1 : ∀ (W : Wd M) (x y : V) (d e : D) (Q : VK) (q : D → Prop), Wok C.X.K W → RdP C.X.K W x d → RdP C.X.K W y e → (∀ v d' W', Go W W' → Wok C.X.K W' → W'.g = W.g → Rp C.X.K W'.F W'.R v d' → q d' → Q v W'.H) → r d e q → r1 x y W.H Q)
    (h2 : ∀ (W : Wd M) (x y : V) (d e : D) (Q : VK) (q : D → Prop), Wok C.X.K W → RdP C.X.K W x d → RdP C.X.K W y e → (∀ v d' W', Go W W' → Wok C.X.K W' → W'.g = W.g → Rp C.X.K W'.F W'.R v d' → q d' → Q v W'.H) → r' d e q → r2 x y W.H Q)
    (ha : DP C a wx) (hb : DP C b wy) (hc : DP C c wz) {Q : VK} {q : D → M.G → Prop} (S : Sat C σ ρ W) (hQ : ∀ v d W', Go W W' → Wok C.X.K W' → Rp C.X.K W'.F W'.R v d → q d W'.g → Q v W'.H) (hw : wChain r r' wx wy wz ρ W.g q) :
    tChain r1 r2 (tOf C.X a) (tOf C.X b) (tOf C.X c) σ W.H Q :=
  ha.run σ ρ W _ _ S (fun v d W1 g1 k1 ra q1 => hb.run σ ρ W1 _ _ (S.step g1 k1) (fun u e W2 g2 k2 rb q2 => h1 W2 v u d e _ _ k2 (ra.step g2) rb (fun t dt W3 g3 k3 eg rt q3 => by
    obtain ⟨k, rfl, q3⟩ := isB_elim q3
    refine ⟨k, rt.bl_inv, ?_⟩
    have eg' : W2.g = W3.g := eg.symm
    cases k with
    | true =>
      replace q3 : wz ρ W2.g fun z g3 => r' e z fun d => q d g3 := q3
      rw [eg'] at q3
      refine iteT ?_
      exact hc.run σ ρ W3 _ _ ((S.step (g1.trans g2) k2).step g3 k3) (fun z f W4 g4 k4 rc q4 => h2 W4 u z e f _ _ k4 ((rb.step g3).step g4) rc (fun v' d' W5 g5 k5 eg5 r5 q5 => hQ v' d' W5 ((((g1.trans g2).trans g3).trans g4).trans g5) k5 r5 (eg5 ▸ q5)) q4) q3
    | false =>
      replace q3 : q (.bl false) W2.g := q3
      rw [eg'] at q3
      refine iteF ?_
      exact hQ _ _ W3 ((g1.trans g2).trans g3) k3 (.bl _) q3) q2) q1) hw
theorem dt_chain {op op' : CmpOp} (ho : OpD C (compareOp op) r) (ho' : OpD C (compareOp op') r') (ha : DP C a wx) (hb : DP C b wy) (hc : DP C c wz) (hm : lastMarks [op, op'] [b, c] = false := by with_unfolding_all rfl) :
    DT C (.Compare a [op, op'] [b, c] pos) (wB (wChain r r' wx wy wz)) := ⟨fun σ ρ W Q q S hQ hw => by
  obtain ⟨rr, h1, h2⟩ := ho.run
  obtain ⟨rr', h1', h2'⟩ := ho'.run
  exact ttOf_of (pt_chain h1 h1' pe_tOf pe_tOf pe_tOf hm) (chain_run (op := op) (op' := op') h2 h2' ha hb hc S (fun v d W' g k rv q1 => by
    obtain ⟨t, rfl, q2⟩ := isB_elim q1
    exact ⟨t, rv.bl_inv, hQ t W' g k q2⟩) hw)⟩

variable {e2 : Expr} {apos cpos p1 : Pos}
theorem de_glob {x : Str} {v : V} {d : D} {u : Value} (hm : C.X.mg x = some u) (rv : RelV v u) (r : ∀ F R, Rp C.X.K F R v d) (hg : Gl C.X x := by rfl) (hd : (x == ("__debug__" : Str)) = false := by decide) : DE C (.Name x pos) (wC d) := de_c (pe_glob hg hm rv hd) r
end
end DL
set_option Elab.async false
set_option linter.all false
set_option maxRecDepth 100000
set_option maxHeartbeats 1000000
namespace DL
open PySem PySem.Spec PyProof.Rows L2
section
variable {prog : Program} {w : World} {A : Around} {E : Value → Shared → Prop} {s : Shared}
end
section
variable {M : Ghost} {C : Ct M} {W W1 W2 W' : Wd M} {σ : L2.St} {ρ : DEnv} {e : Expr} {es : List Expr} {we : EW M} {pos p : Pos} {wa : AW M}
def oRev (d : D) (q : D → Prop) : Prop := match d with
  | .lst ds => q (.lst ds.reverse)
  | .tup ds => q (.tup ds.reverse)
  | _ => False
def oRevN (d : D) (q : List D → Prop) : Prop := match d with
  | .lst ds => q ds.reverse
  | _ => False
variable {k1 : Nat} {p1 p2 p3 : Pos}
def GlI (o : Option Value) (i : Int) : Prop := ∃ t, o = some (.int i t)
def GlS (o : Option Value) (x : List Nat) : Prop := ∃ z t, o = some (.str z t) ∧ z.cps.toList = x
theorem de_glI {x : Str} {i : Int} (h : GlI (C.X.mg x) i) (hg : Gl C.X x := by rfl) (hd : (x == ("__debug__" : Str)) = false := by decide) : DE C (.Name x pos) (wC (.int i)) := by
  obtain ⟨t, h⟩ := h
  exact de_glob h (v := .int i) ⟨t, rfl⟩ (fun _ _ => .int i) hg hd
theorem de_glS {x : Str} {y : List Nat} (h : GlS (C.X.mg x) y) (hg : Gl C.X x := by rfl) (hd : (x == ("__debug__" : Str)) = false := by decide) : DE C (.Name x pos) (wC (.str y)) := by
  obtain ⟨z, t, h, e⟩ := h
  exact de_glob h (v := .str z) ⟨t, rfl⟩ (fun _ _ => .str z y e) hg hd

variable {a b : Expr} {wx wy : EW M} {p4 pos2 : Pos}
end
section
variable {M : Ghost} {C : Ct M} {W W1 W2 W' : Wd M} {σ : L2.St} {ρ : DEnv}
variable {pos : Pos}
end
end DL
set_option Elab.async false
set_option linter.all false
set_option maxRecDepth 100000
set_option maxHeartbeats 1000000
namespace DL
open PySem L2
section
variable {K : PySem.W.Frag}
/-- the class that a name of the text tells -/
inductive CN (K : PySem.W.Frag) : Str → Value → Prop
  | own {x : Str} {C : Addr} : PySem.W.nsIn K mainGlobals x = some (some (.ref C)) → CN K x (.ref C)
  | ty {x : Str} {T : String} : PySem.W.nsIn K mainGlobals x = some none → bootBuiltins x = some (.type T) → x ≠ "__name__" → CN K x (.type T)
/-- n is a class of exceptions of the text; it is | is not one of m -/
structure SubT (K : PySem.W.Frag) (n m : Str) (b : Bool) : Prop where
  ex : ∃ (C : Addr) (c : Value), PySem.W.nsIn K mainGlobals n = some (some (.ref C)) ∧ CN K m c ∧ PySem.W.exmOne K (.ref C) c = some b ∧ PySem.W.kitOne K (.ref C) c = some b ∧ ExcC K C
structure SubA (K : PySem.W.Frag) (n : Str) (ms : List Str) (b : Bool) : Prop where
  ex : ∃ (C : Addr) (cs : List Value), PySem.W.nsIn K mainGlobals n = some (some (.ref C)) ∧ Paired (CN K) ms cs ∧ PySem.W.exmAny K (.ref C) cs = some b ∧ PySem.W.kitAny K (.ref C) cs = some b ∧ ExcC K C
theorem subA_one {n m : Str} {b : Bool} (h : SubT K n m b) : SubA K n [m] b := by
  obtain ⟨C, c, h1, h2, h3, h4, h5⟩ := h.ex
  refine ⟨C, [c], h1, .cons h2 .nil, ?_, ?_, h5⟩
  · unfold PySem.W.exmAny
    rw [h3]
    simp [PySem.W.exmAny]
  · unfold PySem.W.kitAny
    rw [h4]
    cases b <;> rfl
theorem subA_cons {n m : Str} {ms : List Str} {b d : Bool} (h : SubT K n m b) (r : SubA K n ms d) : SubA K n (m :: ms) (b || d) := by
  obtain ⟨C, c, h1, h2, h3, h4, h5⟩ := h.ex
  obtain ⟨C', cs, g1, g2, g3, g4, g5⟩ := r.ex
  rw [h1] at g1
  cases g1
  refine ⟨C, c :: cs, h1, .cons h2 g2, ?_, ?_, h5⟩
  · unfold PySem.W.exmAny
    rw [h3, g3]
  · unfold PySem.W.kitAny
    rw [h4]
    cases b with
    | true => rfl
    | false => exact g4
/-- a class of exceptions whose field may be read -/
structure FldT (K : PySem.W.Frag) (n f : Str) : Prop where
  ex : ∃ C : Addr, PySem.W.nsIn K mainGlobals n = some (some (.ref C)) ∧ XfC K C ∧ PySem.W.findIn K (.ref C) f = some none
theorem SubT.mk' {n m : Str} {b : Bool} {C : Addr} {c : Value} (h1 : PySem.W.nsIn K mainGlobals n = some (some (.ref C))) (h2 : CN K m c) (h3 : PySem.W.exmOne K (.ref C) c = some b) (h4 : PySem.W.kitOne K (.ref C) c = some b) (h5 : ExcC K C) : SubT K n m b := ⟨C, c, h1, h2, h3, h4, h5⟩
end
section
variable {X : Cx} {pos : Pos}
/-- a class as a value -/
def clsV : Value → V
  | .ref C => .ref C
  | .type T => .ty T
  | _ => .non
theorem CN.rel {K : PySem.W.Frag} {x : Str} {c : Value} (h : CN K x c) : RelV (clsV c) c ∧ ClsV (clsV c) c := by
  cases h with
  | own => exact ⟨rfl, .own _⟩
  | ty => exact ⟨rfl, .ty _⟩
theorem CN.names {x : Str} {c : Value} (h : CN X.K x c) {pins : List (Addr × Obj)} {σ : L2.St} {H : Hp} {s : Shared} (I : Inv X pins σ H s) : X.mg x = some c ∨ (X.mg x = none ∧ bootBuiltins x = some c ∧ x ≠ "__name__") := by
  cases h with
  | own e => exact .inl (PySem.W.mg_of I.mod.kin I.mod.glob e)
  | ty e b n => exact .inr ⟨PySem.W.mg_none_of I.mod.kin I.mod.glob e, b, n⟩
theorem ld_cls {x : Str} {c : Value} (h : CN X.K x c) (hg : Gl X x) (hd : (x == ("__debug__" : Str)) = false) {E : Value → Shared → Prop} {pins : List (Addr × Obj)} {s : Shared} {σ : L2.St} {H : Hp} {Q : Value → Shared → Prop} (I : Inv X pins σ H s) (q : Q c s) :
    wpAny (model X.prog X.w) X.A (eval (.Name x pos) X.env) Q E s := by
  rcases h.names I with e | ⟨e, b, n⟩
  · exact ld_glob I hg e q hd
  · exact ld_blt I hg e b q n hd
theorem pe_cls {x : Str} {c : Value} (h : CN X.K x c) (hg : Gl X x) (hd : (x == ("__debug__" : Str)) = false := by decide) : PE X (.Name x pos) (tC (clsV c)) :=
  ⟨fun _ _ _ H _ I q => ld_cls h hg hd I ⟨_, H, I, h.rel.1, q⟩⟩
/-- names of classes, one after the other -/
inductive ClsEs (X : Cx) : List Str → List Expr → Prop
  | nil : ClsEs X [] []
  | cons {x : Str} {p : Pos} {ms : List Str} {es : List Expr} (hg : Gl X x) (hd : (x == ("__debug__" : Str)) = false) (hs : starEach (.Name x p :: es) X.env = (false, eval (.Name x p) X.env) :: starEach es X.env) (r : ClsEs X ms es) : ClsEs X (x :: ms) (.Name x p :: es)
theorem clsEs_cons {x : Str} {p : Pos} {ms : List Str} {es : List Expr} (r : ClsEs X ms es) (hg : Gl X x := by rfl) (hd : (x == ("__debug__" : Str)) = false := by decide) (hs : starEach (.Name x p :: es) X.env = (false, eval (.Name x p) X.env) :: starEach es X.env := by rfl) : ClsEs X (x :: ms) (.Name x p :: es) := .cons hg hd hs r
theorem pa_cls : ∀ {ms : List Str} {es : List Expr} {cs : List Value}, ClsEs X ms es → Paired (CN X.K) ms cs → PA X es (fun _ H Q => Q (cs.map clsV) H)
  | _, _, _, .nil, .nil => pa_nil
  | _, _, _, .cons hg hd hs r, .cons h t => ⟨fun pos pins s σ H Q I q => (pa_cons (pe_cls h hg hd) (pa_cls r t) hs).run pos pins s σ H Q I q⟩

def rIsX (K : PySem.W.Frag) (ok : Addr → List V → Hp → Bool → Prop) : List V → Hp → VK → Prop := fun xs H Q => ∃ (a C : Addr) (c : V) (b : Bool) (oe : Obj) (d : Option Addr), xs = [.ref a, c] ∧ H a = some (.frz oe exU) ∧ Zc (.ref C) d oe ∧ (∃ fv, oe.data = .fields fv) ∧
  (∀ dd, d = some dd → ∃ fs, H dd = some (.xd fs)) ∧ ExcC K C ∧ ok C [c] H b ∧ Q (.bl b) H
theorem inst_exn {H : Hp} {P : Program} {w : World} {h : Heap} {a C : Addr} {oe : Obj} {d : Option Addr} (hok : HOk P w H h) (ha : H a = some (.frz oe exU)) (hz : Zc (.ref C) d oe) (hf : ∃ fv, oe.data = .fields fv)
    (hd : ∀ dd, d = some dd → ∃ fs, H dd = some (.xd fs)) : ∃ od, PySem.W.InstAt h a oe C od := by
  obtain ⟨fv, hf⟩ := hf
  have hget : h.get? a = some oe := (show h.get? a = some oe ∧ _ from hok a _ ha).1
  have nc : PySem.W.notCls oe = true := by unfold PySem.W.notCls; rw [hf] <;> rfl
  cases d with
  | none => exact ⟨none, hget, hz.1, nc, by rw [hz.2]; trivial⟩
  | some dd =>
    obtain ⟨fs, e⟩ := hd dd rfl
    obtain ⟨mA, ⟨od, _, _, ho, _⟩, _⟩ := (show ObjOk P w H h dd (.xd fs) from hok dd _ e)
    exact ⟨some od, hget, hz.1, nc, by rw [hz.2]; exact ho⟩
theorem kitx_of_exc {K : PySem.W.Frag} {C a : Addr} {oe : Obj} {od : Option Obj} (T : ExcC K C) : PySem.W.KitX K (.ref a) (.ref C) (fun h => PySem.W.InstAt h a oe C od) := by
  obtain ⟨cd, hc, _⟩ := PySem.W.any_some T.hd
  exact PySem.W.kitx_exc (by rw [hc]; rfl) T.hg T.hk T.hs T.ha T.hn T.ht T.hm
theorem call_isX : CallR X (.builtin "isinstance") (rIsX X.K fun C cs _ b => ∃ cv, ClsV (cs.headD .non) cv ∧ PySem.W.kitOne X.K (.ref C) cv = some b) := by
  intro pins s σ H xs us Q I r h
  obtain ⟨a, C, c, b, oe, d, rfl, h1, h2, h3, h4, h5, ⟨cv, h6, h7⟩, q⟩ := h
  obtain ⟨u1, u2, rfl, r1, r2⟩ := vals2 r
  have e2 := ClsV.eq (c := c) h6 r2
  subst e2
  cases (show u1 = Value.ref a from r1)
  obtain ⟨od, J⟩ := inst_exn I.hok h1 h2 h3 h4
  exact PySem.W.kia_one (kitx_of_exc h5) I.kIn J h7 (fun z => nomatch z) fun tk => ⟨.bl b, H, I.tok tk, rfl, q⟩
theorem call_isXT : CallR X (.builtin "isinstance") (rIsX X.K fun C cs H b => ∃ tp cs' us, cs = [.ref tp] ∧ H tp = some (.tup cs') ∧ Paired ClsV cs' us ∧ PySem.W.kitAny X.K (.ref C) us = some b) := by
  intro pins s σ H xs us Q I r h
  obtain ⟨a, C, c, b, oe, d, rfl, h1, h2, h3, h4, h5, ⟨tp, cs, ws, e, hT, k, h7⟩, q⟩ := h
  cases e
  obtain ⟨u1, u2, rfl, r1, r2⟩ := vals2 r
  cases (show u1 = Value.ref a from r1)
  cases (show u2 = Value.ref tp from r2)
  obtain ⟨od, J⟩ := inst_exn I.hok h1 h2 h3 h4
  obtain ⟨_, its, rv, o, g1, g2, n, g3⟩ := (show ObjOk X.prog X.w H s.heap tp (.tup cs) from I.hok tp _ hT)
  have e3 := ClsV.all k rv
  subst e3
  obtain ⟨oc, odd, dt, sl⟩ := o
  simp only at g2 g3
  subst g2 g3
  exact PySem.W.kia_tup (kitx_of_exc h5) I.kIn J g1 h7 (fun z => nomatch z) fun tk => ⟨.bl b, H, I.tok tk, rfl, q⟩
end
section
variable {M : Ghost} {C : Ct M} {W W1 W2 W' : Wd M} {σ : L2.St} {ρ : DEnv} {e : Expr} {es : List Expr} {we : EW M} {pos p : Pos} {wa : AW M}
theorem rdp_exn {K : PySem.W.Frag} {v : V} {cls : Str} {ns : List Str} {ds : List D} (k : Wok K W) (r : RdP K W v (.exn cls ns ds)) : ∃ (a Cc : Addr) (oe : Obj) (d : Option Addr), v = .ref a ∧ PySem.W.nsIn K mainGlobals cls = some (some (.ref Cc)) ∧ W.H a = some (.frz oe exU) ∧ Zc (.ref Cc) d oe ∧ (∃ fv, oe.data = .fields fv) ∧
    ((d = none ∧ ns = [] ∧ ds = []) ∨ ∃ dd vs, d = some dd ∧ W.H dd = some (.xd (ns.zip vs)) ∧ ns.length = vs.length ∧ RpA K W.F W.R vs ds) := by
  rcases r with r | ⟨_, _, _, _, z, _⟩
  · cases r with
    | exn0 h1 h2 h3 h4 => exact ⟨_, _, _, none, rfl, h1, k.sub _ _ h2, h3, h4, .inl ⟨rfl, rfl, rfl⟩⟩
    | exn h1 h2 h3 h4 h5 h6 q => exact ⟨_, _, _, _, rfl, h1, k.sub _ _ h2, h3, h4, .inr ⟨_, _, rfl, k.sub _ _ h5, h6, q⟩⟩
  · cases z
def isX (tab : List (Str × Bool)) (d : D) (q : D → Prop) : Prop := match d with
  | .exn cls _ _ => ∃ b, (cls, b) ∈ tab ∧ q (.bl b)
  | _ => False
@[simp] def wIsX (tab : List (Str × Bool)) (we : EW M) : EW M := fun ρ g q => we ρ g fun d g' => isX tab d fun r => q r g'
theorem de_isX {x : Str} {tab : List (Str × Bool)} {pT : Pos} (tb : ∀ p ∈ tab, SubT C.X.K p.1 x p.2) (t0 : tab ≠ []) (he : DP C e we) (hm : C.X.mg "isinstance" = none) (hg : Gl C.X "isinstance" := by rfl) (hgT : Gl C.X x := by rfl) (hdT : (x == ("__debug__" : Str)) = false := by decide)
    (h1 : starEach [e, .Name x pT] C.X.env = (false, eval e C.X.env) :: starEach [.Name x pT] C.X.env := by rfl) (h2 : starEach [.Name x pT] C.X.env = (false, eval (.Name x pT) C.X.env) :: starEach [] C.X.env := by rfl) (hpl : (backTo pos (starEach [.Name x pT] C.X.env)).any (·.1) = false := by rfl) :
    DE C (.Call (.Name "isinstance" p) [e, .Name x pT] [] pos) (wIsX tab we) := ⟨fun σ ρ W Q q S hQ hw pins s I => by
  -- the class is known as soon as the table has a row
  cases tab with
  | nil => exact absurd rfl t0
  | cons t1 tr =>
    obtain ⟨C0, c, _, hc, _⟩ := (tb t1 List.mem_cons_self).ex
    refine (tOf_of (pe_callB call_isX hg hm PyProof.Rows.boot_isinstance (pa_cons pe_tOf (pa_cons (pe_cls hc hgT hdT) pa_nil h2) h1) (by decide) (by decide) h1 hpl)
      (he.run σ ρ W _ _ S (fun v d W1 g1 k1 r1 q1 => ?_) hw)) pins s I
    cases d with
    | exn cls ns ds =>
      obtain ⟨b, hb, q1⟩ := q1
      obtain ⟨a, Cc, oe, dx, rfl, e1, e2, e3, e4, e5⟩ := rdp_exn k1 r1
      obtain ⟨C', c', f1, f2, f3, f4, f5⟩ := (tb _ hb).ex
      rw [e1] at f1
      cases f1
      have ec : c' = c := by
        cases hc <;> cases f2 <;> simp_all
      subst ec
      refine ⟨a, Cc, clsV c', b, oe, dx, rfl, e2, e3, e4, fun dd ed => ?_, f5, ⟨c', hc.rel.2, f4⟩, hQ _ _ W1 g1 k1 (.bl _) q1⟩
      rcases e5 with ⟨z, _⟩ | ⟨dd', vs, z, e6, _⟩
      · rw [z] at ed; cases ed
      · rw [z] at ed; cases ed; exact ⟨_, e6⟩
    | _ => exact q1.elim⟩
def CnEq (K : PySem.W.Frag) : Prop := ∀ x c c', CN K x c → CN K x c' → c = c'
theorem cn_eq {K : PySem.W.Frag} : CnEq K := fun x c c' h h' => by cases h <;> cases h' <;> simp_all
theorem cns_eq {K : PySem.W.Frag} : ∀ {ms : List Str} {cs cs' : List Value}, Paired (CN K) ms cs → Paired (CN K) ms cs' → cs = cs'
  | _, _, _, .nil, .nil => rfl
  | _, _, _, .cons a r, .cons b t => by rw [cn_eq _ _ _ a b, cns_eq r t]
theorem cns_cls {K : PySem.W.Frag} : ∀ {ms : List Str} {cs : List Value}, Paired (CN K) ms cs → Paired ClsV (cs.map clsV) cs
  | _, _, .nil => .nil
  | _, _, .cons a r => .cons a.rel.2 (cns_cls r)
theorem de_isXT {ms : List Str} {ts : List Expr} {tab : List (Str × Bool)} {kk : Nat} {pT : Pos} (tb : ∀ p ∈ tab, SubA C.X.K p.1 ms p.2) (t0 : tab ≠ []) (hl : ms.length ≤ 100) (he : DP C e we) (hm : C.X.mg "isinstance" = none) (hN : ClsEs C.X ms ts) (hg : Gl C.X "isinstance" := by rfl)
    (h1 : starEach [e, .Tuple ts kk pT] C.X.env = (false, eval e C.X.env) :: starEach [.Tuple ts kk pT] C.X.env := by rfl) (h2 : starEach [.Tuple ts kk pT] C.X.env = (false, eval (.Tuple ts kk pT) C.X.env) :: starEach [] C.X.env := by rfl) (hpl : (backTo pos (starEach [.Tuple ts kk pT] C.X.env)).any (·.1) = false := by rfl) :
    DE C (.Call (.Name "isinstance" p) [e, .Tuple ts kk pT] [] pos) (wIsX tab we) := ⟨fun σ ρ W Q q S hQ hw pins s I => by
  cases tab with
  | nil => exact absurd rfl t0
  | cons t1 tr =>
    obtain ⟨C0, cs, _, hc, _⟩ := (tb t1 List.mem_cons_self).ex
    refine (tOf_of (pe_callB call_isXT hg hm PyProof.Rows.boot_isinstance (pa_cons pe_tOf (pa_cons (pe_tup (pa_cls hN hc)) pa_nil h2) h1) (by decide) (by decide) h1 hpl)
      (he.run σ ρ W _ _ S (fun v d W1 g1 k1 r1 q1 => ?_) hw)) pins s I
    cases d with
    | exn cls ns ds =>
      obtain ⟨b, hb, q1⟩ := q1
      obtain ⟨a, Cc, oe, dx, rfl, e1, e2, e3, e4, e5⟩ := rdp_exn k1 r1
      obtain ⟨C', cs', f1, f2, f3, f4, f5⟩ := (tb _ hb).ex
      rw [e1] at f1
      cases f1
      have ec := cns_eq f2 hc
      subst ec
      refine ⟨by rw [List.length_map, ← f2.length]; rw [sizeLine_eq]; omega, fun tp ht => ?_⟩
      have ne : ∀ x, W1.H x ≠ none → x ≠ tp := fun x hx z => hx (by rw [z]; exact ht)
      refine ⟨a, Cc, .ref tp, b, oe, dx, rfl, by rw [upd_ne (ne a (by rw [e2]; simp))]; exact e2, e3, e4, fun dd ed => ?_, f5, ⟨tp, _, _, rfl, upd_same, cns_cls f2, f4⟩, hQ _ _ (W1.lay tp (.tup (cs'.map clsV))) (g1.trans (Go.lay k1 ht)) (k1.lay ht) (.bl _) q1⟩
      rcases e5 with ⟨z, _⟩ | ⟨dd', vs, z, e6, _⟩
      · rw [z] at ed; cases ed
      · rw [z] at ed; cases ed
        exact ⟨_, by rw [upd_ne (ne dd (by rw [e6]; simp))]; exact e6⟩
    | _ => exact q1.elim⟩

theorem lookup_rp {K : PySem.W.Frag} {F : Hp} {R : List Addr} {f : Str} {r : D} : ∀ {ns : List Str} {vs : List V} {ds : List D}, RpA K F R vs ds → (ns.zip ds).lookup f = some r → ∃ v, (ns.zip vs).lookup f = some v ∧ Rp K F R v r
  | [], _, _, _, h => by simp at h
  | _ :: _, _, _, .nil, h => by simp at h
  | n :: ns, _, _, .cons (v := v) (d := d) a t, h => by
    rw [List.zip_cons_cons, List.lookup_cons] at h ⊢
    cases e : f == n with
    | true => rw [e] at h; cases h; exact ⟨v, rfl, a⟩
    | false => rw [e] at h; exact lookup_rp t h
def fldX (f : Str) (tab : List Str) (d : D) (q : D → Prop) : Prop := match d with
  | .exn cls ns ds => cls ∈ tab ∧ ∃ r, (ns.zip ds).lookup f = some r ∧ q r
  | _ => False
@[simp] def wFldX (f : Str) (tab : List Str) (we : EW M) : EW M := fun ρ g q => we ρ g fun d g' => fldX f tab d fun r => q r g'
def rXf (K : PySem.W.Frag) (f : Str) (te : TE) : TE := fun σ H Q => te σ H fun x H1 => ∃ (a Cc dd : Addr) (oe : Obj) (fs : List (Str × V)) (v : V), x = .ref a ∧ H1 a = some (.frz oe exU) ∧ Zc (.ref Cc) (some dd) oe ∧ (∃ fv, oe.data = .fields fv) ∧
  H1 dd = some (.xd fs) ∧ fs.lookup f = some v ∧ XfC K Cc ∧ PySem.W.findIn K (.ref Cc) f = some none ∧ Q v H1
theorem pe_rXf {X : Cx} {e : Expr} {te : TE} {f : Str} {pos : Pos} (he : PE X e te) (hb : attributeBase e f X.env (eval e X.env) = eval e X.env := by rfl) : PE X (.Attribute e f pos) (rXf X.K f te) := ⟨fun pins s σ H Q I h => by
  refine attr_of hb (thn (he.run pins s σ H _ I h) fun u s1 hh => ?_)
  obtain ⟨x, H1, I1, rx, a, Cc, dd, oe, fs, v, rfl, h1, h2, h3, h4, h5, T, hno, q⟩ := hh
  cases (show u = Value.ref a from rx)
  obtain ⟨mA, hns, hr⟩ := (show ObjOk X.prog X.w H1 s1.heap dd (.xd fs) from I1.hok dd _ h4)
  obtain ⟨od, ho, hl⟩ := lookIn_ns hns
  obtain ⟨u, hu, ru⟩ := RelO.some_of (v := v) (o := mA f) (by rw [← h5]; exact hr f)
  have hget : s1.heap.get? a = some oe := (show s1.heap.get? a = some oe ∧ _ from I1.hok a _ h1).1
  obtain ⟨fv, hf⟩ := h3
  have J : PySem.W.InstAt s1.heap a oe Cc (some od) := ⟨hget, h2.1, by unfold PySem.W.notCls; rw [hf] <;> rfl, by rw [h2.2]; exact ho⟩
  exact HandSPX.exc_get I1.kIn J T.ga T.gg T.exC (PySem.W.findObj_own T.hdC hno rfl (by rw [hl, hu])) (handed_of ru) ⟨v, H1, I1.tok _, ru, q⟩⟩
theorem de_fldX {f : Str} {tab : List Str} (tb : ∀ n ∈ tab, FldT C.X.K n f) (he : DE C e we) (hb : attributeBase e f C.X.env (eval e C.X.env) = eval e C.X.env := by rfl) : DE C (.Attribute e f pos) (wFldX f tab we) := ⟨fun σ ρ W Q q S hQ hw =>
  tOf_of (pe_rXf pe_tOf hb) (he.run σ ρ W _ _ S (fun v d W1 g1 k1 r1 q1 => by
    cases d with
    | exn cls ns ds =>
      obtain ⟨hc, r, hr, q1⟩ := q1
      obtain ⟨C', f1, f2, f3⟩ := (tb cls hc).ex
      cases r1 with
      | exn0 => cases hr
      | exn h1 h2 h3 h4 h5 h6 hq =>
        rw [h1] at f1
        cases f1
        obtain ⟨v, hv, rv⟩ := lookup_rp hq hr
        exact ⟨_, _, _, _, _, v, rfl, k1.sub _ _ h2, h3, h4, k1.sub _ _ h5, hv, f2, f3, hQ _ _ W1 g1 k1 rv q1⟩
    | _ => exact q1.elim) hw)⟩
end
end DL
set_option Elab.async false
set_option linter.all false
set_option maxRecDepth 100000
set_option maxHeartbeats 4000000
namespace DL
open PySem L2 PySem.W PySem.Calls PyProof.Rows PySem.HandSPX Builtin Builtin.ObjectAttr
def xA (f : Str) (p1 p2 : Pos) : Arguments := { posonlyargs := [], args := [{ arg := "self", annotation := none, pos := p1 }, { arg := f, annotation := none, pos := p2 }], vararg := none, kwonlyargs := [], kw_defaults := [], kwarg := none, defaults := [] }
def xB (f : Str) (q1 q2 q3 q4 : Pos) : List Stmt := [.Assign [.Attribute (.Name "self" q1) f q2] (.Name f q3) q4]
def xS (f : Str) : Scope := { kind := .function, names := [(PySem.Str.ofString "self", .local), (f, .local)], isGenerator := false, isCoroutine := false, more := [] }
abbrev fldNames : List Str := ["value", "index", "name", "error", "limit", "place"]
/-- what the written part says of such a class -/
structure RaiseT (K : Frag) (n f : Str) (B newId initId : String) (bmB : List Value) (C fI : Addr) (q : Str) : Prop where
  nm : nsIn K mainGlobals n = some (some (.ref C))
  xi : excInitIn K C bmB newId = true
  ov : excOver K C bmB = true
  sa : findIn K (.ref C) "__setattr__" = some (some (.builtin "object.__setattr__"))
  tk : takerIn K C f = some none
  hd : hasDictIn K C = true
  iC : findIn K (.ref C) "__init__" = some (some (.ref fI))
  tI : typeIn K (.ref fI) = some (.type "function")
  kC : keepIn K (.ref C) = true
  exC : subIn K (.ref C) (.type "BaseException") = some true
  tyC : typeIn K (.ref C) = some (.type "type")
  hf : f ∈ fldNames
  fn : ∃ (oc : Value) (od : Option Addr) (doc pm : Value) (an : Option Addr) (cdv ct : Value) (osl : Array (Option Value)) (p1 p2 q1 q2 q3 q4 : Pos),
    K.lookup fI = some ⟨oc, od, .func (fnOf "__init__" q (xA f p1 p2) (xB f q1 q2 q3 q4) (xS f) .none .none doc pm an cdv ct), osl⟩ ∧ codeIn K cdv q = true
  bf : ExcBaseFacts B newId initId bmB
  sf : StoreFacts B bmB "object.__setattr__" "object"
/-- .. of the class with that name -/
structure RaisesF (K : Frag) (n f : Str) : Prop where
  ex : ∃ (B newId initId : String) (bmB : List Value) (C fI : Addr) (q : Str), RaiseT K n f B newId initId bmB C fI q
theorem one_line (v : Value) : [v].length ≤ sizeLine := by rw [sizeLine_eq]; exact (by decide : 1 ≤ 16777216)
theorem ldX {M : Model} {s : Shared} {name : Str} {scope : Scope} {L a : Addr} {cd : Value} {m : Str → Option Value} {x : Str} {pos : Pos} {v : Value} {Q : Value → Shared → Prop} {A : Around} {E : Value → Shared → Prop} (hn : s.heap.Ns L m) (hv : m x = some v) (h : Q v s)
    (hk : scope.kind = .function := by rfl) (hl : (envOfC name scope L a cd).kindOf x = some .local := by rfl) (hd : (x == ("__debug__" : Str)) = false := by decide) :
    wpAny M A (eval (.Name x pos) (envOfC name scope L a cd)) Q E s := wpAny_Name (wpAny_loadName_local hk hl hn hv h) hd
/-- self.f = v on a new exception, whatever built-in class it derives from -/
theorem store_exc {prog : Program} {w : World} {A : Around} {R : Result → Shared → Prop} {hp : Heap} {g : Array GenState} {d : Drawn} {t : Nat} {os : OsState} {K : Frag} {B : String} {bmB : List Value} {name : Str} {tk : Tok} {v : Value} {x C t0 : Addr} (SF : StoreFacts B bmB "object.__setattr__" "object")
    (X : K.In hp) (hx : hp.get? x = some (excO C t0)) (ov : excOver K C bmB = true) (ht : takerIn K C name = some none) (hd : hasDictIn K C = true)
    (hq : ∀ h' tk' dx, (∀ b o, b ≠ x → hp.get? b = some o → h'.get? b = some o) → hp.objs.size ≤ dx → dx ≠ x → h'.get? x = some { cls := .ref C, dict := some dx, data := .fields #[.ref t0, .none, .none, .none, .bool false, .none] } →
      h'.Ns1 dx (fun y => if y = name then some v else none) → R (.ok (.ret .none)) ⟨h', g, d, tk', os⟩) :
    codeAny (model prog w) A (.call (.builtin "object.__setattr__") ⟨[.ref x, .str name tk, v], []⟩) R ⟨hp, g, d, t, os⟩ := by
  refine osa_openX (s := ⟨hp, g, d, t, os⟩) (od := none) SF X ⟨hx, rfl, rfl, trivial⟩ ov ht fun b => ?_
  obtain ⟨cd, hc, hh⟩ := any_some hd
  have xs : x ≠ hp.objs.size := Nat.ne_of_lt (Heap.lt_size hx)
  refine wpAny_bind (wpAny_pure (wpAny_bind (instanceDict_exc (s := ⟨hp, g, d, t, os⟩) hx (looks_clsIn X hc) hh ?_)))
  show wpAny _ _ (storeInDict hp.objs.size (.str name tk) name v) _ _ _
  have old : ∀ c u, c ≠ x → hp.get? c = some u → ((hp.push (dictOf [] 0)).update x fun o => { o with dict := some hp.objs.size }).get? c = some u := fun c u hc e =>
    (Heap.get?_update_ne _ _ _ _ hc).trans (Heap.get?_push_of_some _ e)
  refine store_in_new ?_ fun h' tk' n' hs => hq h' tk' hp.objs.size (fun c u hc e => ?_) (Nat.le_refl _) xs.symm ?_ n'
  · refine ⟨_, #[], 0, (Heap.get?_update_ne _ _ _ _ xs.symm).trans (Heap.get?_push_at rfl rfl), rfl, fun e he => absurd he (by simp), fun _ => rfl⟩
  · exact (hs.2 c (Nat.ne_of_lt (Heap.lt_size e))).trans (old c u hc e)
  · exact (hs.2 x xs).trans (Heap.get?_update_self _ (Heap.get?_push_of_some _ hx) rfl)
/-- what is left of a new exception at x -/
structure XInit (h h' : Heap) (x C dx t1 : Addr) (f : Str) (v : Value) : Prop where
  keep : ∀ b o, b ≠ x → h.get? b = some o → h'.get? b = some o
  obj : h'.get? x = some { cls := .ref C, dict := some dx, data := .fields #[.ref t1, .none, .none, .none, .bool false, .none] }
  dbig : h.objs.size ≤ dx
  dne : dx ≠ x
  ns : h'.Ns1 dx (fun y => if y = f then some v else none)
structure XMade (h h' : Heap) (e C d : Addr) (f : Str) (v : Value) : Prop where
  keep : ∀ b o, h.get? b = some o → h'.get? b = some o
  new : h.objs.size ≤ e
  obj : ∃ oe vs, h'.get? e = some oe ∧ oe.cls = .ref C ∧ oe.dict = some d ∧ oe.data = .fields vs ∧ vs[1]? = some .none ∧ vs[2]? = some .none
  dbig : h.objs.size ≤ d
  dne : d ≠ e
  ns : h'.Ns1 d (fun y => if y = f then some v else none)
section
variable {prog : Program} {w : World} {A : Around} {E : Value → Shared → Prop} {R : Result → Shared → Prop} {s : Shared} {K : Frag} {n f : Str} {B newId initId : String} {bmB : List Value} {C fI : Addr} {q : Str}
theorem x_init (T : RaiseT K n f B newId initId bmB C fI q) {x t0 : Addr} {v : Value} (X : K.In s.heap) (hlim : s.heap.NoLimit) (hx : s.heap.get? x = some (excO C t0)) (hroom : A.depth < recursionLimit)
    (hq : ∀ h' tk dx, XInit s.heap h' x C dx t0 f v → R (.ok (.ret .none)) { s with heap := h', toks := tk }) :
    codeAny (model prog w) A (.call (.ref fI) ⟨[.ref x, v], []⟩) R s := by
  obtain ⟨oc, od, doc, pm, an, cdv, ct, osl, p1, p2, q1, q2, q3, q4, ho, hcd⟩ := T.fn
  have hf := T.hf
  simp only [List.mem_cons, List.not_mem_nil, or_false] at hf
  have body : ∀ (g : Str), g = f → (g == ("__debug__" : Str)) = false → (envOfC q (xS f) s.heap.objs.size fI cdv).kindOf g = some .local → (bindL (envOfC q (xS f) s.heap.objs.size fI cdv).kindOf [("self", .ref x), (f, v)] fun _ => none) g = some v →
      (bindL (envOfC q (xS f) s.heap.objs.size fI cdv).kindOf [("self", .ref x), (f, v)] fun _ => none) "self" = some (.ref x) →
      BindsTo s (fnOf "__init__" q (xA f p1 p2) (xB f q1 q2 q3 q4) (xS f) .none .none doc pm an cdv ct) ⟨[.ref x, v], []⟩ [("self", .ref x), (f, v)] →
      (([("self", .ref x), (f, v)] : List (Str × Value)).all fun y => (xS f).names.lookup y.1 == some .local || (xS f).names.lookup y.1 == some .cell) = true →
      codeAny (model prog w) A (.call (.ref fI) ⟨[.ref x, v], []⟩) R s := by
    rintro g rfl hdb hkd hv hself bd hall
    refine Att.call_fn (binds := [("self", .ref x), (g, v)]) X hlim ho hcd hroom bd hall (fun s₁ IC => ?_) rfl rfl rfl
    obtain ⟨h₁, tk₁, rfl⟩ := IC.toInCall.same
    have k : ∀ b o, s.heap.get? b = some o → h₁.get? b = some o := IC.toInCall.keep
    have hn := IC.toInCall.ns
    have hxL : s.heap.objs.size ≠ x := Nat.ne_of_gt (Heap.lt_size hx)
    have X₁ : K.In h₁ := X.keeps k
    have hx₁ := k _ _ hx
    show wpAny _ _ (execs _ _) _ _ _
    refine wpAny_execs_cons (plainObj_wpAny_Assign_Attribute ?_)
    refine ldX (v := v) hn hv (ldX (v := .ref x) hn hself ?_) rfl hkd hdb
    refine set_plain X₁ (ox := excO C t0) (od := none) ⟨hx₁, rfl, rfl, trivial⟩ T.sa ?_
    refine store_exc T.sf X₁ hx₁ T.ov T.tk T.hd (fun h₃ tk₃ dx k₃ dn dne hx₃ hn₃ => ?_)
    show wpAny _ _ (execs _ _) _ _ _
    have z : s.heap.objs.size < h₁.objs.size := hn.lt
    exact wpAny_execs_nil (hq h₃ tk₃ dx ⟨fun b o hb e => k₃ b o hb (k b o e), hx₃, Nat.le_of_lt (Nat.lt_of_lt_of_le z dn), dne, hn₃⟩)
  rcases hf with rfl | rfl | rfl | rfl | rfl | rfl <;> exact body _ rfl (by decide) rfl (by first | rfl | with_unfolding_all rfl) (by first | rfl | with_unfolding_all rfl) (BindsTo.of_eq (by first | rfl | with_unfolding_all rfl)) (by first | rfl | decide | with_unfolding_all rfl)
theorem x_made (T : RaiseT K n f B newId initId bmB C fI q) {v : Value} (X : K.In s.heap) (hlim : s.heap.NoLimit) (hroom : A.depth + 1 < recursionLimit)
    (hq : ∀ h' tk e d, XMade s.heap h' e C d f v → R (.ok (.ret (.ref e))) { s with heap := h', toks := tk }) :
    codeAny (model prog w) A (.call (.ref C) ⟨[v], []⟩) R s := by
  obtain ⟨nm, N', qn, bs, bm, hdct, sn, sub, ab, col, dd, k0, k1, k2, k3, k5, hC, hT⟩ := excInit_of X T.xi
  obtain ⟨hp, g, dr, tk, os⟩ := s
  have k : ∀ b o, hp.get? b = some o → ((hp.push (kdv_tup [v])).push (excO C hp.objs.size)).get? b = some o := fun b o e => Heap.get?_push_of_some _ (Heap.get?_push_of_some _ e)
  have hget : ((hp.push (kdv_tup [v])).push (excO C hp.objs.size)).get? (hp.objs.size + 1) = some (excO C hp.objs.size) := by heap_get
  refine HandSPX.call_own T.bf hT hC (looks_findIn X T.iC) (fun self => bind_fn X self T.tI) (one_line v) ?_
  refine x_init (s := ⟨(hp.push (kdv_tup [v])).push (excO C hp.objs.size), g, dr, tk, os⟩) T (X.keeps k) (hlim.keeps k) hget ?_ fun h' tk' dx M => ?_
  · show A.depth + 1 < recursionLimit
    exact hroom
  · have old : ∀ b o, hp.get? b = some o → h'.get? b = some o := fun b o e => M.keep b o (Nat.ne_of_lt (Nat.lt_succ_of_lt (Heap.lt_size e))) (k b o e)
    have z : hp.objs.size + 1 + 1 ≤ dx := by
      first
        | (simpa only [Heap.size_push] using M.dbig)
        | exact M.dbig
        | (have q := M.dbig; rw [Heap.size_push, Heap.size_push] at q; exact q)
    exact ⟨rfl, hq h' tk' (hp.objs.size + 1) dx ⟨old, Nat.le_succ _, ⟨_, _, M.obj, rfl, rfl, rfl, rfl, rfl⟩, Nat.le_trans (Nat.le_trans (Nat.le_succ _) (Nat.le_succ _)) z, M.dne, M.ns⟩⟩
end
section
variable {X : Cx} {n f : Str}
theorem relO_one {v : V} {v' : Value} (r : RelV v v') (g : Str) : RelO (List.lookup g [(f, v)]) (if g = f then some v' else none) := by
  by_cases hw : g = f
  · subst hw
    rw [if_pos rfl]
    have q : List.lookup g [(g, v)] = some v := by simp [List.lookup]
    rw [q]
    exact r
  · rw [if_neg hw]
    have qw : (g == f) = false := by simpa using hw
    have q2 : List.lookup g [(f, v)] = none := by simp [List.lookup, qw]
    rw [q2]
    trivial
/-- n(e) -/
def tMkX (K : Frag) (n f : Str) (ta : TA) : L2.St → Hp → XK → Prop := fun σ H Q => ta σ H fun vs H1 => ∃ v, vs = [v] ∧ ∀ C d, nsIn K mainGlobals n = some (some (.ref C)) → H1 d = none → Q (.ref C) (some d) (upd H1 d (.xd [(f, v)]))
theorem pmk_x {a : Expr} {ta : TA} {p pos : Pos} {k : Nat} (T : RaisesF X.K n f) (hr : Room k X.A) (ha : PA X [a] ta) (hg : Gl X n) (hdb : (n == ("__debug__" : Str)) = false := by decide)
    (he : starEach (a :: []) X.env = (false, eval a X.env) :: starEach [] X.env := by rfl) (hpl : (backTo pos (starEach [] X.env)).any (·.1) = false := by rfl) :
    L2N.PMk X (.Call (.Name n p) [a] [] pos) (tMkX X.K n f ta) := by
  intro pins s σ H Q I h
  obtain ⟨B, newId, initId, bmB, C, fI, q, T⟩ := T.ex
  refine wpAny_Call_Name_kw (ld_glob I hg (mg_of I.mod.kin I.mod.glob T.nm) ?_ hdb)
  refine PySem.W.callWith_K (h₀ := X.base) I.ok.mod.kin T.kC (thn (ha.run pos pins s σ H _ I h) fun us s1 hh => ?_) he hpl
  obtain ⟨vs, H1, I1, r1, v, ev, q1⟩ := hh
  subst ev
  refine ⟨I1.kIn, ?_⟩
  cases r1 with
  | cons rv rn =>
    rename_i v' us'
    cases rn
    show wpAny _ _ (call (.ref C) [v']) _ _ _
    have hlim := I1.nolimit
    obtain ⟨hp, g, dr, tk, os⟩ := s1
    refine wpAny_call (x_made T I1.kIn hlim (by have := hr.dp; omega) fun h' tk' e d M => ?_)
    show L2N.MkP X pins σ Q (.ref e) ⟨h', g, dr, tk', os⟩
    obtain ⟨oe, fv, hoe, hc, hd, hdat, h1, h2⟩ := M.obj
    have hns := M.ns
    obtain ⟨G', g1, g2⟩ := restrict h' fun b => decide (b ≠ e)
    have gk : ∀ b, b ≠ e → G'.get? b = h'.get? b := fun b hb => g1 b (decide_eq_true hb)
    have ge : G'.get? e = none := g2 e (by simp)
    have old : ∀ b o, hp.get? b = some o → G'.get? b = some o := fun b o q => (gk b (Nat.ne_of_lt (Nat.lt_of_lt_of_le (Heap.lt_size q) M.new))).trans (M.keep b o q)
    have ob : ObjOk X.prog X.w (upd H1 d (.xd [(f, v)])) G' d (.xd [(f, v)]) := ⟨_, hns.at (fun o q => (gk d M.dne).trans q), fun g => relO_one rv g⟩
    have J : Inv X pins σ (upd H1 d (.xd [(f, v)])) ⟨G', g, dr, tk', os⟩ := I1.laid (t' := tk') old M.dbig ob
    refine ⟨e, oe, fv, ⟨G', g, dr, tk', os⟩, _, .ref C, some d, rfl, J, fun b o q => ?_, ge, hoe, ⟨hc, hd, fun vs e => by rw [hdat] at e; cases e; exact h2⟩, hdat, h1, ?_, rfl, I1.bare, raises_own T.exC T.tyC, q1 C d T.nm (I1.hok.fresh M.dbig)⟩
    · by_cases hb : b = e
      · have q' : G'.get? b = some o := q
        rw [hb, ge] at q'; cases q'
      · exact (gk b hb).symm.trans q
    · rw [upd_ne (Ne.symm M.dne)]
      exact I1.hok.fresh M.new
end
section
variable {M : Ghost} {C : Ct M} {W W1 W2 W' : Wd M} {σ : L2.St} {ρ : DEnv} {e : Expr} {es : List Expr} {we : EW M} {pos p pos2 : Pos} {n f : Str}
@[simp] def wRaise (n f : Str) (we : EW M) (EX : Exn → DEnv → M.G → Prop) : SW M := fun _ ρ g => we ρ g fun d g' => EX ⟨n, [f], [d]⟩ ρ g'
theorem ds_raise {k : Nat} (T : RaisesF C.X.K n f) (hc : C.X.calm = true) (hr : Room k C.X.A) (tk : TakesD C) (he : DE C e we) (hg : Gl C.X n := by rfl) (hdb : (n == ("__debug__" : Str)) = false := by decide)
    (h1 : starEach (e :: []) C.X.env = (false, eval e C.X.env) :: starEach [] C.X.env := by rfl) (hpl : (backTo pos (starEach [] C.X.env)).any (·.1) = false := by rfl) :
    DS C (.Raise (some (.Call (.Name n p) [e] [] pos)) none pos2) (wRaise n f we C.EX) := ⟨fun σ ρ W k' E S l h =>
  tsOf_of (L2N.ps_raise hc tk (pmk_x T hr (pa_cons pe_tOf pa_nil h1) hg hdb h1 hpl)) (he.run σ ρ W _ _ S (fun v d W1 g1 k1 r1 q1 => by
    refine ⟨v, rfl, fun C' dx hn hd => ?_⟩
    have go := Go.lay (o := .xd [(f, v)]) k1 hd
    exact ⟨⟨n, [f], [d]⟩, ρ, W1.lay dx (.xd [(f, v)]), rfl, (S.step g1 k1).step go (k1.lay hd), ⟨hn, ⟨_, rfl⟩, .inr ⟨dx, [v], rfl, upd_same, rfl, .cons (r1.step go) .nil⟩⟩, q1⟩) h)⟩
end
end DL
set_option Elab.async false
set_option linter.all false
set_option maxRecDepth 100000
set_option maxHeartbeats 4000000
namespace DL
open PySem L2 PySem.W PySem.Calls PyProof.Rows
section
variable {X : Cx} {pins : List (Addr × Obj)} {σ : L2.St} {H : Hp} {s : Shared}
theorem flying_keeps {base : Heap} {l : List Env} {e : Addr} {Z : Obj → Prop} {h h' : Heap} (x : HandSPX.FlyingZ base l e Z h) (k : ∀ b o, h.get? b = some o → h'.get? b = some o) : HandSPX.FlyingZ base l e Z h' := by
  obtain ⟨f1, f2, f3, oe, vs, T, oT, ts, h1, h2, h3, h4, h5, h6, h7, h8, h9⟩ := x
  exact ⟨fun b o q => k b o (f1 b o q), f2, f3.of_keeps fun b o q _ => ⟨o, k b o q, rfl⟩, oe, vs, T, oT, ts, k _ _ h1, h2, h3, h4, h5, h6, k _ _ h7, h8, h9⟩
theorem upto_keeps {h h' : Heap} (k : ∀ b o, h.get? b = some o → h'.get? b = some o) : h.UpToSlots h' := fun b o q _ => ⟨o.slots, k b o q⟩
/-- into the suite's context, the exception not yet tracked -/
theorem Inv.into (I : Inv X pins σ H s) (a : Addr) : Inv (X.suite a (X.pn ++ pins)) [] σ H s :=
  ⟨I.ok.suite _ _, I.os, I.bare, I.base, I.loc, I.cell, I.free, I.freeC, fun p hp => I.pin p (by rw [List.append_nil] at hp; exact hp), I.hok, I.len⟩
theorem Inv.outOf {a : Addr} {pn' : List (Addr × Obj)} (I : Inv (X.suite a (X.pn ++ pins)) pn' σ H s) (ok : X.Ok) : Inv X pins σ H s :=
  ⟨ok, I.os, I.bare, I.base, I.loc, I.cell, I.free, I.freeC, fun p hp => I.pin p (List.mem_append_left _ hp), I.hok, I.len⟩
/-- an object that nobody tells of is tracked as it is -/
theorem Inv.track {a : Addr} {oe : Obj} {fv : Array Value} (I : Inv X pins σ H s) (he : s.heap.get? a = some oe) (hd : oe.data = .fields fv) (na : H a = none) (h0 : X.s_0.heap.get? a = none) (nL : a ≠ X.env.locals)
    (np : ∀ p ∈ X.pn ++ pins, p.1 ≠ a) : Inv X pins σ (upd H a (.frz oe exU)) s := by
  have n0 : ∀ {b : Addr} {o : Obj}, X.s_0.heap.get? b = some o → b ≠ a := fun {b o} e z => by rw [z, h0] at e; cases e
  refine ⟨I.ok, I.os, I.bare, ⟨I.base.keep, I.base.slot, fun b o e n hx => ?_, I.base.there, fun b xs e => ?_, fun b o u e => ?_, fun b ps e => ?_⟩, I.loc, I.cell, ?_, fun x c e => ?_, fun p hp => ?_, fun b u e => ?_, I.len⟩
  · rw [upd_ne (n0 e)]; exact I.base.free b o e n hx
  · have q := I.base.tups b xs e
    rw [upd_ne (ne_of_none q na)]; exact q
  · have q := I.base.frzs b o u e
    rw [upd_ne (ne_of_none q na)]; exact q
  · obtain ⟨more, q⟩ := I.base.tbls b ps e
    exact ⟨more, by rw [upd_ne (ne_of_none q na)]; exact q⟩
  · rw [upd_ne (Ne.symm nL)]; exact I.free
  · have hc : c ≠ a := fun z => by
      obtain ⟨v, o, ho, hv⟩ := I.cell x c e
      rw [z, he] at ho
      cases ho
      rw [hd] at hv
      cases hv
    rw [upd_ne hc]; exact I.freeC x c e
  · obtain ⟨h1, h2, h3⟩ := I.pin p hp
    exact ⟨h1, by rw [upd_ne (np p hp)]; exact h2, h3⟩
  · by_cases hb : b = a
    · subst hb
      rw [upd_same] at e
      cases e
      exact ⟨he, True.intro, ⟨_, he⟩, fun _ _ _ _ => True.intro⟩
    · rw [upd_ne hb] at e
      exact (I.hok b u e).stay (fun _ _ _ q => q) (fun c q => by rw [upd_ne (ne_of_none q na)]; exact q) fun c xs q => by rw [upd_ne (ne_of_none q na)]; exact q
end

/-- a clause's test -/
def CatchT (X : Cx) (e : Expr) (cat : Str → Bool → Prop) : Prop :=
  ∀ (a : Addr) (pn : List (Addr × Obj)) (pins : List (Addr × Obj)) (σ : L2.St) (H : Hp) (s : Shared) (n : Str) (C : Addr) (b : Bool) (Q : Bool → Shared → Prop) (E : Value → Shared → Prop), Inv (X.suite a pn) pins σ H s →
    Looks (model X.prog X.w) s.heap (typeOf (.ref a)) (.ref C) → nsIn X.K mainGlobals n = some (some (.ref C)) → cat n b →
    (∀ h' tk, (∀ b o, s.heap.get? b = some o → h'.get? b = some o) → Inv (X.suite a pn) pins σ H { s with heap := h', toks := tk } → Q b { s with heap := h', toks := tk }) →
    wpAny (model X.prog X.w) (X.A.mark (some (.ref a))) (eval e X.env) (fun c s1 => wpAny (model X.prog X.w) (X.A.mark (some (.ref a))) (excMatches (.ref a) c) Q E s1) E s
theorem catch_name {X : Cx} {x : Str} {p : Pos} {tab : List (Str × Bool)} (tb : ∀ p ∈ tab, SubT X.K p.1 x p.2) (hg : Gl X x := by rfl) (hd : (x == ("__debug__" : Str)) = false := by decide) : CatchT X (.Name x p) (fun n b => (n, b) ∈ tab) :=
  fun a pn pins σ H s n C b Q E I LT hn hc q => by
    obtain ⟨C', c, h1, h2, h3, h4, h5⟩ := (tb _ hc).ex
    rw [hn] at h1
    cases h1
    exact ld_cls (X := X.suite a pn) h2 hg hd I ((exm_one I.kIn LT h3).here (q s.heap s.toks (fun _ _ z => z) I))
/-- behind the suite its name is gone -/
def unset (i : Nat) (D : Ends) : Ends := { nx := fun σ H => D.nx (σ.set i none) H, rt := D.rt, bk := fun σ H => D.bk (σ.set i none) H, ct := fun σ H => D.ct (σ.set i none) H }
abbrev Clause := (Str → Bool → Prop) × Nat × (Addr → TS)
def wHds (Wout : WX) (D : Ends) (n : Str) (cls : Value) (d : Option Addr) : List Clause → L2.St → Hp → Prop
  | [], σ, H => Wout cls d σ H
  | (cat, i, ts) :: r, σ, H => ∃ b, cat n b ∧ (b = true → ∀ a oe, H a = none → L2N.Zn cls d oe → (∃ fv, oe.data = .fields fv) → ts a (unset i D) (σ.set i (some (.ref a))) (upd H a (.frz oe exU))) ∧ (b = false → wHds Wout D n cls d r σ H)
def WH (K : Frag) (Wout : WX) (D : Ends) (l : List Clause) : WX := fun cls d σ H => ∃ (n : Str) (C : Addr), cls = .ref C ∧ nsIn K mainGlobals n = some (some (.ref C)) ∧ wHds Wout D n cls d l σ H
inductive HdsT (X : Cx) : List ExceptHandler → List Clause → Prop
  | nil : HdsT X [] []
  | cons {e : Expr} {nm : Str} {b₀ : Stmt} {suite : List Stmt} {pos' : Pos} {cat : Str → Bool → Prop} {i : Nat} {ts : Addr → TS} {hds : List ExceptHandler} {l : List Clause} (hi : X.N[i]? = some nm) (hln : X.env.kindOf nm = some .local) (hc : CatchT X e cat)
      (hsu : ∀ a pn, PSs (X.suite a pn) (b₀ :: suite) (ts a)) (r : HdsT X hds l) : HdsT X (.ExceptHandler (some e) (some nm) (b₀ :: suite) pos' :: hds) ((cat, i, ts) :: l)
  | consN {e : Expr} {b₀ : Stmt} {suite : List Stmt} {pos' : Pos} {cat : Str → Bool → Prop} {i : Nat} {ts : Addr → TS} {hds : List ExceptHandler} {l : List Clause} (hi : X.N.length ≤ i) (hc : CatchT X e cat)
      (hsu : ∀ a pn, PSs (X.suite a pn) (b₀ :: suite) (ts a)) (r : HdsT X hds l) : HdsT X (.ExceptHandler (some e) none (b₀ :: suite) pos' :: hds) ((cat, i, ts) :: l)
theorem ps_tryD {X : Cx} {body : List Stmt} {h₀ : ExceptHandler} {hds : List ExceptHandler} {l : List Clause} {pos : Pos} {tb : WX → TS} {Wout : WX} (hs : X.stack = X.env :: X.outer) (hf : X.env.frame = some X.env.locals) (hex : X.ex = []) (hN : X.N.Nodup) (tk : L2N.Takes X Wout)
    (hb : ∀ (W : WX) (pn : List (Addr × Obj)) (xe : Value → Shared → Prop), L2N.Takes (X.tr pn xe) W → PassesOwn (model X.prog X.w) X.A X.env xe → PSs (X.tr pn xe) body (tb W))
    (hh : HdsT X (h₀ :: hds) l) : PS X (.Try body (h₀ :: hds) [] [] pos) (fun D σ H => tb (WH X.K Wout D l) D σ H) := ⟨fun pins s σ H D I h => by
  have ok := I.ok
  have hfr : X.A.frames = some (X.env :: X.outer) := by rw [ok.frames, hs]
  refine wpAny_Try_except ?_
  refine wpAny_mono ((hb (WH X.K Wout D l) (X.pn ++ pins) (fun e s₁ => wpAny (model X.prog X.w) X.A (noteFrame e X.env) (fun _ s₂ => wpAny (model X.prog X.w) X.A (setFlight e none) (fun _ s₃ =>
    wpAny (model X.prog X.w) X.A (handleBy e X.env (h₀ :: hds)) (SP X pins D) X.xe s₃) X.xe s₂) X.xe s₁) (fun u s' xx => ?_) PassesOwn.looking).run [] s σ H D (I.toTry _) h) (fun f s1 hsp => ?_) (fun e s1 he => he)
  · -- it is caught: where it stands, what is known of it
    obtain ⟨a, B, sI, pins', σ', H', cls, d, rfl, J', nb, up, sky, na, os, ag, n, C, rfl, hn, w⟩ := xx
    have J : Inv X pins σ' H' sI := J'.ofTry ok
    refine L2N.Sky.land L2N.Zn.steady hfr hf (by rw [← hs]; exact sky) fun h2 fl2 up2 => ?_
    have inS : a ∉ frs (X.env :: X.outer) := fun hm => by
      obtain ⟨oe, vs, he, _, hd⟩ := fl2.there
      obtain ⟨_, o', e', hnf⟩ := fl2.2.2.1.mem hm
      rw [he] at e'; cases e'
      exact hnf _ hd
    have nL : a ≠ X.env.locals := fun z => inS (List.mem_filterMap.mpr ⟨X.env, List.mem_cons_self, by rw [hf, z]⟩)
    have nI : sI.heap.get? a = none := by
      cases q : sI.heap.get? a with
      | none => rfl
      | some o =>
        have := nb a o q (by rw [hs]; exact inS)
        rw [fl2.2.1] at this
        cases this
    have n0 : X.s_0.heap.get? a = none := by
      cases q : X.s_0.heap.get? a with
      | none => rfl
      | some o =>
        obtain ⟨o', e⟩ := J.base.there a o q (by rw [hex]; simp)
        rw [nI] at e
        cases e
    have np : ∀ p ∈ X.pn ++ pins, p.1 ≠ a := fun p hp z => by
      have e := (J.pin p hp).1
      rw [z, nI] at e
      cases e
    -- clause by clause
    have go : ∀ {hs' : List ExceptHandler} {l' : List Clause}, HdsT X hs' l' → ∀ (h3 : Heap) (tk3 : Nat), HandSPX.FlyingZ B (X.env :: X.outer) a (L2N.Zn (.ref C) d) h3 → sI.heap.UpToSlots h3 → wHds Wout D n (.ref C) d l' σ' H' →
        wpAny (model X.prog X.w) X.A (handleBy (.ref a) X.env hs') (SP X pins D) X.xe { s' with heap := h3, toks := tk3 } := by
      intro hs' l' hk
      induction hk with
      | nil =>
        intro h3 tk3 fl3 up3 w
        refine wpAny_handleBy_nil ?_
        obtain ⟨k1, k2, k3, oe, vs, T, oT, ts', he, hz, hd, h1, hr⟩ := id fl3
        unfold PySem.passOn
        refine wpAny_bind (wpAny_field he hd h1 ?_)
        rw [if_neg (show ¬ ((Value.ref T == Value.none) = true) from by simp)]
        have J3 : Inv X pins σ' H' { s' with heap := h3, toks := tk3 } := J.landed (s' := { s' with heap := h3, toks := tk3 }) nb fl3.1 up3 os ag
        have out : wpAny (model X.prog X.w) X.A (setFlight (.ref a) X.env.frame) (fun _ s4 => wpAny (model X.prog X.w) X.A (throw (.ref a) : Sem Flow) (SP X pins D) X.xe s4) X.xe { s' with heap := h3, toks := tk3 } := by
          rw [hf]
          exact HandSPX.setFlight_upZ fl3 fun h4 hh4 up4 => wpAny_throw (tk _ _ ⟨a, B, sI, pins, σ', H', .ref C, d, rfl, J, nb, up3.trans up4, .inr (.inr (by rw [hs]; exact hh4)), na, os, ag, w⟩)
        first
          | exact wpAny_bind (wpAny_pure (wpAny_bind out))
          | exact wpAny_bind out
      | @cons e nm b₀ suite pos' cat i ts hds2 l2 hi hln hc hsu r ih =>
        intro h3 tk3 fl3 up3 w
        obtain ⟨b, hb1, hyes, hno⟩ := w
        have J3 : Inv X pins σ' H' { s' with heap := h3, toks := tk3 } := J.landed (s' := { s' with heap := h3, toks := tk3 }) nb fl3.1 up3 os ag
        obtain ⟨oe3, vs3, he3, hz3, hd3⟩ := fl3.there
        have LT : Looks (model X.prog X.w) h3 (typeOf (.ref a)) (.ref C) := fun A Q E s k q => wpAny_typeOf_ref (k _ _ he3) (by rw [hz3.1]; exact q)
        refine wpAny_handleBy_cons (codeAny_handlers_test ?_) (by intro q; cases q)
        refine hc a _ _ _ _ _ n C b _ _ (Inv.into J3 a) LT hn hb1 fun h4 tk4 kp I4 => ?_
        have fl4 := flying_keeps fl3 kp
        have up4 := up3.trans (upto_keeps kp)
        cases b with
        | false => exact ih h4 tk4 fl4 up4 (hno rfl)
        | true =>
          refine codeAny_handlers_suite_as ?_
          refine HandSPX.lands_againZ (s := { s' with heap := h4, toks := tk4 }) fl4 fun h5 fl5 up5 => ?_
          have J5 : Inv X pins σ' H' { s' with heap := h5, toks := tk4 } := J.landed (s' := { s' with heap := h5, toks := tk4 }) nb fl5.1 (up4.trans up5) os ag
          obtain ⟨oe5, vs5, he5, hz5, hd5⟩ := fl5.there
          have S5 := Inv.into (Inv.track J5 he5 hd5 na n0 nL np) a
          refine store_ok (X := X.suite a (X.pn ++ pins)) (v := .ref a) S5 hN hi (.inl hln) rfl (fun s6 S6 => ?_) (.inr hln)
          refine wpAny_mono ((hsu a (X.pn ++ pins)).run [] s6 _ _ _ S6 (hyes rfl a oe5 na hz5 ⟨_, hd5⟩)) (fun f s7 hsp => ?_) (fun _ _ z => False.elim z)
          have leave : ∀ {σ7 : L2.St} {H7 : Hp} {Q : Shared → Prop}, Inv (X.suite a (X.pn ++ pins)) [] σ7 H7 s7 → (∀ s8, Inv X pins (σ7.set i none) H7 s8 → Q s8) →
              wpAny (model X.prog X.w) X.A (do bindName X.env nm .none; unbindBehindTheSuite X.env nm pos') (fun _ s8 => Q s8) X.xe s7 := fun {σ7 H7 Q} S7 hq => gone_ok (Inv.outOf S7 ok) hN hi hln hq
          match f, hsp with
          | .next, ⟨σ7, H7, S7, q7⟩ => exact leave S7 fun s8 J8 => ⟨_, _, J8, q7⟩
          | .brk, ⟨σ7, H7, S7, q7⟩ => exact leave S7 fun s8 J8 => ⟨_, _, J8, q7⟩
          | .cont, ⟨σ7, H7, S7, q7⟩ => exact leave S7 fun s8 J8 => ⟨_, _, J8, q7⟩
          | .ret u, ⟨v7, σ7, H7, S7, r7, q7⟩ => exact leave S7 fun s8 J8 => ⟨_, _, _, J8, r7, q7⟩
      | @consN e b₀ suite pos' cat i ts hds2 l2 hi hc hsu r ih =>
        intro h3 tk3 fl3 up3 w
        obtain ⟨b, hb1, hyes, hno⟩ := w
        have J3 : Inv X pins σ' H' { s' with heap := h3, toks := tk3 } := J.landed (s' := { s' with heap := h3, toks := tk3 }) nb fl3.1 up3 os ag
        obtain ⟨oe3, vs3, he3, hz3, hd3⟩ := fl3.there
        have LT : Looks (model X.prog X.w) h3 (typeOf (.ref a)) (.ref C) := fun A Q E s k q => wpAny_typeOf_ref (k _ _ he3) (by rw [hz3.1]; exact q)
        refine wpAny_handleBy_cons (codeAny_handlers_test ?_) (by intro q; cases q)
        refine hc a _ _ _ _ _ n C b _ _ (Inv.into J3 a) LT hn hb1 fun h4 tk4 kp I4 => ?_
        have fl4 := flying_keeps fl3 kp
        have up4 := up3.trans (upto_keeps kp)
        cases b with
        | false => exact ih h4 tk4 fl4 up4 (hno rfl)
        | true =>
          refine codeAny_handlers_suite ?_
          refine HandSPX.lands_againZ (s := { s' with heap := h4, toks := tk4 }) fl4 fun h5 fl5 up5 => ?_
          have J5 : Inv X pins σ' H' { s' with heap := h5, toks := tk4 } := J.landed (s' := { s' with heap := h5, toks := tk4 }) nb fl5.1 (up4.trans up5) os ag
          obtain ⟨oe5, vs5, he5, hz5, hd5⟩ := fl5.there
          have S5 := Inv.into (Inv.track J5 he5 hd5 na n0 nL np) a
          have hy := hyes rfl a oe5 na hz5 ⟨_, hd5⟩
          rw [List.set_eq_of_length_le (by rw [J5.len]; exact hi)] at hy
          refine wpAny_mono ((hsu a (X.pn ++ pins)).run [] _ _ _ _ S5 hy) (fun f s7 hsp => ?_) (fun _ _ z => False.elim z)
          have same : ∀ {σ7 : L2.St} {H7 : Hp}, Inv (X.suite a (X.pn ++ pins)) [] σ7 H7 s7 → Inv X pins (σ7.set i none) H7 s7 := fun {σ7 H7} S7 => by
            have S8 := Inv.outOf S7 ok
            rw [List.set_eq_of_length_le (by rw [S8.len]; exact hi)]
            exact S8
          match f, hsp with
          | .next, ⟨σ7, H7, S7, q7⟩ => exact ⟨_, _, same S7, q7⟩
          | .brk, ⟨σ7, H7, S7, q7⟩ => exact ⟨_, _, same S7, q7⟩
          | .cont, ⟨σ7, H7, S7, q7⟩ => exact ⟨_, _, same S7, q7⟩
          | .ret u, ⟨v7, σ7, H7, S7, r7, q7⟩ => exact ⟨_, _, _, same S7, r7, q7⟩
    exact go hh h2 s'.toks fl2 (up.trans up2) w
  · match f, hsp with
    | .next, ⟨σ', H', J', q⟩ => exact wpAny_execs_nil ⟨σ', H', J'.ofTry ok, q⟩
    | .brk, ⟨σ', H', J', q⟩ => exact ⟨σ', H', J'.ofTry ok, q⟩
    | .cont, ⟨σ', H', J', q⟩ => exact ⟨σ', H', J'.ofTry ok, q⟩
    | .ret u, ⟨v, σ', H', J', r, q⟩ => exact ⟨v, σ', H', J'.ofTry ok, r, q⟩⟩
section
variable {M : Ghost} {C : Ct M} {W W1 W2 W' : Wd M} {σ : L2.St} {ρ : DEnv} {pos : Pos}
abbrev ClauseD (M : Ghost) := List (Str × Bool) × Nat × SW M
@[simp] def unsetK (i : Nat) (k : K3 M) : K3 M := { nx := fun ρ g => k.nx (ρ.set i .no) g, rt := k.rt, bk := fun ρ g => k.bk (ρ.set i .no) g, ct := fun ρ g => k.ct (ρ.set i .no) g }
@[simp] def wHs (EX : Exn → DEnv → M.G → Prop) (k : K3 M) (x : Exn) : List (ClauseD M) → DEnv → M.G → Prop
  | [], ρ, g => EX x ρ g
  | (tab, i, w) :: r, ρ, g => ∃ b, (x.cls, b) ∈ tab ∧ if b = true then w (unsetK i k) (ρ.set i (.im (.exn x.cls x.ns x.ds))) g else wHs EX k x r ρ g
@[simp] def wTry (wb : (Exn → DEnv → M.G → Prop) → SW M) (cl : List (ClauseD M)) (EX : Exn → DEnv → M.G → Prop) : SW M := fun k ρ g => wb (fun x ρ' g' => wHs EX k x cl ρ' g') k ρ g
inductive DHs (C : Ct M) : List ExceptHandler → List (ClauseD M) → Prop
  | nil : DHs C [] []
  | cons {e : Expr} {nm : Str} {b₀ : Stmt} {suite : List Stmt} {pos' : Pos} {tab : List (Str × Bool)} {i : Nat} {w : SW M} {hds : List ExceptHandler} {l : List (ClauseD M)} (hi : C.X.N[i]? = some nm) (hln : C.X.env.kindOf nm = some .local) (hc : CatchT C.X e fun n b => (n, b) ∈ tab)
      (hsu : ∀ a pn (B : Wd M), HotF (C.X.suite a pn).A B.F → DSs ⟨C.X.suite a pn, C.W0, xno, B⟩ (b₀ :: suite) w) (r : DHs C hds l) : DHs C (.ExceptHandler (some e) (some nm) (b₀ :: suite) pos' :: hds) ((tab, i, w) :: l)
  | consN {e : Expr} {b₀ : Stmt} {suite : List Stmt} {pos' : Pos} {tab : List (Str × Bool)} {i : Nat} {w : SW M} {hds : List ExceptHandler} {l : List (ClauseD M)} (hi : C.X.N.length ≤ i) (hc : CatchT C.X e fun n b => (n, b) ∈ tab)
      (hsu : ∀ a pn (B : Wd M), HotF (C.X.suite a pn).A B.F → DSs ⟨C.X.suite a pn, C.W0, xno, B⟩ (b₀ :: suite) w) (r : DHs C hds l) : DHs C (.ExceptHandler (some e) none (b₀ :: suite) pos' :: hds) ((tab, i, w) :: l)
theorem dhs_hds {hds : List ExceptHandler} {cl : List (ClauseD M)} (h : DHs C hds cl) : ∃ l', HdsT C.X hds l' ∧ ∀ (W : Wd M) (k : K3 M) (E : Ends), Lf C W k E → ∀ (x : Exn) (cls : Value) (d : Option Addr) (σ : L2.St) (ρ : DEnv) (W' : Wd M), Sat C σ ρ W' → Gs W W' → ExR C.X.K W' x cls d →
    wHs C.EX k x cl ρ W'.g → wHds (fun cls d σ H => EXs C σ cls d H) E x.cls cls d l' σ W'.H := by
  induction h with
  | nil => exact ⟨[], .nil, fun W k E l x cls d σ ρ W' S g hx h => ⟨x, ρ, W', rfl, S, hx, h⟩⟩
  | @cons e nm b₀ suite pos' tab i w hds cl hi hln hc hsu r ih =>
    obtain ⟨l', hl, ih⟩ := ih
    refine ⟨(fun n b => (n, b) ∈ tab, i, fun a D σ H => ∀ pn, tssOf (C.X.suite a pn) (b₀ :: suite) D σ H) :: l', .cons hi hln hc (fun a pn => ⟨fun pins s σ H D I h => h pn pins s I⟩) hl, fun W k E l x cls d σ ρ W' S g hx h => ?_⟩
    obtain ⟨b, hb, h⟩ := h
    refine ⟨b, hb, fun hb1 a oe na hz hf pn => ?_, fun hb0 => ?_⟩
    · subst hb1
      rw [if_pos rfl] at h
      have go := Go.lay (o := .frz oe exU) S.ok na
      have S2 := S.step go (S.ok.lay na)
      have rp : Rp C.X.K (upd W'.F a (.frz oe exU)) W'.R (.ref a) (.exn x.cls x.ns x.ds) := by
        obtain ⟨h1, ⟨Cc, rfl⟩, h3⟩ := hx
        rcases h3 with ⟨e1, e2, e3⟩ | ⟨dd, vs, e1, e2, e3, e4⟩
        · rw [e1, e2]
          rw [e3] at hz
          exact .exn0 h1 upd_same hz.zc hf
        · rw [e1] at hz
          exact .exn h1 upd_same hz.zc hf (go.sub _ _ e2) e3 (e4.step go)
      have S3 := S2.set (Go.refl _) S2.ok (s := .im (.exn x.cls x.ns x.ds)) (v := .ref a) rp i
      obtain ⟨fv, hfv⟩ := hf
      refine (hsu a pn (W'.lay a (.frz oe exU)) (.inr ⟨a, oe, fv, rfl, upd_same, hfv, hz.2.2 fv hfv⟩)).run _ _ (W'.lay a (.frz oe exU)) (unsetK i k) _ ⟨S3.ok, S3.go, S3.len, S3.sl, S3.dis, Gs.refl _⟩ ⟨fun σ' ρ' W2 g2 S' q => ?_, l.rt, fun σ' ρ' W2 g2 S' q => ?_, fun σ' ρ' W2 g2 S' q => ?_⟩ h
      · have S4 : Sat C σ' ρ' W2 := ⟨S'.ok, S'.go, S'.len, S'.sl, S'.dis, S2.gs.trans S'.gs⟩
        exact l.nx _ _ W2 ((g.trans go.s).trans g2) (S4.setNo i) q
      · have S4 : Sat C σ' ρ' W2 := ⟨S'.ok, S'.go, S'.len, S'.sl, S'.dis, S2.gs.trans S'.gs⟩
        exact l.bk _ _ W2 ((g.trans go.s).trans g2) (S4.setNo i) q
      · have S4 : Sat C σ' ρ' W2 := ⟨S'.ok, S'.go, S'.len, S'.sl, S'.dis, S2.gs.trans S'.gs⟩
        exact l.ct _ _ W2 ((g.trans go.s).trans g2) (S4.setNo i) q
    · subst hb0
      rw [if_neg (by simp)] at h
      exact ih W k E l x cls d σ ρ W' S g hx h
  | @consN e b₀ suite pos' tab i w hds cl hi hc hsu r ih =>
    obtain ⟨l', hl, ih⟩ := ih
    refine ⟨(fun n b => (n, b) ∈ tab, i, fun a D σ H => ∀ pn, tssOf (C.X.suite a pn) (b₀ :: suite) D σ H) :: l', .consN hi hc (fun a pn => ⟨fun pins s σ H D I h => h pn pins s I⟩) hl, fun W k E l x cls d σ ρ W' S g hx h => ?_⟩
    obtain ⟨b, hb, h⟩ := h
    refine ⟨b, hb, fun hb1 a oe na hz hf pn => ?_, fun hb0 => ?_⟩
    · subst hb1
      rw [if_pos rfl] at h
      have go := Go.lay (o := .frz oe exU) S.ok na
      have S2 := S.step go (S.ok.lay na)
      have rp : Rp C.X.K (upd W'.F a (.frz oe exU)) W'.R (.ref a) (.exn x.cls x.ns x.ds) := by
        obtain ⟨h1, ⟨Cc, rfl⟩, h3⟩ := hx
        rcases h3 with ⟨e1, e2, e3⟩ | ⟨dd, vs, e1, e2, e3, e4⟩
        · rw [e1, e2]
          rw [e3] at hz
          exact .exn0 h1 upd_same hz.zc hf
        · rw [e1] at hz
          exact .exn h1 upd_same hz.zc hf (go.sub _ _ e2) e3 (e4.step go)
      have S3 := S2.set (Go.refl _) S2.ok (s := .im (.exn x.cls x.ns x.ds)) (v := .ref a) rp i
      obtain ⟨fv, hfv⟩ := hf
      refine (hsu a pn (W'.lay a (.frz oe exU)) (.inr ⟨a, oe, fv, rfl, upd_same, hfv, hz.2.2 fv hfv⟩)).run _ _ (W'.lay a (.frz oe exU)) (unsetK i k) _ ⟨S3.ok, S3.go, S3.len, S3.sl, S3.dis, Gs.refl _⟩ ⟨fun σ' ρ' W2 g2 S' q => ?_, l.rt, fun σ' ρ' W2 g2 S' q => ?_, fun σ' ρ' W2 g2 S' q => ?_⟩ h
      · have S4 : Sat C σ' ρ' W2 := ⟨S'.ok, S'.go, S'.len, S'.sl, S'.dis, S2.gs.trans S'.gs⟩
        exact l.nx _ _ W2 ((g.trans go.s).trans g2) (S4.setNo i) q
      · have S4 : Sat C σ' ρ' W2 := ⟨S'.ok, S'.go, S'.len, S'.sl, S'.dis, S2.gs.trans S'.gs⟩
        exact l.bk _ _ W2 ((g.trans go.s).trans g2) (S4.setNo i) q
      · have S4 : Sat C σ' ρ' W2 := ⟨S'.ok, S'.go, S'.len, S'.sl, S'.dis, S2.gs.trans S'.gs⟩
        exact l.ct _ _ W2 ((g.trans go.s).trans g2) (S4.setNo i) q
    · subst hb0
      rw [if_neg (by simp)] at h
      exact ih W k E l x cls d σ ρ W' S g hx h
theorem ds_try {body : List Stmt} {h₀ : ExceptHandler} {hds : List ExceptHandler} {cl : List (ClauseD M)} {wb : (Exn → DEnv → M.G → Prop) → SW M} (hs : C.X.stack = C.X.env :: C.X.outer) (hf : C.X.env.frame = some C.X.env.locals) (hex : C.X.ex = []) (hN : C.X.N.Nodup) (tk : TakesD C)
    (hb : ∀ pn xe EX B, TakesD (M := M) ⟨C.X.tr pn xe, C.W0, EX, B⟩ → PassesOwn (model C.X.prog C.X.w) C.X.A C.X.env xe → DSs (M := M) ⟨C.X.tr pn xe, C.W0, EX, B⟩ body (wb EX)) (hh : DHs C (h₀ :: hds) cl) :
    DS C (.Try body (h₀ :: hds) [] [] pos) (wTry wb cl C.EX) := ⟨fun σ ρ W k E S l h => by
  obtain ⟨l', hl, chain⟩ := dhs_hds hh
  refine tsOf_of (ps_tryD (tb := fun Wx D σ H => ∀ pn xe, L2N.Takes (C.X.tr pn xe) Wx → PassesOwn (model C.X.prog C.X.w) C.X.A C.X.env xe → tssOf (C.X.tr pn xe) body D σ H) hs hf hex hN tk
    (fun Wx pn xe tk hp => ⟨fun pins s σ H D I h => h pn xe tk hp pins s I⟩) hl) (fun pn xe tk hp => ?_)
  have tk2 : TakesD (M := M) ⟨C.X.tr pn xe, C.W0, fun x ρ' g' => wHs C.EX k x cl ρ' g', W⟩ := tk.imp fun cls d σ' H' q => by
    obtain ⟨x, ρ', W', rfl, S', hx, q⟩ := q
    have S4 : Sat C σ' ρ' W' := ⟨S'.ok, S'.go, S'.len, S'.sl, S'.dis, ?_⟩
    · obtain ⟨h1, ⟨Cc, rfl⟩, h3⟩ := id hx
      exact ⟨x.cls, Cc, rfl, h1, chain W k E l x _ d σ' ρ' W' S4 S'.gs hx q⟩
    · exact S.gs.trans S'.gs
  exact (hb pn xe _ W tk2 hp).run σ ρ W k E ⟨S.ok, S.go, S.len, S.sl, S.dis, Gs.refl W⟩ ⟨fun σ' ρ' W' g S' q => l.nx σ' ρ' W' g ⟨S'.ok, S'.go, S'.len, S'.sl, S'.dis, S.gs.trans S'.gs⟩ q, l.rt, fun σ' ρ' W' g S' q => l.bk σ' ρ' W' g ⟨S'.ok, S'.go, S'.len, S'.sl, S'.dis, S.gs.trans S'.gs⟩ q,
    fun σ' ρ' W' g S' q => l.ct σ' ρ' W' g ⟨S'.ok, S'.go, S'.len, S'.sl, S'.dis, S.gs.trans S'.gs⟩ q⟩ h⟩
end
section
variable {K : Frag} {n x f : Str} {b d : Bool} {ms : List Str} {tab : List (Str × Bool)} {ns : List Str}
theorem tbS_nil : ∀ p ∈ ([] : List (Str × Bool)), SubT K p.1 x p.2 := fun _ h => by cases h
theorem tbS_cons (h : SubT K n x b) (r : ∀ p ∈ tab, SubT K p.1 x p.2) : ∀ p ∈ (n, b) :: tab, SubT K p.1 x p.2 := fun p hp => by
  rcases List.mem_cons.mp hp with rfl | hp
  · exact h
  · exact r p hp
theorem tbA_nil : ∀ p ∈ ([] : List (Str × Bool)), SubA K p.1 ms p.2 := fun _ h => by cases h
theorem tbA_cons (h : SubA K n ms b) (r : ∀ p ∈ tab, SubA K p.1 ms p.2) (e : b = d := by rfl) : ∀ p ∈ (n, d) :: tab, SubA K p.1 ms p.2 := fun p hp => by
  subst e
  rcases List.mem_cons.mp hp with rfl | hp
  · exact h
  · exact r p hp
theorem tbF_nil : ∀ n ∈ ([] : List Str), FldT K n f := fun _ h => by cases h
theorem tbF_cons (h : FldT K n f) (r : ∀ m ∈ ns, FldT K m f) : ∀ m ∈ n :: ns, FldT K m f := fun m hm => by
  rcases List.mem_cons.mp hm with rfl | hm
  · exact h
  · exact r m hm
end
section
variable {M : Ghost} {C : Ct M} {W W1 W2 W' : Wd M} {σ : L2.St} {ρ : DEnv} {pos : Pos}
theorem de_dic0 : DE C (.Dict [] [] pos) (wC (.dic [])) := ⟨fun σ ρ W Q q S hQ hw =>
  tOf_of pe_dnewK (fun d hd => hQ _ _ (W.lay d (.dK [])) (Go.lay S.ok hd) (S.ok.lay hd) (.dic upd_same .nil) hw)⟩
theorem de_dic1 (y : List Nat) {x : Str} {i : Int} {j j2 : Nat} {p1 p2 : Pos} (h : x.cps.toList = y := by decide) : DE C (.Dict [some (.Constant (.str x) j p1)] [.Constant (.int i) j2 p2] pos) (wC (.dic [(.inr (S y), .int i)])) := ⟨fun σ ρ W Q q S hQ hw =>
  tOf_of (pe_disp (pps_cons pe_str pe_int pps_nil) (by rfl) (by rfl) (fun z => by cases z) (by simp)) (fun d hd => ⟨upd_same, [(.inr x, .int i)], rfl, by simp, by
    subst h
    rw [upd_upd, S_of] at *
    exact hQ _ _ (W.lay d (.dK [(.inr x, .int i)])) (Go.lay S.ok hd) (S.ok.lay hd) (.dic upd_same (.cons (.int i) .nil)) (by rw [← S_of x] ; exact hw)⟩)⟩
end
end DL
set_option Elab.async false
set_option linter.all false
set_option maxRecDepth 100000
set_option maxHeartbeats 1000000
namespace DL
open PySem L2
section
variable {X : Cx}
/-- a list beside an empty one -/
def rNil (K : PySem.W.Frag) (f : Bool → Bool) : R2 := fun x y H Q => ∃ p q xs, x = .ref p ∧ y = .ref q ∧ SqL K H p xs ∧ SqL K H q [] ∧ Q (.bl (f xs.isEmpty)) H
theorem op_eqNil (hu : X.A.units < cLine) : OpR X (compareOp .Eq) (rNil X.K id) := by
  intro pins s σ H x y v u Q I rx ry h
  obtain ⟨p, q, xs, rfl, rfl, h1, h2, hq⟩ := h
  cases (show v = Value.ref p from rx)
  cases (show u = Value.ref q from ry)
  obtain ⟨its, rv, l1, _⟩ := I.list h1
  obtain ⟨it2, rw2, l2, _⟩ := I.list h2
  cases rw2
  cases rv with
  | nil => exact PySem.SeqAt.eq_listAt (e := fun _ => true) l1.isList l2.isList rfl hu (fun j h1 _ => absurd h1 (by simp)) ⟨.bl _, H, I, rfl, hq⟩
  | cons a t => exact PySem.SeqAt.eq_list_lengthsAt l1.isList l2.isList (by simp) hu ⟨.bl _, H, I, rfl, hq⟩
theorem op_neNil (hu : X.A.units < cLine) : OpR X (compareOp .NotEq) (rNil X.K not) := by
  intro pins s σ H x y v u Q I rx ry h
  obtain ⟨p, q, xs, rfl, rfl, h1, h2, hq⟩ := h
  cases (show v = Value.ref p from rx)
  cases (show u = Value.ref q from ry)
  obtain ⟨its, rv, l1, _⟩ := I.list h1
  obtain ⟨it2, rw2, l2, _⟩ := I.list h2
  cases rw2
  cases rv with
  | nil => exact PySem.SeqAt.RcNeAt.lists (e := fun _ => true) l1.isList l2.isList rfl hu (fun j h1 _ => absurd h1 (by simp)) X.prog X.w _ _ ⟨.bl _, H, I, rfl, hq⟩
  | cons a t => exact PySem.SeqAt.RcNeAt.lists_lengths l1.isList l2.isList (by simp) hu X.prog X.w _ _ ⟨.bl _, H, I, rfl, hq⟩
/-- xs.count(y), flat items -/
def rCntF (K : PySem.W.Frag) : V → List V → Hp → VK → Prop := fun x xs H Q => ∃ (a : Addr) (ys : List V) (y : V), x = V.ref a ∧ xs = [y] ∧ SqL K H a ys ∧ flatV y = true ∧ ys.all flatV = true ∧ Q (.int ((ys.countP fun z => eqV z y : Nat) : Int)) H
theorem countU {y : V} : ∀ {ys : List V} {us : List Value}, Vals ys us → ys.all flatV = true → us.countP (eqU y) = ys.countP fun z => eqV z y
  | _, _, .nil, _ => rfl
  | z :: ys, u :: us, .cons r t, f => by
    rw [List.all_cons, Bool.and_eq_true] at f
    rw [List.countP_cons, List.countP_cons, countU t f.2, eqU_of r f.1]
theorem mt_countF : MtR X "list.count" (rCntF X.K) := by
  intro pins s σ H x xs v us Q I rx rxs h
  obtain ⟨a, ys, y, rfl, rfl, hs, fy, fys, q⟩ := h
  cases rx
  cases rxs with
  | cons ry rt =>
    rename_i uy ut
    cases rt
    obtain ⟨its, rv, ⟨⟨cls, dd, data, sl⟩, n, ho, hc, hdn, hd⟩, hlen⟩ := I.list hs
    simp only at hc hd
    subst hc hd
    refine call_meets PySem.F.slot_list_count ⟨_, ho, rfl⟩ PySem.F.entry_list_count (PySem.F.args_list_count_2 _ _)
      (PySem.SeqAt.list_countAt a its.toArray n dd sl uy (eqU y)) ⟨ho, fun u' hu' => mem_eqAt ry fy rv fys u' (by simpa using hu'), ?_⟩
    have ec : its.toArray.toList.countP (eqU y) = ys.countP fun z => eqV z y := countU rv fys
    rw [ec]
    exact ⟨.int _, H, I.tok _, ⟨_, rfl⟩, q⟩
end
section
variable {M : Ghost} {C : Ct M} {W W1 W2 W' : Wd M} {σ : L2.St} {ρ : DEnv} {e o : Expr} {es : List Expr} {we wo : EW M} {pos apos : Pos} {wa : AW M}
def oNil (f : Bool → Bool) : D → D → (D → Prop) → Prop
  | .lst x, .lst [], q => q (.bl (f x.isEmpty))
  | _, _, _ => False
theorem opd_nil {f : Bool → Bool} {op : Value → Value → Sem Value} (h : OpR C.X op (rNil C.X.K f)) : OpD C op (oNil f) := by
  refine ⟨_, h, fun W x y d e Q q k r1 r2 hQ h => ?_⟩
  cases d with
  | lst a =>
    cases e with
    | lst b =>
      cases b with
      | nil =>
        obtain ⟨p, vs, rfl, hp, np, ra⟩ := r1.lst_inv k
        obtain ⟨p2, vs2, rfl, hp2, np2, rb⟩ := r2.lst_inv k
        cases rb
        refine ⟨p, p2, vs, rfl, rfl, .of hp, .of hp2, hQ _ _ W (Go.refl W) k rfl (.bl _) ?_⟩
        cases ra <;> exact h
      | cons => exact h.elim
    | _ => exact h.elim
  | _ => exact h.elim
def oNilT (f : Bool → Bool) : D → D → (D → Prop) → Prop
  | .tup x, .tup [], q => q (.bl (f x.isEmpty))
  | _, _, _ => False
@[simp] theorem sm_nilT {f : Bool → Bool} {ds : List D} {q : D → Prop} : oNilT f (.tup ds) (.tup []) q = q (.bl (f ds.isEmpty)) := rfl
theorem opd_eqNil (hu : C.X.A.units + 64 < cLine) : OpD C (compareOp .Eq) (oNil id) := opd_nil (op_eqNil (by omega))
theorem opd_neNil (hu : C.X.A.units + 64 < cLine) : OpD C (compareOp .NotEq) (oNil not) := opd_nil (op_neNil (by omega))
@[simp] theorem sm_nil {f : Bool → Bool} {ds : List D} {q : D → Prop} : oNil f (.lst ds) (.lst []) q = q (.bl (f ds.isEmpty)) := rfl
/-- the first place of an item -/
def ixD (y : D) (ds : List D) (q : D → Prop) : Prop := flatD y = true ∧ ds.all flatD = true ∧ ∃ j : Nat, (∃ z, ds[j]? = some z ∧ eqF z y = true) ∧ (∀ (m : Nat) z, m < j → ds[m]? = some z → eqF z y = false) ∧ q (.int j)
@[simp] def wIndex (wo we : EW M) : EW M := fun ρ g q => wo ρ g fun d g1 => ∃ ds, d = .lst ds ∧ we ρ g1 fun y g2 => ixD y ds fun r => q r g2
@[simp] def wCount (wo we : EW M) : EW M := fun ρ g q => wo ρ g fun d g1 => ∃ ds, d = .lst ds ∧ we ρ g1 fun y g2 => flatD y = true ∧ ds.all flatD = true ∧ q (.int ((ds.countP fun z => eqF z y : Nat) : Int)) g2
theorem rpa_eqF {K : PySem.W.Frag} {F : Hp} {R : List Addr} {u : V} {y : D} (r : Rp K F R u y) : ∀ {vs : List V} {ds : List D}, RpA K F R vs ds → (vs.countP fun z => eqV z u) = ds.countP fun z => eqF z y
  | _, _, .nil => rfl
  | _, _, .cons a t => by rw [List.countP_cons, List.countP_cons, rpa_eqF r t, rp_eqF a r]
theorem de_index (ho : DP C o wo) (he : DE C e we) (hbase : attributeBase o "index" C.X.env (eval o C.X.env) = eval o C.X.env := by rfl)
    (hfew : ((backTo pos (starEach [e] C.X.env)).all (fun x => !x.1) && (backToKw pos (keywordEach [] C.X.env)).all (fun x => x.1.isSome) && decide ([e].length + ([] : List Keyword).length + (if ([] : List Keyword).isEmpty then 0 else 1) < 30)) = true := by rfl)
    (hline : (apos.endLine == pos.line) = true := by rfl) (hs : starEach [e] C.X.env = [(false, eval e C.X.env)] := by rfl) (hpl : (backTo pos (starEach [] C.X.env)).any (·.1) = false := by rfl) :
    DE C (.Call (.Attribute o "index" apos) [e] [] pos) (wIndex wo we) := ⟨fun σ ρ W Q q S hQ hw =>
  tOf_of (pe_bm PySem.F.plainAttrs_list PySem.F.slot_list_index PySem.F.type_list_index mt_index pe_tOf (pa_cons pe_tOf pa_nil hs) hbase hfew hline hs hpl) (ho.run σ ρ W _ _ S (fun v d W1 g1 k1 r1 q1 => by
    cases d with
    | lst ds =>
      obtain ⟨p, vs, rfl, hp, np, ra⟩ := r1.lst_inv k1
      obtain ⟨ds', e1, q1⟩ := q1
      cases e1
      refine ⟨.inl ⟨rfl, _, .of hp⟩, he.run σ ρ W1 _ _ (S.step g1 k1) (fun u y W2 g2 k2 r2 q2 => ?_) q1⟩
      obtain ⟨h1, h2, j, ⟨z, hz, hzy⟩, hno, q2⟩ := q2
      have ra2 := ra.step g2
      have hp2 := g2.keep _ _ hp np
      obtain ⟨v', hv, rv⟩ := ra2.get' hz
      refine ⟨p, vs, u, j, v', rfl, rfl, .of hp2, (rp_flat r2).trans h1, (rpa_flat ra2).trans h2, hv, (rp_eqF rv r2).trans hzy, fun m z' hm hz' => ?_, hQ _ _ W2 (g1.trans g2) k2 (.int _) q2⟩
      obtain ⟨d', hd', rd⟩ := ra2.get hz'
      exact (rp_eqF rd r2).trans (hno m d' hm hd')
    | _ => obtain ⟨_, h, _⟩ := q1; cases h) hw)⟩
theorem de_count (ho : DP C o wo) (he : DE C e we) (hbase : attributeBase o "count" C.X.env (eval o C.X.env) = eval o C.X.env := by rfl)
    (hfew : ((backTo pos (starEach [e] C.X.env)).all (fun x => !x.1) && (backToKw pos (keywordEach [] C.X.env)).all (fun x => x.1.isSome) && decide ([e].length + ([] : List Keyword).length + (if ([] : List Keyword).isEmpty then 0 else 1) < 30)) = true := by rfl)
    (hline : (apos.endLine == pos.line) = true := by rfl) (hs : starEach [e] C.X.env = [(false, eval e C.X.env)] := by rfl) (hpl : (backTo pos (starEach [] C.X.env)).any (·.1) = false := by rfl) :
    DE C (.Call (.Attribute o "count" apos) [e] [] pos) (wCount wo we) := ⟨fun σ ρ W Q q S hQ hw =>
  tOf_of (pe_bm PySem.F.plainAttrs_list PySem.F.slot_list_count PySem.F.type_list_count mt_countF pe_tOf (pa_cons pe_tOf pa_nil hs) hbase hfew hline hs hpl) (ho.run σ ρ W _ _ S (fun v d W1 g1 k1 r1 q1 => by
    cases d with
    | lst ds =>
      obtain ⟨p, vs, rfl, hp, np, ra⟩ := r1.lst_inv k1
      obtain ⟨ds', e1, q1⟩ := q1
      cases e1
      refine ⟨.inl ⟨rfl, _, .of hp⟩, he.run σ ρ W1 _ _ (S.step g1 k1) (fun u y W2 g2 k2 r2 q2 => ?_) q1⟩
      obtain ⟨h1, h2, q2⟩ := q2
      have ra2 := ra.step g2
      have hp2 := g2.keep _ _ hp np
      refine ⟨p, vs, u, rfl, rfl, .of hp2, (rp_flat r2).trans h1, (rpa_flat ra2).trans h2, hQ _ _ W2 (g1.trans g2) k2 (.int _) ?_⟩
      rw [rpa_eqF r2 ra2]
      exact q2
    | _ => obtain ⟨_, h, _⟩ := q1; cases h) hw)⟩
end
end DL
set_option Elab.async false
set_option linter.all false
set_option maxRecDepth 100000
set_option maxHeartbeats 1000000
namespace DL
open PySem L2 PySem.W
section
variable {K : Frag}
theorem kit_of {t c : Value} {b : Bool} (h : kitCls K t c = some b) (hs : t = c → b = true) : kitOne K t c = some b := by
  unfold kitOne
  by_cases e : t = c
  · subst e
    rw [if_pos (beq_self_eq_true _), hs rfl]
  · rw [if_neg (by simpa using e)]
    exact h
theorem kitCls_ref {C : Addr} {t : Value} {b : Bool} (hdct : hasDictIn K C = true) (ht : typeIn K (.ref C) = some (.type "type")) (h4 : subIn K t (.ref C) = some b) : kitCls K t (.ref C) = some b := by
  obtain ⟨cd, hc, _⟩ := any_some hdct
  have e2 : ((clsIn K C).isSome && typeIn K (.ref C) == some (.type "type")) = true := by rw [hc, ht] <;> rfl
  show (if ((clsIn K C).isSome && typeIn K (.ref C) == some (.type "type")) = true then subIn K t (.ref C) else none) = some b
  rw [if_pos e2]
  exact h4
/-- both classes of the text -/
theorem subT_own {n m : Str} {b : Bool} {C C' : Addr} (h1 : nsIn K mainGlobals n = some (some (.ref C))) (h2 : nsIn K mainGlobals m = some (some (.ref C'))) (sb : subIn K (.ref C) (.ref C') = some b) (ss : subIn K (.ref C) (.ref C) = some true)
    (eb : subIn K (.ref C') (.type "BaseException") = some true) (hd : hasDictIn K C' = true) (ty : typeIn K (.ref C') = some (.type "type")) (h5 : ExcC K C) : SubT K n m b :=
  .mk' h1 (.own h2) (exm_ref eb hd ty sb) (kit_of (kitCls_ref hd ty sb) fun e => by cases e; rw [ss] at sb; cases sb; rfl) h5
/-- the other one built in -/
theorem subT_ty {n m : Str} {T : String} {b : Bool} {C : Addr} (h1 : nsIn K mainGlobals n = some (some (.ref C))) (h2 : nsIn K mainGlobals m = some none) (hb : bootBuiltins m = some (.type T)) (hm : m ≠ "__name__") (sb : subIn K (.ref C) (.type T) = some b)
    (se : subIn K (.type T) (.type "BaseException") = some true) (mt : kitMeta T = true) (h5 : ExcC K C) : SubT K n m b := by
  have hk : kitCls K (.ref C) (.type T) = some b := by
    show (if kitMeta T = true then subIn K (.ref C) (.type T) else none) = some b
    rw [if_pos mt]
    exact sb
  refine .mk' h1 (.ty h2 hb hm) ?_ (kit_of hk fun e => nomatch e) h5
  unfold exmOne
  rw [se]
  exact hk
theorem exInit_of {C N : Addr} {nm q : Str} {bs bm : List Value} {sn : List Str} {sub : List Value} {ab : Bool} {col : Option Bool} {dd : Option Addr} {m0 m1 m2 m3 m5 : Option Value} {bmB : List Value} {newId : String}
    (xL : K.lookup C = some (excClassObj nm q C N bs bm true sn sub ab col dd m0 m1 m2 m3 m5 newId)) (te : excTail bmB bm = true) : excInitIn K C bmB newId = true ∧ excOver K C bmB = true := by
  constructor
  · unfold excInitIn
    rw [xL]
    simp [excClassObj, te]
  · unfold excOver clsIn
    rw [xL]
    simp [excClassObj, te]
end
end DL
set_option Elab.async false
set_option linter.all false
set_option maxRecDepth 100000
set_option maxHeartbeats 1000000
namespace DL
open PySem L2 PySem.W
section
variable {X : Cx}
end
section
variable {M : Ghost} {C : Ct M}
def cListX : List D → (List D → Prop) → Prop
  | [.lst ds], q => q ds
  | [.tup ds], q => q ds
  | [.str x], q => x.length ≤ sizeLine ∧ q (x.map fun c => .str [c])
  | _, _ => False
@[simp] theorem sm_listX1 {ds : List D} {qn : List D → Prop} : (cListX [.lst ds] qn) = (qn ds) := rfl
@[simp] theorem sm_listX2 {ds : List D} {qn : List D → Prop} : (cListX [.tup ds] qn) = (qn ds) := rfl
@[simp] theorem sm_listX3 {x : List Nat} {qn : List D → Prop} : (cListX [.str x] qn) = (x.length ≤ sizeLine ∧ qn (x.map fun c => .str [c])) := rfl
end
end DL
set_option Elab.async false
set_option linter.all false
set_option maxRecDepth 100000
set_option maxHeartbeats 1000000
namespace DL
open PySem L2
section
variable {M : Ghost} {C : Ct M} {W W1 W2 W' : Wd M} {σ : L2.St} {ρ : DEnv} {e : Expr} {we : EW M} {pos : Pos}
end
end DL
set_option Elab.async false
set_option linter.all false
set_option maxRecDepth 100000
set_option maxHeartbeats 4000000
namespace L2
open PySem PySem.Spec PyProof.Rows
section
variable {X : Cx}
end
end L2
namespace DL
open PySem L2
section
variable {M : Ghost} {C : Ct M}
def oMulT : D → D → (D → Prop) → Prop
  | .tup x, .int j, q => x ≠ [] ∧ 0 ≤ j ∧ j ≤ 1000 ∧ x.length ≤ 1000 ∧ q (.tup (List.replicate j.toNat x).flatten)
  | _, _, _ => False
@[simp] theorem sm_mulT {ds : List D} {j : Int} {q : D → Prop} : (oMulT (.tup ds) (.int j) q) = (ds ≠ [] ∧ 0 ≤ j ∧ j ≤ 1000 ∧ ds.length ≤ 1000 ∧ q (.tup (List.replicate j.toNat ds).flatten)) := rfl
end
end DL
set_option Elab.async false
set_option linter.all false
set_option maxRecDepth 100000
set_option maxHeartbeats 1000000
namespace DL
open PySem L2
section
variable {M : Ghost} {C : Ct M} {W W1 W2 W' : Wd M} {σ : L2.St} {ρ : DEnv} {e e1 e2 : Expr} {we w1 w2 wi : EW M} {pos p1 p2 s1 s2 apos cpos : Pos}
end
end DL
set_option Elab.async false
set_option linter.all false
set_option maxRecDepth 100000
set_option maxHeartbeats 3200000
namespace DL
open PySem L2
def kyE (e : Int × Value) : Key := match e.2 with
  | .int i _ => .inl i
  | .str x _ => .inr x
  | _ => .inl 0
theorem kyE_is {k : Key} {e : Int × Value} (h : keyIs k e.2 = true) : kyE e = k := by
  obtain ⟨z, v⟩ := e
  rcases keyIs_shape h with ⟨i, u, rfl, rfl⟩ | ⟨x, u, rfl, rfl⟩ <;> rfl
/-- the set at an address, of these members -/
structure MSet (P : Program) (w : World) (h : Heap) (a : Addr) (o : Obj) (es : Array (Int × Value)) (ep : Nat) (tb : SetTable) (L : List Key) : Prop where
  at_ : h.get? a = some o
  ex : o.ExactSet
  dat : o.data = .set es ep tb
  el : ElemsOf (mixKind P w) es.toList
  ks : (es.toList.map kyE).Perm L
  nd : L.Nodup
  few : es.size < scanBound
  fit : tb.fits es.size = true
  ris : Ris tb.place.toList
  led : w.params.followText "set-order" = true ∨ tb.led = true
def IsM (P : Program) (w : World) (h : Heap) (a : Addr) (L : List Key) : Prop := ∃ o es ep tb, MSet P w h a o es ep tb L
section
variable {P : Program} {w : World} {A : Around} {E : Value → Shared → Prop} {s : Shared} {a : Addr} {L : List Key} {k : Key} {v : Value}
theorem MSet.size {h : Heap} {o : Obj} {es : Array (Int × Value)} {ep : Nat} {tb : SetTable} (M : MSet P w h a o es ep tb L) : es.size = L.length := by
  have := M.ks.length_eq
  rw [List.length_map, Array.length_toList] at this
  exact this
theorem MSet.mem {h : Heap} {o : Obj} {es : Array (Int × Value)} {ep : Nat} {tb : SetTable} (M : MSet P w h a o es ep tb L) (j : Key) : j ∈ L ↔ ∃ e ∈ es.toList, keyIs j e.2 = true := by
  rw [← M.ks.mem_iff, List.mem_map]
  constructor
  · rintro ⟨e, he, rfl⟩
    obtain ⟨⟨j, hj, _⟩, _⟩ := M.el e he
    exact ⟨e, he, by rw [kyE_is hj]; exact hj⟩
  · rintro ⟨e, he, hj⟩
    exact ⟨e, he, kyE_is hj⟩
theorem IsM.keep {h h' : Heap} (R : IsM P w h a L) (k : ∀ o, h.get? a = some o → h'.get? a = some o) : IsM P w h' a L := by
  obtain ⟨o, es, ep, tb, M⟩ := R
  exact ⟨o, es, ep, tb, k o M.at_, M.ex, M.dat, M.el, M.ks, M.nd, M.few, M.fit, M.ris, M.led⟩
theorem IsM.fresh (h : Heap) : IsM P w (h.push { cls := .type "set", dict := none, data := .set #[] 0 (.fresh 0 0 (!w.params.followText "set-order")) }) h.objs.size [] := by
  refine ⟨_, #[], 0, _, Heap.get?_push_size _ rfl, ⟨rfl, rfl, rfl⟩, rfl, fun e he => by simp at he, by simp, List.nodup_nil, by decide, by rfl, List.Pairwise.nil, ?_⟩
  cases z : w.params.followText "set-order"
  · exact .inr rfl
  · exact .inl rfl
end

section
variable {X : Cx}
end

section
variable {M : Ghost} {C : Ct M} {e : Expr} {wA : AW M} {p p2 pos pos2 : Pos}
theorem strs_rpa {K : PySem.W.Frag} {F : Hp} {R : List Addr} : ∀ ys : List Str, RpA K F R (ys.map V.str) ((ys.map fun y => y.cps.toList).map D.str)
  | [] => .nil
  | y :: ys => .cons (rp_str y) (strs_rpa ys)
end
end DL
set_option Elab.async false
set_option linter.all false
set_option maxRecDepth 100000
set_option maxHeartbeats 1000000
namespace DL
open PySem L2
section
variable {M : Ghost} {C : Ct M}
def oIsTB (f : Bool → Bool) : D → D → (D → Prop) → Prop
  | .bl a, .bl b, q => q (.bl (f (decide (a = b))))
  | _, _, _ => False
def oIsT := oIsTB id
def oNotT := oIsTB not
@[simp] theorem sm_isT {a b : Bool} {q : D → Prop} : (oIsT (.bl a) (.bl b) q) = (q (.bl (decide (a = b)))) := rfl
@[simp] theorem sm_notT {a b : Bool} {q : D → Prop} : (oNotT (.bl a) (.bl b) q) = (q (.bl (!decide (a = b)))) := rfl
end
end DL
set_option Elab.async false
set_option linter.all false
set_option maxRecDepth 100000
set_option maxHeartbeats 1000000
namespace DL
open PySem L2
section
variable {M : Ghost} {C : Ct M} {o e : Expr} {wo we : EW M} {apos pos : Pos}
end
end DL
set_option Elab.async false
set_option linter.all false
set_option maxRecDepth 100000
set_option maxHeartbeats 1000000
namespace DL
open PySem L2
section
variable {K : PySem.W.Frag} {F : Hp} {R : List Addr}
end
section
variable {M : Ghost} {C : Ct M} {e e2 ke ve : Expr} {we wi wk wv : EW M} {pos p1 : Pos}
end
section
variable {M : Ghost} {C : Ct M} {W W1 W2 W3 : Wd M} {σ : L2.St} {ρ : DEnv} {pos : Pos}
end
section
variable {M : Ghost} {C : Ct M} {e : Expr}
end
end DL
set_option Elab.async false
set_option linter.all false
set_option maxRecDepth 100000
set_option maxHeartbeats 1000000
namespace DL
open PySem L2
section
variable {K : PySem.W.Frag} {F : Hp} {R : List Addr}
end
section
variable {M : Ghost} {C : Ct M} {e : Expr} {we : EW M} {pos p1 p2 apos bpos cpos dpos : Pos}
end
end DL
set_option Elab.async false
set_option linter.all false
set_option maxRecDepth 100000
set_option maxHeartbeats 1000000
namespace DL
open PySem L2
section
variable {M : Ghost} {C : Ct M} {o e : Expr} {wo we : EW M} {apos pos : Pos}
end
end DL
set_option Elab.async false
set_option linter.all false
set_option maxRecDepth 100000
set_option maxHeartbeats 1000000
namespace DL
open PySem L2
section
variable {X : Cx}
end
section
variable {M : Ghost} {C : Ct M}
end
end DL
set_option Elab.async false
set_option linter.all false
set_option maxRecDepth 100000
set_option maxHeartbeats 1000000
namespace DL
open PySem L2
section
variable {M : Ghost} {C : Ct M} {o : Expr} {wo : EW M} {apos pos : Pos}
end
end DL
set_option Elab.async false
set_option linter.all false
set_option maxRecDepth 100000
set_option maxHeartbeats 1000000
namespace DL
open PySem L2 PySem.W
section
variable {prog : Program} {w : World} {A : Around} {E : Value → Shared → Prop} {s : Shared}
end
section
variable {X : Cx}
end
section
variable {M : Ghost} {C : Ct M}
def cTupleX : List D → (D → Prop) → Prop
  | [.lst ds], q => q (.tup ds)
  | [.tup ds], q => q (.tup ds)
  | [.str x], q => x.length ≤ sizeLine ∧ q (.tup (x.map fun c => .str [c]))
  | _, _ => False
@[simp] theorem sm_tupleX1 {ds : List D} {q : D → Prop} : (cTupleX [.lst ds] q) = (q (.tup ds)) := rfl
@[simp] theorem sm_tupleX2 {ds : List D} {q : D → Prop} : (cTupleX [.tup ds] q) = (q (.tup ds)) := rfl
@[simp] theorem sm_tupleX3 {x : List Nat} {q : D → Prop} : (cTupleX [.str x] q) = (x.length ≤ sizeLine ∧ q (.tup (x.map fun c => .str [c]))) := rfl
end
end DL
set_option Elab.async false
set_option linter.all false
set_option maxRecDepth 100000
set_option maxHeartbeats 1000000
namespace DL
open PySem PySem.Spec PyProof.Rows L2
section
variable {M : Ghost} {C : Ct M} {e : Expr} {we : EW M} {pos : Pos} {k1 : Nat} {p1 p2 p3 : Pos}
end
/-- whether a text stands somewhere in another -/
def subB (x z : List Nat) : Bool := (List.range (z.length + 1)).any fun p => decide ((z.drop p).take x.length = x)
section
variable {M : Ghost} {C : Ct M} {W W1 W2 W' : Wd M} {σ : L2.St} {ρ : DEnv} {e : Expr} {es : List Expr} {we : EW M} {pos : Pos}
def oInT (d e : D) (q : D → Prop) : Prop := ∃ x z : List Nat, d = .str x ∧ e = .str z ∧ q (.bl (subB x z))
def oNotInT (d e : D) (q : D → Prop) : Prop := ∃ x z : List Nat, d = .str x ∧ e = .str z ∧ q (.bl (!subB x z))
@[simp] theorem sm_inT {x z : List Nat} {q : D → Prop} : (oInT (.str x) (.str z) q) = (q (.bl (subB x z))) := by
  refine propext ⟨?_, fun h => ⟨x, z, rfl, rfl, h⟩⟩
  rintro ⟨a, b, e1, e2, h⟩
  cases e1; cases e2; exact h
@[simp] theorem sm_notInT {x z : List Nat} {q : D → Prop} : (oNotInT (.str x) (.str z) q) = (q (.bl (!subB x z))) := by
  refine propext ⟨?_, fun h => ⟨x, z, rfl, rfl, h⟩⟩
  rintro ⟨a, b, e1, e2, h⟩
  cases e1; cases e2; exact h
end
end DL
set_option Elab.async false
set_option linter.all false
set_option maxRecDepth 100000
set_option maxHeartbeats 1000000
namespace DL
open PySem L2
end DL
set_option Elab.async false
set_option linter.all false
set_option maxRecDepth 100000
set_option maxHeartbeats 1000000
namespace DL
open PySem L2 PySem.W PySem.SeqAt
/-- a text and a number, by the text first -/
def ltTI (a : List Nat) (i : Int) (c : List Nat) (j : Int) : Bool := if a = c then decide (i < j) else decide (a < c)
section
variable {X : Cx}
end
section
variable {M : Ghost} {C : Ct M}
def oLtTI : D → D → (D → Prop) → Prop := fun d e q => ∃ a i c j, d = .tup [.str a, .int i] ∧ e = .tup [.str c, .int j] ∧ q (.bl (ltTI a i c j))
@[simp] theorem sm_ltTI {a c : List Nat} {i j : Int} {q : D → Prop} : oLtTI (.tup [.str a, .int i]) (.tup [.str c, .int j]) q = q (.bl (ltTI a i c j)) := by
  refine propext ⟨fun h => ?_, fun h => ⟨a, i, c, j, rfl, rfl, h⟩⟩
  obtain ⟨_, _, _, _, e1, e2, h⟩ := h
  cases e1; cases e2; exact h
/-- divmod -/
def cDivmod (ds : List D) (q : D → Prop) : Prop := ∃ i j : Int, ds = [.int i, .int j] ∧ CDiv i j ∧ q (.tup [.int (i / j), .int (i % j)])
@[simp] theorem sm_divmod {i j : Int} {q : D → Prop} : cDivmod [.int i, .int j] q = (CDiv i j ∧ q (.tup [.int (i / j), .int (i % j)])) := by
  refine propext ⟨fun h => ?_, fun h => ⟨i, j, rfl, h.1, h.2⟩⟩
  obtain ⟨_, _, e, h1, h2⟩ := h
  cases e
  exact ⟨h1, h2⟩
end
end DL
set_option Elab.async false
set_option linter.all false
set_option maxRecDepth 100000
set_option maxHeartbeats 1000000
namespace DL
open PySem L2
section
variable {P : Program} {w : World} {K : PySem.W.Frag} {mg : Str → Option Value} {base : Heap}
end
section
variable {X : Cx} {k : Nat} {f : Addr} {sp : Sp} {E : L2.St → XK} {x : Str} {p pos : Pos} {e : Expr} {es : List Expr} {t : TA}
end
section
variable {M : Ghost} {C : Ct M} {W W1 W2 W' : Wd M} {σ : L2.St} {ρ : DEnv} {e : Expr} {es : List Expr} {we : EW M} {pos p : Pos} {wa : AW M}
end

section
variable {X : Cx} {pos : Pos}
theorem pgs_star {e : Expr} {es : List Expr} {t : TG} {u : TGs} {sp : Pos} (h1 : PG X e t) (h2 : PGs X es u) : PGs X (.Starred e sp :: es) (gCons t u) := by
  refine ⟨fun pins s σ H vs us Q I r h => ?_⟩
  obtain ⟨v, vr, rfl, h⟩ := h
  cases r with
  | cons r rr =>
    show wpAny _ _ (assignInOrder (assign e X.env :: (assignEach es X.env).map (·.2)) _) _ _ s
    exact PyProof.Rows.assignInOrder_cons (thn (h1.run pins s σ H _ _ _ I r h) fun _ s1 ⟨σ1, H1, I1, q1⟩ => h2.run pins s1 σ1 H1 _ _ Q I1 rr q1)
end

section
variable {M : Ghost} {C : Ct M} {e : Expr} {we : EW M} {pos : Pos}
end
end DL
set_option Elab.async false
set_option linter.all false
set_option maxRecDepth 100000
set_option maxHeartbeats 1000000
namespace DL
open PySem L2
section
variable {X : Cx}
end
section
variable {M : Ghost} {C : Ct M}
end
end DL
set_option Elab.async false
set_option linter.all false
set_option maxRecDepth 100000
set_option maxHeartbeats 1000000
namespace DL
open PySem L2 PySem.W PySem.SeqAt
section
variable {X : Cx}
end
section
variable {M : Ghost} {C : Ct M}
end
end DL
set_option Elab.async false
set_option linter.all false
set_option maxRecDepth 100000
set_option maxHeartbeats 1000000
namespace DL
open PySem L2
section
variable {M : Ghost} {C : Ct M}
end
end DL
set_option Elab.async false
set_option linter.all false
set_option maxRecDepth 100000
set_option maxHeartbeats 1000000
namespace DL
open PySem L2
section
variable {X : Cx} {pos : Pos}
/-- the first item of a list, and a new list of the others -/
def gHeadL (K : PySem.W.Frag) (t : TGs) : TG := fun v σ H Q => ∃ a x xs, v = .ref a ∧ SqL K H a (x :: xs) ∧ xs.length ≤ 10000 ∧ ∀ p, H p = none → t [x, .ref p] σ (upd H p (.lst xs)) Q
theorem pg_headL {es : List Expr} {k : Nat} {t : TGs} (hc : X.calm = true) (h : PGs X es t) (hn : (assignEach es X.env).length = 2 := by rfl) (hst : (assignEach es X.env).findIdx? (·.1) = some 1 := by rfl) :
    PG X (.Tuple es k pos) (gHeadL X.K t) := by
  refine ⟨fun pins s σ H v u Q I r hw => ?_⟩
  obtain ⟨a, x, xs, rfl, hq, hl, hw⟩ := hw
  cases r
  obtain ⟨its, rv, pl, hz⟩ := I.list hq
  have ht := pl.isList
  cases rv with
  | cons rx rxs =>
    rename_i ux uxs
    have hh := I.ok.hd hc
    have la : a < s.heap.objs.size := by obtain ⟨o, ho, _⟩ := ht; exact Heap.lt_size ho
    have len := rxs.length
    rw [PyProof.Rows.assign_Tuple]
    refine wpAny_bind (wpAny_standAt ?_)
    unfold unpack
    rw [hn, hst]
    refine wpAny_bind (wpAny_holding ?_)
    unfold unpackItems notIterableAtAll
    refine wpAny_bind (wpAny_bind (wpAny_specialOf ht.typeIs PySem.F.slot_list_iter.lookup (wpAny_pure ?_)))
    simp only [Bool.false_eq_true, if_false]
    have la2 : a ≠ s.heap.objs.size := Nat.ne_of_lt la
    have tp := ht.push ({ cls := .type "list_iterator", data := .fields #[.ref a, .int 0 0] } : Obj)
    refine wpAny_bind (wpAny_holding (PySem.wpAny_pyIter_list ht ?_))
    refine wpAny_bind (wpAny_holding (PySem.W.kun_draw la2 1 0 _ _ ⟨_, Heap.get?_push_size _ rfl, rfl, rfl⟩ tp (by simp) fun h1 it1 same1 => ?_))
    have tp1 := tp.extBut same1.extBut la2
    have e0 : List.take 1 (List.drop 0 (ux :: uxs).toArray.toList) = [ux] := rfl
    rw [e0, if_neg (by simp)]
    obtain ⟨oi, hoi, _⟩ := id it1
    obtain ⟨ol, hol, _⟩ := id tp1
    refine wpAny_bind (wpAny_holding (PySem.W.kun_collect (s := { s with heap := h1 }) (items := (ux :: uxs).toArray) (k := 1) (T := "list_iterator") (.inr (.inr (.inl rfl)))
      (Walks.list (A := X.A.in1) hh s.heap.objs.size a la2 (ux :: uxs).toArray) (fun j u st => st.1.typeIs) (by simp) ⟨it1, tp1⟩ (Heap.lt_size hoi) (Heap.lt_size hol) (fun h2 tk hk => ?_) (by rw [List.size_toArray, List.length_cons, ← len, sizeLine_eq]; omega)))
    have e1 : List.drop 1 (ux :: uxs).toArray.toList = uxs := rfl
    rw [e1]
    have e2 : uxs.length - (2 - 1 - 1) = uxs.length := rfl
    rw [e2, List.take_length, List.drop_length, if_neg (Nat.not_lt_zero _)]
    refine wpAny_bind (wpAny_newList (wpAny_pure ?_) (by rw [← len, sizeLine_eq]; omega))
    have I1 : Inv X pins σ H { s with heap := h2, toks := tk } := I.kept (t' := tk) fun b o e => hk b o (Nat.ne_of_lt (Heap.lt_size e)) (same1.extBut b o (Nat.ne_of_lt (Heap.lt_size e)) (Heap.get?_push_of_some _ e))
    have hf : H h2.objs.size = none := I1.hok.fresh (Nat.le_refl _)
    have I2 := I1.laid (o := .lst xs) (t' := tk) (h' := h2.push ({ cls := .type "list", data := .seq uxs.toArray } : Obj)) (fun b u e => Heap.get?_push_of_some _ e) (Nat.le_refl _) ⟨by rw [sizeLine_eq]; omega, uxs, 0, rxs, Heap.get?_push_size _ rfl⟩
    exact h.run pins _ σ _ [x, .ref h2.objs.size] [ux, .ref h2.objs.size] Q I2 (.cons rx (.cons rfl .nil)) (hw _ hf)
end
section
variable {M : Ghost} {C : Ct M} {W W1 W2 W' : Wd M} {σ : L2.St} {ρ : DEnv} {e o : Expr} {es : List Expr} {we wo : EW M} {pos apos : Pos} {wa : AW M}
@[simp] def wHeadL (i j : Nat) (we : EW M) : SW M := fun k ρ g => we ρ g fun d g' => ∃ x xs, d = .lst (x :: xs) ∧ xs.length ≤ 10000 ∧ k.nx ((ρ.set i (.im x)).set j (.im (.lst xs))) g'
theorem ds_headL {i j kk : Nat} {x y : Str} {px py sp tpos : Pos} (hc : C.X.calm = true) (g1 : PG C.X (.Name x px) (gName i)) (g2 : PG C.X (.Name y py) (gName j)) (he : DE C e we)
    (hs : swapsWithSole [.Tuple [.Name x px, .Starred (.Name y py) sp] kk tpos] e pos.line C.X.env = pure false := by rfl) (hw : swappedStores [.Tuple [.Name x px, .Starred (.Name y py) sp] kk tpos] e C.X.env = pure none := by rfl)
    (h1 : (assignEach [.Tuple [.Name x px, .Starred (.Name y py) sp] kk tpos] C.X.env).map (·.2) = [assign (.Tuple [.Name x px, .Starred (.Name y py) sp] kk tpos) C.X.env] := by rfl) :
    DS C (.Assign [.Tuple [.Name x px, .Starred (.Name y py) sp] kk tpos] e pos) (wHeadL i j we) := ⟨fun σ ρ W k E S l h =>
  tsOf_of (ps_asg pe_tOf (pg_headL hc (pgs_cons g1 (pgs_star g2 pgs_nil))) hs hw h1) (he.run σ ρ W _ _ S (fun v d W1 ga k1 r1 q1 => by
    obtain ⟨x, xs, rfl, hl, q⟩ := q1
    cases r1 with
    | lst hq r =>
      cases r with
      | cons rx rxs =>
        rename_i vx vxs
        refine ⟨_, _, _, rfl, .of (k1.sub _ _ hq), by rw [rxs.length]; exact hl, fun p hp => ?_⟩
        have hp0 : W.H p = none := by
          cases z : W.H p with
          | none => rfl
          | some o => exact absurd hp (ga.live p (by rw [z]; simp))
        have gN : Go W1 (W1.new p (.lst vxs)) := Go.new k1 hp
        have gA : Go W (W1.new p (.lst vxs)) := ga.trans gN
        have kN := k1.new (o := .lst vxs) hp
        have gF := Go.freeze (o := .lst vxs) gA (k1.noF hp) hp0
        have kF := kN.freeze (o := .lst vxs) upd_same (k1.noF hp) (k1.noR hp)
        have rx' : Rp C.X.K (upd W1.F p (.lst vxs)) W1.R vx x := rx.mono (same_new (k1.noF hp)) fun _ _ z => z
        have rl : Rp C.X.K (upd W1.F p (.lst vxs)) W1.R (.ref p) (.lst xs) := .lst upd_same (rxs.mono (same_new (k1.noF hp)) fun _ _ z => z)
        have S1 := S.set gF kF (s := .im x) (v := vx) rx' i
        have S2 := S1.set (Go.refl _) kF (s := .im (.lst xs)) (v := .ref p) rl j
        exact ⟨_, _, rfl, _, _, rfl, rfl, l.nx _ _ _ (Go.s gF) S2 q⟩) h)⟩
abbrev splL (y x : List Nat) : List (List Nat) := TL.spl y 0 [] x
@[simp] def wSplit (wo we : EW M) : NW M := fun ρ g q => wo ρ g fun d g1 => ∃ x, d = .str x ∧ we ρ g1 fun e g2 => ∃ y, e = .str y ∧ y ≠ [] ∧ y.all (· < 256) = true ∧ x.length + 2 ≤ sizeLine ∧ q ((splL y x).map D.str) g2
theorem dn_split (ho : DE C o wo) (he : DE C e we) (hs : starEach [e] C.X.env = [(false, eval e C.X.env)] := by rfl) (hbase : attributeBase o "split" C.X.env (eval o C.X.env) = eval o C.X.env := by rfl) (hline : (apos.endLine == pos.line) = true := by rfl) :
    DN C (.Call (.Attribute o "split" apos) [e] [] pos) (wSplit wo we) := ⟨fun σ ρ W Q q S hQ hw =>
  tOf_of (pe_split pe_tOf pe_tOf hs hbase hline) (ho.run σ ρ W _ _ S (fun v d W1 g1 k1 r1 q1 => by
    obtain ⟨x, rfl, q1⟩ := q1
    cases r1 with
    | str z _ hz =>
      refine ⟨⟨_, rfl⟩, he.run σ ρ W1 _ _ (S.step g1 k1) (fun u e2 W2 g2 k2 r2 q2 => ?_) q1⟩
      obtain ⟨y, rfl, hy, hk, hsz, q2⟩ := q2
      cases r2 with
      | str z2 _ hz2 =>
        have ez : z = DL.S x := by rw [← hz, S_of]
        have ez2 : z2 = DL.S y := by rw [← hz2, S_of]
        have sp := SX.split_S (a := x) hy hk
        refine ⟨z, z2, rfl, rfl, ?_, by rw [ez]; exact hsz, fun p hp => ?_⟩
        · rw [ez2]
          cases y with
          | nil => exact (hy rfl).elim
          | cons c y => rfl
        have gg := g1.trans g2
        refine hQ p _ _ (W2.new p (.lst ((Txt.split z z2).map V.str))) (gg.trans (Go.new k2 hp)) (k2.new hp) upd_same (k2.noF hp) (k2.noR hp) (nofresh gg hp) ?_ q2
        have es : Txt.split z z2 = (splL y x).map DL.S := by rw [ez, ez2]; exact sp
        have := strs_rpa (K := C.X.K) (F := W2.F) (R := W2.R) (Txt.split z z2)
        have em : (Txt.split z z2).map (fun y => y.cps.toList) = splL y x := by
          rw [es, List.map_map]
          conv => rhs; rw [← List.map_id (splL y x)]
          exact List.map_congr_left fun l _ => S_list l
        rw [em] at this
        exact this) hw)⟩
def cIntT : List D → (D → Prop) → Prop
  | [.str x], q => ∃ n, PySem.intText? (S x) = some n ∧ x.length ≤ 640 ∧ q (.int n)
  | _, _ => False
@[simp] theorem sm_intT {x : List Nat} {q : D → Prop} : cIntT [.str x] q = (∃ n, PySem.intText? (S x) = some n ∧ x.length ≤ 640 ∧ q (.int n)) := rfl
def cStrA : List D → (D → Prop) → Prop
  | [.int i], q => i.natAbs.log2 < 1920 ∧ q (.str (dec i))
  | [.str x], q => q (.str x)
  | _, _ => False
@[simp] theorem sm_strA1 {i : Int} {q : D → Prop} : cStrA [.int i] q = (i.natAbs.log2 < 1920 ∧ q (.str (dec i))) := rfl
@[simp] theorem sm_strA2 {x : List Nat} {q : D → Prop} : cStrA [.str x] q = q (.str x) := rfl
end
end DL
set_option Elab.async false
set_option linter.all false
set_option maxRecDepth 100000
set_option maxHeartbeats 1000000
namespace DL
open PySem L2
/-- a thing of the store: the stream's own, a list, an instance by its class's name, an instance's own dict -/
inductive Ob where
  | raw | lst (ds : List D) | ins (cls : Str) (fs : List (Str × D)) | aux
structure Gq where
  n : Nat
  S : List Ob
def ObOk (K : PySem.W.Frag) (F : Hp) (R : List Addr) (H : Hp) (k : Nat) (a : Addr) : Ob → Prop
  | .raw => True
  | .lst ds => ∃ vs, H a = some (.lst vs) ∧ RpA K F R vs ds
  | .ins cls fs => ∃ (C dx : Addr) (vs : List V), PySem.W.nsIn K mainGlobals cls = some (some (.ref C)) ∧ R[k + 1]? = some dx ∧ H a = some (.ins C dx ((fs.map (·.1)).zip vs)) ∧ RpA K F R vs (fs.map (·.2)) ∧ H dx = some (.own a)
  | .aux => True
structure StoOk (K : PySem.W.Frag) (g : Gq) (R : List Addr) (F H : Hp) : Prop where
  len : R.length = g.S.length
  nd : R.Nodup
  r0 : g.S[0]? = some .raw
  r1 : g.S[1]? = some .raw
  str : g.n ≤ 2 ^ 60 → StrOk K g.n R F H
  ob : ∀ (k : Nat) a o, R[k]? = some a → g.S[k]? = some o → ObOk K F R H k a o
  aux : ∀ (k : Nat) cls fs, g.S[k]? = some (.ins cls fs) → g.S[k + 1]? = some .aux
theorem StrOk.mono {K : PySem.W.Frag} {n m : Nat} {R R' : List Addr} {F F' H H' : Hp} (h : StrOk K n R F H) (hn : n ≤ m) (s : Same F F') (r : ∀ (k : Nat) a, k < 2 → R[k]? = some a → R'[k]? = some a ∧ H' a = H a) : StrOk K m R' F' H' := by
  obtain ⟨a, b, c, L, cs, i, h1, h2, h3, h4, h5, h6, h7, h8, h9⟩ := h
  exact ⟨a, b, c, L, cs, i, (r 0 a (by decide) h1).1, (r 1 b (by decide) h2).1, h3, by rw [(r 0 a (by decide) h1).2]; exact h4, by rw [(r 1 b (by decide) h2).2]; exact h5, s _ _ h6, h7, Int.le_trans h8 (Int.ofNat_le.mpr hn), h9⟩
theorem ObOk.mono {K : PySem.W.Frag} {F F' H H' : Hp} {R R' : List Addr} {k : Nat} {a : Addr} {o : Ob} (h : ObOk K F R H k a o) (s : Same F F') (r : ∀ (k : Nat) a, R[k]? = some a → R'[k]? = some a) (ha : H' a = H a) (hd : ∀ cls fs dx, o = .ins cls fs → R[k + 1]? = some dx → H' dx = H dx) : ObOk K F' R' H' k a o := by
  cases o with
  | raw => trivial
  | aux => trivial
  | lst ds =>
    obtain ⟨vs, h1, h2⟩ := h
    exact ⟨vs, by rw [ha]; exact h1, h2.mono s r⟩
  | ins cls fs =>
    obtain ⟨C, dx, vs, h1, h2, h3, h4, h5⟩ := h
    exact ⟨C, dx, vs, h1, r _ _ h2, by rw [ha]; exact h3, h4.mono s r, by rw [hd cls fs dx rfl h2]; exact h5⟩
@[reducible] def stq : Ghost where
  G := Gq
  ok := fun K g R F H => StoOk K g R F H
  keep := fun {K g R F H F' H'} h s k => ⟨h.len, h.nd, h.r0, h.r1, fun hn => (h.str hn).mono (Nat.le_refl _) s fun k1 a _ e => ⟨e, k a (List.mem_of_getElem? e)⟩,
    fun k1 a o e1 e2 => (h.ob k1 a o e1 e2).mono s (fun _ _ z => z) (k a (List.mem_of_getElem? e1)) fun _ _ dx _ e => k dx (List.mem_of_getElem? e), h.aux⟩
section
variable {K : PySem.W.Frag} {W : Wd stq} {k : Nat} {a : Addr} {o o' : Ob} {u : HO}
theorem nodup_get {R : List Addr} (nd : R.Nodup) {i j : Nat} {a : Addr} (hi : R[i]? = some a) (hj : R[j]? = some a) : i = j := by
  exact (List.getElem?_inj (List.getElem?_eq_some_iff.mp hi).1 nd).mp (hi.trans hj.symm)
/-- a thing of the store that may be written -/
def Ob.soft : Ob → Bool
  | .lst _ => true
  | .ins _ _ => true
  | _ => false
/-- the world where the k-th thing was written -/
abbrev Wd.wr (W : Wd stq) (k : Nat) (a : Addr) (u : HO) (o' : Ob) : Wd stq := W.reg a u ⟨W.g.n, W.g.S.set k o'⟩
theorem Wok.wr (w : Wok K W) (ha : W.R[k]? = some a) (ho : W.g.S[k]? = some o) (so : o.soft = true) (so' : o'.soft = true) (hx : ∀ cls fs, o' = .ins cls fs → ∃ cls fs, o = .ins cls fs)
    (new : ObOk K W.F W.R (upd W.H a u) k a o') : Wok K (W.wr k a u o') := by
  have g := w.gh
  refine w.reg (List.mem_of_getElem? ha) ⟨by rw [List.length_set]; exact g.len, g.nd, ?_, ?_, fun hn => (g.str hn).mono (Nat.le_refl _) (Same.refl _) fun j b hj e => ⟨e, upd_ne fun z => ?_⟩, fun j b p e1 e2 => ?_, fun j cls fs e => ?_⟩
  · rw [List.getElem?_set_ne (fun z => by subst z; rw [g.r0] at ho; cases ho; cases so)]
    exact g.r0
  · rw [List.getElem?_set_ne (fun z => by subst z; rw [g.r1] at ho; cases ho; cases so)]
    exact g.r1
  · subst z
    have := nodup_get g.nd ha e
    subst this
    have : k = 0 ∨ k = 1 := by omega
    rcases this with rfl | rfl
    · rw [g.r0] at ho; cases ho; cases so
    · rw [g.r1] at ho; cases ho; cases so
  · by_cases hj : k = j
    · subst hj
      rw [List.getElem?_set_self (List.getElem?_eq_some_iff.mp ho).1] at e2
      cases e2
      rw [ha] at e1
      cases e1
      exact new
    · rw [List.getElem?_set_ne hj] at e2
      refine (g.ob j b p e1 e2).mono (Same.refl _) (fun _ _ z => z) (upd_ne fun z => hj (nodup_get g.nd ha (z ▸ e1))) fun cls fs dx ep ed => upd_ne fun z => ?_
      subst z
      have := nodup_get g.nd ha ed
      subst this
      subst ep
      rw [g.aux j cls fs e2] at ho
      cases ho
      cases so
  · by_cases hj : k = j
    · subst hj
      rw [List.getElem?_set_self (List.getElem?_eq_some_iff.mp ho).1] at e
      cases e
      obtain ⟨c2, f2, rfl⟩ := hx cls fs rfl
      rw [List.getElem?_set_ne (by omega)]
      exact g.aux _ _ _ ho
    · rw [List.getElem?_set_ne hj] at e
      have e2 := g.aux _ _ _ e
      by_cases hj2 : k = j + 1
      · subst hj2
        rw [ho] at e2
        cases e2
        cases so
      · rw [List.getElem?_set_ne hj2]
        exact e2
theorem Go.wr (ha : W.R[k]? = some a) : Go W (W.wr k a u o') := Go.reg' (List.mem_of_getElem? ha)
/-- a new thing of the store -/
abbrev Wd.st (W : Wd stq) (p : Addr) (u : HO) (o : Ob) : Wd stq := ⟨W.F, upd W.H p u, W.R ++ [p], ⟨W.g.n, W.g.S ++ [o]⟩⟩
theorem ix_app {α : Type} {xs : List α} {ys : List α} {k : Nat} {x : α} (h : xs[k]? = some x) : (xs ++ ys)[k]? = some x := by
  rw [List.getElem?_append_left (List.getElem?_eq_some_iff.mp h).1]
  exact h
theorem Go.st {p : Addr} (hp : W.H p = none) : Go W (W.st p u o) := by
  refine ⟨Same.refl _, fun c x e n => ?_, fun c e => ?_, fun _ z => .inl z, [p], rfl, fun c hc => by rw [List.mem_singleton.mp hc]; exact hp⟩
  · show upd W.H p u c = some x
    rw [upd_ne (ne_of_none e hp)]
    exact e
  · show upd W.H p u c ≠ none
    by_cases z : c = p
    · subst z; rw [upd_same]; simp
    · rw [upd_ne z]; exact e
/-- a new instance with no fields -/
abbrev Wd.mk' (W : Wd stq) (x dx : Addr) (C : Addr) (cls : Str) : Wd stq := ⟨W.F, upd (upd W.H dx (.own x)) x (.ins C dx []), W.R ++ [x, dx], ⟨W.g.n, W.g.S ++ [.ins cls [], .aux]⟩⟩
theorem Go.mk' {x dx C : Addr} {cls : Str} (hx : W.H x = none) (hd : W.H dx = none) : Go W (W.mk' x dx C cls) := by
  refine ⟨Same.refl _, fun c y e n => ?_, fun c e => ?_, fun _ z => .inl z, [x, dx], rfl, fun c hc => ?_⟩
  · show upd (upd W.H dx (.own x)) x (.ins C dx []) c = some y
    rw [upd_ne (ne_of_none e hx), upd_ne (ne_of_none e hd)]
    exact e
  · show upd (upd W.H dx (.own x)) x (.ins C dx []) c ≠ none
    by_cases z : c = x
    · subst z; rw [upd_same]; simp
    · rw [upd_ne z]
      by_cases z : c = dx
      · subst z; rw [upd_same]; simp
      · rw [upd_ne z]; exact e
  · rcases List.mem_cons.mp hc with rfl | hc
    · exact hx
    · rw [List.mem_singleton.mp hc]; exact hd
theorem Wok.mk' (w : Wok K W) {x dx C : Addr} {cls : Str} (hx : W.H x = none) (hd : W.H dx = none) (ne : dx ≠ x) (hC : PySem.W.nsIn K mainGlobals cls = some (some (.ref C))) : Wok K (W.mk' x dx C cls) := by
  have g := w.gh
  have nx := w.noR hx
  have nd := w.noR hd
  have up : ∀ c ∈ W.R, upd (upd W.H dx (.own x)) x (.ins C dx []) c = W.H c := fun c hc => by
    rw [upd_ne (show c ≠ x from fun z => nx (z ▸ hc)), upd_ne (show c ≠ dx from fun z => nd (z ▸ hc))]
  refine ⟨fun c y e => ?_, ⟨by rw [List.length_append, List.length_append, g.len]; rfl, ?_, ix_app g.r0, ix_app g.r1, fun hn => (g.str hn).mono (Nat.le_refl _) (Same.refl _) fun j b hj e => ⟨ix_app e, up b (List.mem_of_getElem? e)⟩, fun j b o e1 e2 => ?_, fun j c2 fs e => ?_⟩, fun c hc => ?_, fun c hc => ?_⟩
  · show upd (upd W.H dx (.own x)) x (.ins C dx []) c = some y
    have := w.sub _ _ e
    rw [upd_ne (ne_of_none this hx), upd_ne (ne_of_none this hd)]
    exact this
  · rw [List.nodup_append]
    refine ⟨g.nd, List.nodup_cons.mpr ⟨fun z => ne (List.mem_singleton.mp z).symm, by simp⟩, fun c hc d hd2 e => ?_⟩
    subst e
    rcases List.mem_cons.mp hd2 with rfl | hd2
    · exact nx hc
    · rw [List.mem_singleton.mp hd2] at hc; exact nd hc
  · by_cases hj : j < W.R.length
    · rw [List.getElem?_append_left hj] at e1
      rw [List.getElem?_append_left (by rw [← g.len]; exact hj)] at e2
      refine (g.ob j b o e1 e2).mono (Same.refl _) (fun _ _ z => ix_app z) (up b (List.mem_of_getElem? e1)) fun cls fs dx ep ed => up dx (List.mem_of_getElem? ed)
    · rw [List.getElem?_append_right (by omega)] at e1
      rw [List.getElem?_append_right (by rw [← g.len]; omega), ← g.len] at e2
      obtain ⟨l, e1'⟩ := List.getElem?_eq_some_iff.mp e1
      have hz : j - W.R.length = 0 ∨ j - W.R.length = 1 := by simp at l; omega
      rcases hz with hz | hz
      · rw [hz] at e1 e2
        cases e1
        cases e2
        refine ⟨C, dx, [], hC, ?_, upd_same, .nil, ?_⟩
        · show (W.R ++ [x, dx])[j + 1]? = some dx
          rw [List.getElem?_append_right (by omega), show j + 1 - W.R.length = 1 by omega]
          rfl
        · show upd (upd W.H dx (.own x)) x (.ins C dx []) dx = _
          rw [upd_ne ne, upd_same]
      · rw [hz] at e1 e2
        cases e1
        cases e2
        trivial
  · by_cases hj : j < W.g.S.length
    · rw [List.getElem?_append_left hj] at e
      exact ix_app (g.aux j c2 fs e)
    · rw [List.getElem?_append_right (by omega)] at e
      obtain ⟨l, e'⟩ := List.getElem?_eq_some_iff.mp e
      have hz : j - W.g.S.length = 0 ∨ j - W.g.S.length = 1 := by simp at l; omega
      rcases hz with hz | hz
      · rw [List.getElem?_append_right (by omega), show j + 1 - W.g.S.length = 1 by omega]
        rfl
      · rw [hz] at e
        cases e
  · rcases List.mem_append.mp hc with hc | hc
    · exact w.rf c hc
    · rcases List.mem_cons.mp hc with rfl | hc
      · exact w.noF hx
      · rw [List.mem_singleton.mp hc]; exact w.noF hd
  · show upd (upd W.H dx (.own x)) x (.ins C dx []) c ≠ none
    rcases List.mem_append.mp hc with hc | hc
    · rw [up c hc]; exact w.rh c hc
    · rcases List.mem_cons.mp hc with rfl | hc
      · rw [upd_same]; simp
      · rw [List.mem_singleton.mp hc, upd_ne ne, upd_same]; simp
end

mutual
def obsD : D → Bool
  | .ob k => decide (k < 2)
  | .lst xs => obsA xs
  | .tup xs => obsA xs
  | .tx xs => obsA xs
  | .dic kvs => obsK kvs
  | .exn _ _ ds => obsA ds
  | _ => true
def obsA : List D → Bool
  | [] => true
  | d :: ds => obsD d && obsA ds
def obsK : List (Key × D) → Bool
  | [] => true
  | (_, d) :: ds => obsD d && obsK ds
end
section
variable {K : PySem.W.Frag} {F : Hp} {R R' : List Addr}
mutual
theorem Rp.obs (r : ∀ (k : Nat) a, k < 2 → R[k]? = some a → R'[k]? = some a) : ∀ {v : V} {d : D}, Rp K F R v d → obsD d = true → Rp K F R' v d
  | _, _, .non, _ => .non
  | _, _, .bl b, _ => .bl b
  | _, _, .int i, _ => .int i
  | _, _, .str z x h, _ => .str z x h
  | _, _, .lst h q, o => .lst h (RpA.obs r q (by simpa [obsD] using o))
  | _, _, .tup h q, o => .tup h (RpA.obs r q (by simpa [obsD] using o))
  | _, _, .dic h q, o => .dic h (RpK.obs r q (by simpa [obsD] using o))
  | _, _, .ob h, o => .ob (r _ _ (by simpa [obsD] using o) h)
  | _, _, .exn0 h1 h2 h3 h4, _ => .exn0 h1 h2 h3 h4
  | _, _, .exn h1 h2 h3 h4 h5 h6 q, o => .exn h1 h2 h3 h4 h5 h6 (RpA.obs r q (by simpa [obsD] using o))
  | _, _, .tx h1 h2 h3 q, o => .tx h1 h2 h3 (RpA.obs r q (by simpa [obsD] using o))
  | _, _, .cl h, _ => .cl h
theorem RpA.obs (r : ∀ (k : Nat) a, k < 2 → R[k]? = some a → R'[k]? = some a) : ∀ {v : List V} {d : List D}, RpA K F R v d → obsA d = true → RpA K F R' v d
  | _, _, .nil, _ => .nil
  | _, _, .cons h q, o => .cons (Rp.obs r h (by simp only [obsA, Bool.and_eq_true] at o; exact o.1)) (RpA.obs r q (by simp only [obsA, Bool.and_eq_true] at o; exact o.2))
theorem RpK.obs (r : ∀ (k : Nat) a, k < 2 → R[k]? = some a → R'[k]? = some a) : ∀ {v : List (Key × V)} {d : List (Key × D)}, RpK K F R v d → obsK d = true → RpK K F R' v d
  | _, _, .nil, _ => .nil
  | _, _, .cons h q, o => .cons (Rp.obs r h (by simp only [obsK, Bool.and_eq_true] at o; exact o.1)) (RpK.obs r q (by simp only [obsK, Bool.and_eq_true] at o; exact o.2))
end
mutual
theorem Rp.is (hR : R.length = 2) : ∀ {v : V} {d : D}, Rp K F R v d → obsD d = true
  | _, _, .non => rfl
  | _, _, .bl b => rfl
  | _, _, .int i => rfl
  | _, _, .str z x h => rfl
  | _, _, .lst h q => by simp only [obsD]; exact RpA.is hR q
  | _, _, .tup h q => by simp only [obsD]; exact RpA.is hR q
  | _, _, .dic h q => by simp only [obsD]; exact RpK.is hR q
  | _, _, .ob h => by
    have := (List.getElem?_eq_some_iff.mp h).1
    simp only [obsD]
    exact decide_eq_true (by omega)
  | _, _, .exn0 h1 h2 h3 h4 => rfl
  | _, _, .exn h1 h2 h3 h4 h5 h6 q => by simp only [obsD]; exact RpA.is hR q
  | _, _, .tx h1 h2 h3 q => by simp only [obsD]; exact RpA.is hR q
  | _, _, .cl h => rfl
theorem RpA.is (hR : R.length = 2) : ∀ {v : List V} {d : List D}, RpA K F R v d → obsA d = true
  | _, _, .nil => rfl
  | _, _, .cons h q => by simp only [obsA, Bool.and_eq_true]; exact ⟨Rp.is hR h, RpA.is hR q⟩
theorem RpK.is (hR : R.length = 2) : ∀ {v : List (Key × V)} {d : List (Key × D)}, RpK K F R v d → obsK d = true
  | _, _, .nil => rfl
  | _, _, .cons h q => by simp only [obsK, Bool.and_eq_true]; exact ⟨Rp.is hR h, RpK.is hR q⟩
end
end

def lq (d : DSp stg) : DSp stq := fun ds g q ex => obsA ds = true ∧ d ds g.n (fun v n => obsD v = true → q v ⟨n, g.S⟩) fun x n => obsA x.ds = true → ex x ⟨n, g.S⟩
abbrev Wd.cut (W : Wd stq) : Wd stg := ⟨W.F, W.H, W.R.take 2, W.g.n⟩
abbrev Wd.back (W : Wd stq) (W1 : Wd stg) : Wd stq := ⟨W1.F, W1.H, W.R, ⟨W1.g, W.g.S⟩⟩
section
variable {K : PySem.W.Frag} {W : Wd stq} {W1 : Wd stg}
theorem two_le (w : Wok K W) : 2 ≤ W.R.length := by
  have g := w.gh
  have := (List.getElem?_eq_some_iff.mp g.r1).1
  rw [g.len]
  exact this
theorem take_ix {R : List Addr} {k : Nat} {a : Addr} (hk : k < 2) : (R.take 2)[k]? = some a ↔ R[k]? = some a := by rw [List.getElem?_take_of_lt hk]
theorem Wok.cut (w : Wok K W) : Wok K W.cut := by
  have g := w.gh
  refine ⟨w.sub, ⟨?_, fun hn => (g.str hn).mono (Nat.le_refl _) (Same.refl _) fun k a hk e => ⟨(take_ix hk).mpr e, rfl⟩⟩, fun a ha => w.rf a (List.mem_of_mem_take ha), fun a ha => w.rh a (List.mem_of_mem_take ha)⟩
  rw [List.length_take]
  have := two_le w
  omega
theorem back_R (w : Wok K W) (g1 : Go W.cut W1) (k1 : Wok K W1) : W1.R = W.R.take 2 := by
  obtain ⟨new, e, _⟩ := g1.reg
  have h1 := k1.gh.1
  have h2 := w.cut.gh.1
  rw [e, List.length_append, h2] at h1
  rw [e, List.eq_nil_of_length_eq_zero (by omega : new.length = 0), List.append_nil]
theorem back_ix (w : Wok K W) (g1 : Go W.cut W1) (k1 : Wok K W1) : ∀ (k : Nat) a, W1.R[k]? = some a → W.R[k]? = some a := fun k a e => by
  rw [back_R w g1 k1] at e
  have := (List.getElem?_eq_some_iff.mp e).1
  rw [List.length_take] at this
  exact (take_ix (by omega)).mp e
theorem Go.back (g1 : Go W.cut W1) : Go W (W.back W1) :=
  ⟨g1.sub, fun a o e n => g1.keep a o e fun z => n (List.mem_of_mem_take z), g1.live, g1.young, [], by simp, by simp⟩
theorem not_two (w : Wok K W) {k : Nat} {a : Addr} (h : W.R[k]? = some a) (hk : 2 ≤ k) : a ∉ W.R.take 2 := fun z => by
  obtain ⟨j, hj, e⟩ := List.getElem_of_mem z
  rw [List.length_take] at hj
  rw [List.getElem_take] at e
  have := nodup_get w.gh.nd h (List.getElem?_eq_some_iff.mpr ⟨by omega, e⟩)
  omega
theorem Wok.back (w : Wok K W) (g1 : Go W.cut W1) (k1 : Wok K W1) : Wok K (W.back W1) := by
  have g := w.gh
  have eR := back_R w g1 k1
  have kp : ∀ (k : Nat) a, 2 ≤ k → W.R[k]? = some a → W1.H a = W.H a := fun k a hk e => by
    cases q : W.H a with
    | none => exact absurd q (w.rh a (List.mem_of_getElem? e))
    | some o => exact g1.keep a o q (not_two w e hk)
  refine ⟨k1.sub, ⟨g.len, g.nd, g.r0, g.r1, fun hn => (k1.gh.2 hn).mono (Nat.le_refl _) (Same.refl _) fun k a hk e => ⟨back_ix w g1 k1 k a e, rfl⟩, fun k a o e1 e2 => ?_, g.aux⟩, fun a ha => ?_, fun a ha => g1.live a (w.rh a ha)⟩
  · have h := g.ob k a o e1 e2
    by_cases hk : 2 ≤ k
    · exact h.mono g1.sub (fun _ _ z => z) (kp k a hk e1) fun _ _ dx _ ed => kp (k + 1) dx (by omega) ed
    · have : k = 0 ∨ k = 1 := by omega
      rcases this with rfl | rfl
      · rw [g.r0] at e2; cases e2; trivial
      · rw [g.r1] at e2; cases e2; trivial
  · cases q : W1.F a with
    | none => rfl
    | some o =>
      rcases g1.young a (by rw [q]; simp) with z | z
      · exact absurd (w.rf a ha) z
      · exact absurd z (w.rh a ha)
theorem lift_sp {K : PySem.W.Frag} {mg : Str → Option Value} {n : Nat} {d : DSp stg} {vs : List V} {H : Hp} {Q : VK} {E : XK} (h : liftSp K mg n (lq d) vs H Q E) : liftSp K mg n d vs H Q E := by
  obtain ⟨W, ds, q, ex, rfl, ok, r, hl, ⟨ho, hd⟩, hQ, hE⟩ := h
  refine ⟨W.cut, ds, _, _, rfl, ok.cut, r.obs (fun k a hk e => (take_ix hk).mpr e) ho, hl, hd, fun v d W1 g1 k1 r1 q1 => ?_, fun cls dd H' h => hE cls dd H' ?_⟩
  · exact hQ v d (W.back W1) g1.back (ok.back g1 k1) (r1.mono (Same.refl _) (back_ix ok g1 k1)) (q1 (r1.is k1.gh.1))
  · obtain ⟨x, W1, rfl, g1, k1, ⟨x1, x2, x3⟩, q1⟩ := h
    refine ⟨x, W.back W1, rfl, g1.back, ok.back g1 k1, ⟨x1, x2, ?_⟩, q1 ?_⟩
    · rcases x3 with x3 | ⟨d2, us, a1, a2, a3, a4⟩
      · exact .inl x3
      · exact .inr ⟨d2, us, a1, a2, a3, a4.mono (Same.refl _) (back_ix ok g1 k1)⟩
    · rcases x3 with ⟨_, x3, _⟩ | ⟨d2, us, a1, a2, a3, a4⟩
      · rw [x3]; rfl
      · exact a4.is k1.gh.1
theorem lift_spH {K : PySem.W.Frag} {mg : Str → Option Value} {n : Nat} {d : DSp stg} {vs : List V} {H : Hp} {Q : VK} {E : XK} {A : Around} (h : liftSpH K mg n (lq d) A vs H Q E) : liftSpH K mg n d A vs H Q E := by
  obtain ⟨W, ds, q, ex, rfl, ok, r, hl, ⟨ho, hd⟩, ⟨hQ, hE⟩, hot⟩ := h
  refine ⟨W.cut, ds, _, _, rfl, ok.cut, r.obs (fun k a hk e => (take_ix hk).mpr e) ho, hl, hd, ⟨fun v d W1 g1 k1 r1 q1 => ?_, fun cls dd H' h => hE cls dd H' ?_⟩, hot⟩
  · exact hQ v d (W.back W1) g1.back (ok.back g1 k1) (r1.mono (Same.refl _) (back_ix ok g1 k1)) (q1 (r1.is k1.gh.1))
  · obtain ⟨x, W1, rfl, g1, k1, ⟨x1, x2, x3⟩, q1⟩ := h
    refine ⟨x, W.back W1, rfl, g1.back, ok.back g1 k1, ⟨x1, x2, ?_⟩, q1 ?_⟩
    · rcases x3 with x3 | ⟨d2, us, a1, a2, a3, a4⟩
      · exact .inl x3
      · exact .inr ⟨d2, us, a1, a2, a3, a4.mono (Same.refl _) (back_ix ok g1 k1)⟩
    · rcases x3 with ⟨_, x3, _⟩ | ⟨d2, us, a1, a2, a3, a4⟩
      · rw [x3]; rfl
      · exact a4.is k1.gh.1
end
section
variable {P : Program} {w : World} {K : PySem.W.Frag} {mg : Str → Option Value} {base : Heap}
theorem FnG.imp {k : Nat} {f : Addr} {fd : FuncData} {ps : List Str} {sp sp' : Sp} (F : FnG P w K mg base k f fd ps sp) (h : ∀ vs H Q E, sp' vs H Q E → sp vs H Q E) : FnG P w K mg base k f fd ps sp' :=
  ⟨fun vs H Q E z => F.len vs H Q E (h vs H Q E z), fun A fr s H as us xs Q E a b c d e z => F.run A fr s H as us xs Q E a b c d e (h xs H Q E z)⟩
theorem FnQ.imp {k : Nat} {f : Addr} {fd : FuncData} {ps : List Str} {sp sp' : Around → Sp} (F : FnQ P w K mg base k f fd ps sp) (h : ∀ A vs H Q E, sp' A vs H Q E → sp A vs H Q E) : FnQ P w K mg base k f fd ps sp' :=
  ⟨fun A vs H Q E z => F.len A vs H Q E (h A vs H Q E z), fun A fr s H as us xs Q E a b c d e z => F.run A fr s H as us xs Q E a b c d e (h A xs H Q E z)⟩
theorem FnB.lq {k n : Nat} {x : Str} {ps : List Str} {d : DSp stg} (F : FnB P w K mg base k x ps (liftSp K mg n d)) : FnB P w K mg base k x ps (liftSp K mg n (lq d)) := by
  obtain ⟨f, fd, F, h⟩ := F.ex
  exact ⟨f, fd, F.imp fun _ _ _ _ => lift_sp, h⟩
theorem FnQB.lq {k n : Nat} {x : Str} {ps : List Str} {d : DSp stg} (F : FnQB P w K mg base k x ps (liftSpH K mg n d)) : FnQB P w K mg base k x ps (liftSpH K mg n (lq d)) := by
  obtain ⟨f, fd, F, h⟩ := F.ex
  exact ⟨f, fd, F.imp fun _ _ _ _ _ => lift_spH, h⟩
end

theorem wok_moreQ {K : PySem.W.Frag} {W : Wd stq} (k : Wok K W) {n : Nat} (h : W.g.n ≤ n) : Wok K ({ W with g := ⟨n, W.g.S⟩ } : Wd stq) := by
  have g := k.gh
  exact ⟨k.sub, ⟨g.len, g.nd, g.r0, g.r1, fun hn => (g.str (Nat.le_trans h hn)).mono h (Same.refl _) fun _ _ _ e => ⟨e, rfl⟩, g.ob, g.aux⟩, k.rf, k.rh⟩
theorem go_moreQ {W : Wd stq} {n : Nat} : Go W ({ W with g := ⟨n, W.g.S⟩ } : Wd stq) := ⟨Same.refl _, fun _ _ h _ => h, fun _ h => h, fun _ h => .inl h, [], by simp, by simp⟩
/-- the end of a def over the store: the bound may be given greater -/
@[simp] def kEndQ (q : D → Gq → Prop) : K3 stq := { nx := fun _ (g : Gq) => ∃ n : Nat, g.n ≤ n ∧ q .non ⟨n, g.S⟩, rt := fun d (g : Gq) => ∃ n : Nat, g.n ≤ n ∧ q d ⟨n, g.S⟩, bk := fun _ _ => False, ct := fun _ _ => False }
theorem fnT_of {P : Program} {w : World} {K : PySem.W.Frag} {mg : Str → Option Value} {base : Heap} {x qual : Str} {st : Stmt} {f : Addr} {fd : FuncData} {N ps : List Str} {k : Nat} {sp : DSp stq} {wb : (Exn → stq.G → Prop) → SW stq} (F : Fun K x qual st f fd) (Sc : FnScope N ps (defScope st))
    (hbody : ∀ (cdv : Value) (A : Around) (outer : List Env) (s : Shared) (H : Hp) (E : XK) (W0 : Wd stq) (EX : Exn → stq.G → Prop), Room k (A.deeper (PyProof.Rows.envOfC qual (defScope st) s.heap.objs.size f cdv)) → A.guards = some [] →
      TakesD (M := stq) ⟨cxOf (L2N.CX P w) P w K mg base N qual (defScope st) f cdv A outer s H E, W0, xk EX, W0⟩ → DSs (M := stq) ⟨cxOf (L2N.CX P w) P w K mg base N qual (defScope st) f cdv A outer s H E, W0, xk EX, W0⟩ (defBody st) (wb EX))
    (hpure : ∀ (ds : List D) (g : Gq) (q : D → Gq → Prop) (ex : Exn → Gq → Prop), ds.length = ps.length → sp ds g q ex → wb ex (kEndQ q) (startD N ds) g) :
    FnG P w K mg base (k + 1) f fd ps (liftSp K mg ps.length sp) := by
  refine fng_of F Sc (fun vs H Q E h => ?_) (fun cdv A outer s H vs Q E hr hgd h => ?_)
  · obtain ⟨W, ds, q, ex, _, _, r, hl, _⟩ := h
    rw [r.length, hl]
  · obtain ⟨W, ds, q, ex, rfl, ok, r, hl, hsp, hQ, hE⟩ := h
    have tk : TakesD (M := stq) ⟨cxOf (L2N.CX P w) P w K mg base N qual (defScope st) f cdv A outer s W.H E, W, xk ex, W⟩ := fun u s' x =>
      L2N.takes_of (X := cxOf (L2N.CX P w) P w K mg base N qual (defScope st) f cdv A outer s W.H E) rfl rfl rfl rfl u s' (by
        obtain ⟨a, B, sI, pins, σ, H, cls, d, e, I, nb, up, sky, na, os, ag, x, ρ, W', z1, z2, z3, z4⟩ := x
        exact ⟨a, B, sI, pins, σ, H, cls, d, e, I, nb, up, sky, na, os, ag, hE _ _ _ ⟨x, W', z1, z2.go, z2.ok, z3, z4⟩⟩)
    refine ⟨_, pss_tOf, ?_⟩
    refine (hbody cdv A outer s W.H E W ex hr hgd tk).run _ _ W (kEndQ q) _ (sat_start ok rfl rfl r) ⟨fun σ' ρ' W' g S' h => ?_, fun v d W' g k r h => ?_, fun _ _ _ _ _ h => h.elim, fun _ _ _ _ _ h => h.elim⟩ (hpure ds W.g q ex hl hsp)
    · obtain ⟨n, hn, h⟩ := h
      exact hQ .non .non ({ W' with g := ⟨n, W'.g.S⟩ } : Wd stq) (S'.go.trans (go_moreQ (n := n))) (wok_moreQ S'.ok hn) .non h
    · obtain ⟨n, hn, h⟩ := h
      exact hQ v d ({ W' with g := ⟨n, W'.g.S⟩ } : Wd stq) (g.trans (go_moreQ (n := n))) (wok_moreQ k hn) r h
end DL
set_option Elab.async false
set_option linter.all false
set_option maxRecDepth 100000
set_option maxHeartbeats 1000000
namespace DL
open PySem L2
@[simp] def putFd (f : Str) (d : D) : List (Str × D) → List (Str × D)
  | [] => [(f, d)]
  | (g, x) :: r => if g = f then (g, d) :: r else (g, x) :: putFd f d r
/-- a field -/
@[simp] def fldD? (f : Str) : List (Str × D) → Option D
  | [] => none
  | (g, x) :: r => if f = g then some x else fldD? f r
theorem lookup_if {α : Type} (f g : Str) (x : α) (r : List (Str × α)) : List.lookup f ((g, x) :: r) = if f = g then some x else List.lookup f r := by
  by_cases h : f = g
  · rw [if_pos h, List.lookup_cons, beq_iff_eq.mpr h]
  · rw [if_neg h, List.lookup_cons, beq_eq_false_iff_ne.mpr h]
section
variable {K : PySem.W.Frag} {F : Hp} {R : List Addr}
theorem zipf_none {f : Str} : ∀ {fs : List (Str × D)} {vs : List V}, RpA K F R vs (fs.map (·.2)) → fldD? f fs = none → ((fs.map (·.1)).zip vs).lookup f = none
  | [], _, _, _ => rfl
  | (g, x) :: fs, _, .cons h q, e => by
    rename_i v vs
    show List.lookup f ((g, v) :: ((fs.map (·.1)).zip vs)) = none
    rw [lookup_if]
    unfold fldD? at e
    by_cases c : f = g
    · rw [if_pos c] at e; cases e
    · rw [if_neg c] at e ⊢
      exact zipf_none q e
theorem zipf_some {f : Str} {d : D} : ∀ {fs : List (Str × D)} {vs : List V}, RpA K F R vs (fs.map (·.2)) → fldD? f fs = some d → ∃ v, ((fs.map (·.1)).zip vs).lookup f = some v ∧ Rp K F R v d
  | [], _, _, e => by cases e
  | (g, x) :: fs, _, .cons h q, e => by
    rename_i v vs
    show ∃ u, List.lookup f ((g, v) :: ((fs.map (·.1)).zip vs)) = some u ∧ Rp K F R u d
    rw [lookup_if]
    unfold fldD? at e
    by_cases c : f = g
    · rw [if_pos c] at e ⊢
      cases e
      exact ⟨v, rfl, h⟩
    · rw [if_neg c] at e ⊢
      exact zipf_some q e
theorem zipf_put {f : Str} {d : D} {u : V} (hu : Rp K F R u d) : ∀ {fs : List (Str × D)} {vs : List V}, RpA K F R vs (fs.map (·.2)) → ∃ us, putF f u ((fs.map (·.1)).zip vs) = ((putFd f d fs).map (·.1)).zip us ∧ RpA K F R us ((putFd f d fs).map (·.2))
  | [], _, .nil => ⟨[u], rfl, .cons hu .nil⟩
  | (g, x) :: fs, _, .cons h q => by
    rename_i v vs
    show ∃ us, (if g = f then (g, u) :: ((fs.map (·.1)).zip vs) else (g, v) :: putF f u ((fs.map (·.1)).zip vs)) = _ ∧ _
    unfold putFd
    by_cases c : g = f
    · rw [if_pos c, if_pos c]
      exact ⟨u :: vs, rfl, .cons hu q⟩
    · rw [if_neg c, if_neg c]
      obtain ⟨us, e1, e2⟩ := zipf_put hu q
      exact ⟨v :: us, by rw [e1]; rfl, .cons h e2⟩
theorem zipf_len {fs : List (Str × D)} {vs : List V} (r : RpA K F R vs (fs.map (·.2))) : ((fs.map (·.1)).zip vs).length = fs.length := by
  have := r.length
  rw [List.length_map] at this
  rw [List.length_zip, List.length_map]
  omega
end
/-- a class of the text whose instances have the field -/
def FldI (K : PySem.W.Frag) (cls f : Str) : Prop := ∃ C : Addr, PySem.W.nsIn K mainGlobals cls = some (some (.ref C)) ∧ Cls K C ∧ NoAttr K C f
/-- .. for each class of a list -/
def FldTb (K : PySem.W.Frag) (f : Str) (L : List Str) : Prop := ∀ cls ∈ L, FldI K cls f
theorem fldTb_nil {K : PySem.W.Frag} {f : Str} : FldTb K f [] := fun _ h => by cases h
theorem fldTb_cons {K : PySem.W.Frag} {f c : Str} {L : List Str} (h : FldI K c f) (t : FldTb K f L) : FldTb K f (c :: L) := fun x hx => by
  rcases List.mem_cons.mp hx with rfl | hx
  · exact h
  · exact t x hx
/-- an instance at an address -/
theorem ob_ins {K : PySem.W.Frag} {W : Wd stq} {k : Nat} {v : V} {cls : Str} {fs : List (Str × D)} (w : Wok K W) (r : Rp K W.F W.R v (.ob k)) (h : W.g.S[k]? = some (.ins cls fs)) :
    ∃ a C dx vs, v = .ref a ∧ W.R[k]? = some a ∧ PySem.W.nsIn K mainGlobals cls = some (some (.ref C)) ∧ W.H a = some (.ins C dx ((fs.map (·.1)).zip vs)) ∧ RpA K W.F W.R vs (fs.map (·.2)) ∧ W.R[k + 1]? = some dx ∧ W.H dx = some (.own a) := by
  cases r with
  | ob e =>
    obtain ⟨C, dx, vs, h1, h2, h3, h4, h5⟩ := w.gh.ob k _ _ e h
    exact ⟨_, C, dx, vs, rfl, e, h1, h3, h4, h2, h5⟩
section
variable {C : Ct stq} {W W1 W2 W' : Wd stq} {σ : L2.St} {ρ : DEnv} {e e2 : Expr} {es : List Expr} {we wv : EW stq} {pos pos' apos p : Pos} {wa : AW stq}
/-- e.f, a field of an instance of one of the classes -/
@[simp] def wFldO (f : Str) (L : List Str) (we : EW stq) : EW stq := fun ρ g q => we ρ g fun d g' => ∃ k cls fs x, d = .ob k ∧ g'.S[k]? = some (.ins cls fs) ∧ cls ∈ L ∧ fldD? f fs = some x ∧ q x g'
theorem de_fldO {f : Str} {L : List Str} (t : FldTb C.X.K f L) (he : DE C e we) (hb : attributeBase e f C.X.env (eval e C.X.env) = eval e C.X.env := by rfl) : DE C (.Attribute e f pos) (wFldO f L we) := ⟨fun σ ρ W Q q S hQ hw =>
  tOf_of (pe_fld pe_tOf hb) (he.run σ ρ W _ _ S (fun v d W1 g1 k1 r1 q1 => by
    obtain ⟨k, cls, fs, x, rfl, h1, h2, h3, h4⟩ := q1
    obtain ⟨a, CC, dx, vs, rfl, ha, hC, hH, r, _⟩ := ob_ins k1 r1 h1
    obtain ⟨C2, hC2, cl, na⟩ := t cls h2
    rw [hC] at hC2
    cases hC2
    obtain ⟨u, l, ru⟩ := zipf_some r h3
    exact ⟨a, _, dx, _, u, rfl, hH, cl, na, l, hQ u x W1 g1 k1 ru h4⟩) hw)⟩
/-- e.f = value -/
@[simp] def wSetO (f : Str) (L : List Str) (we wv : EW stq) : SW stq := fun k ρ g => wv ρ g fun x g1 => we ρ g1 fun d g2 => ∃ j cls fs, d = .ob j ∧ g2.S[j]? = some (.ins cls fs) ∧ cls ∈ L ∧ fs.length < 1000 ∧ k.nx ρ ⟨g2.n, g2.S.set j (.ins cls (putFd f x fs))⟩
theorem go_obj {k : Nat} {a : Addr} {o : Ob} {u : HO} (ha : W.R[k]? = some a) : Gs W (W.wr k a u o) := Go.s (Go.wr ha)
theorem Sat.wr (S : Sat C σ ρ W) {k : Nat} {a : Addr} {o : Ob} {u : HO} (ha : W.R[k]? = some a) (w : Wok C.X.K (W.wr k a u o)) : Sat C σ ρ (W.wr k a u o) := S.step (Go.wr ha) w
theorem wr_ins {K : PySem.W.Frag} {f : Str} {k : Nat} {a CC dx : Addr} {cls : Str} {fs : List (Str × D)} {vs : List V} {u : V} {x : D} (w : Wok K W) (ha : W.R[k]? = some a) (h : W.g.S[k]? = some (.ins cls fs)) (hC : PySem.W.nsIn K mainGlobals cls = some (some (.ref CC)))
    (hH : W.H a = some (.ins CC dx ((fs.map (·.1)).zip vs))) (r : RpA K W.F W.R vs (fs.map (·.2))) (hx : W.R[k + 1]? = some dx) (ho : W.H dx = some (.own a)) (ru : Rp K W.F W.R u x) :
    Wok K (W.wr k a (.ins CC dx (putF f u ((fs.map (·.1)).zip vs))) (.ins cls (putFd f x fs))) := by
  refine w.wr ha h rfl rfl (fun _ _ _ => ⟨_, _, rfl⟩) ?_
  obtain ⟨us, e1, e2⟩ := zipf_put (f := f) ru r
  refine ⟨CC, dx, us, hC, hx, ?_, e2, ?_⟩
  · rw [upd_same, e1]
  · rw [upd_ne (fun z => by
      have := nodup_get w.gh.nd ha (z ▸ hx)
      omega)]
    exact ho
theorem ds_fldO {f : Str} {L : List Str} (t : FldTb C.X.K f L) (he : DE C e we) (hv : DE C e2 wv) (hs : swapsWith e2 (some (.Attribute e f pos')) pos.line C.X.env = pure false := by rfl) : DS C (.Assign [.Attribute e f pos'] e2 pos) (wSetO f L we wv) := ⟨fun σ ρ W k E S l h => by
  refine tsOf_of (ps_fld pe_tOf pe_tOf hs) (hv.run σ ρ W _ _ S (fun u x W1 g1 k1 r1 q1 => ?_) h)
  refine he.run σ ρ W1 _ _ (S.step g1 k1) (fun v d W2 g2 k2 r2 q2 => ?_) q1
  obtain ⟨j, cls, fs, rfl, h1, h2, h3, h4⟩ := q2
  obtain ⟨a, CC, dx, vs, rfl, ha, hC, hH, r, hx, ho⟩ := ob_ins k2 r2 h1
  obtain ⟨C2, hC2, cl, na⟩ := t cls h2
  rw [hC] at hC2
  cases hC2
  refine ⟨a, _, dx, _, rfl, hH, cl, na, by rw [zipf_len r]; exact h3, ?_⟩
  have w3 := wr_ins (f := f) k2 ha h1 hC hH r hx ho (r1.step g2)
  exact l.nx σ ρ _ ((g1.trans g2).s.trans (go_obj ha)) ((S.step (g1.trans g2) k2).wr ha w3) h4⟩

/-- a method of a class that keeps a promise -/
structure MethB (P : Program) (w : World) (K : PySem.W.Frag) (mg : Str → Option Value) (base : Heap) (k : Nat) (cls m : Str) (ps : List Str) (sp : Sp) : Prop where
  ex : ∃ (C f : Addr) (fd : FuncData), PySem.W.nsIn K mainGlobals cls = some (some (.ref C)) ∧ Cls K C ∧ Meth K C m f ∧ FnG P w K mg base k f fd ps sp ∧ Binds K fd ps []
/-- methods by classes -/
abbrev MTab := List (Str × DSp stq)
def MethT (P : Program) (w : World) (K : PySem.W.Frag) (mg : Str → Option Value) (base : Heap) (k : Nat) (m : Str) (ps : List Str) (T : MTab) : Prop := ∀ e ∈ T, MethB P w K mg base k e.1 m ps (liftSp K mg ps.length e.2)
theorem methT_nil {P : Program} {w : World} {K : PySem.W.Frag} {mg : Str → Option Value} {base : Heap} {k : Nat} {m : Str} {ps : List Str} : MethT P w K mg base k m ps [] := fun _ h => by cases h
theorem MethB.mono {P : Program} {w : World} {K : PySem.W.Frag} {mg : Str → Option Value} {base : Heap} {j k : Nat} {cls m : Str} {ps : List Str} {sp : Sp} (M : MethB P w K mg base j cls m ps sp) (h : j ≤ k) : MethB P w K mg base k cls m ps sp := by
  obtain ⟨C, f, fd, h1, h2, h3, h4, h5⟩ := M.ex
  exact ⟨C, f, fd, h1, h2, h3, h4.mono h, h5⟩
theorem methT_cons {P : Program} {w : World} {K : PySem.W.Frag} {mg : Str → Option Value} {base : Heap} {k : Nat} {cls m : Str} {ps : List Str} {sp : DSp stq} {T : MTab} (h : MethB P w K mg base k cls m ps (liftSp K mg ps.length sp)) (t : MethT P w K mg base k m ps T) :
    MethT P w K mg base k m ps ((cls, sp) :: T) := fun x hx => by
  rcases List.mem_cons.mp hx with rfl | hx
  · exact h
  · exact t x hx
def tMethG (X : Cx) (k : Nat) (E : L2.St → XK) (m : Str) (ta : TE) (t : TA) : TE := fun σ H Q => ta σ H fun x H1 => ∃ (a : Addr) (C : Addr) (dx : Addr) (fs : List (Str × V)) (f : Addr) (fd : FuncData) (ps : List Str) (sp : Sp), x = .ref a ∧ H1 a = some (.ins C dx fs) ∧ fs.lookup m = none ∧
  Cls X.K C ∧ Meth X.K C m f ∧ FnG X.prog X.w X.K X.mg X.base k f fd ps sp ∧ Binds X.K fd ps [] ∧ t σ H1 fun vs H2 => sp (x :: vs) H2 Q (E σ)
section
variable {X : Cx} {k : Nat} {E : L2.St → XK} {m : Str} {o e : Expr} {es : List Expr} {ta : TE} {t : TA} {pos apos : Pos}
theorem pe_methG {pl : Sem Bool} (he : PE X o ta) (gd : X.A.guards = some []) (room : Room k X.A) (hx : ∀ σ, PassesAt (L2N.CX X.prog X.w) X σ (E σ)) (ha : PA X (e :: es) t)
    (hst : starEach (e :: es) X.env = (false, eval e X.env) :: starEach es X.env := by rfl) (hpl : (backTo pos (starEach es X.env)).any (·.1) = false := by rfl)
    (ht : eval (.Call (.Attribute o m apos) (e :: es) [] pos) X.env = (do
      let ov ← eval o X.env
      standAt apos.atName
      let (f, first) ← holding [ov] (getMethod ov m pl)
      callWith pos f first (backTo pos (starEach (e :: es) X.env)) (backToKw pos (keywordEach [] X.env))) := by rfl) :
    PE X (.Call (.Attribute o m apos) (e :: es) [] pos) (tMethG X k E m ta t) := by
  refine ⟨fun pins s σ H Q I h => ?_⟩
  refine PySem.W.methodCall_KW (pl := pl) (thn (he.run pins s σ H _ I h) fun u s1 ⟨x, H1, I1, rx, a, C, dx, fs, f, fd, ps, sp, ex, ea, l, c, hm, F, hb, q⟩ => ?_) ht
  subst ex
  obtain rfl : u = Value.ref a := rx
  refine getmeth_ok I1 ea c hm l ?_
  refine PySem.W.callWith_K (first := [.ref a]) (h₀ := X.base) I.ok.mod.kin hm.kp (thn (ha.run pos pins s1 σ H1 _ I1 q) fun us s2 ⟨vs, H2, I2, r, q2⟩ => ⟨I2.kIn, ?_⟩) hst hpl
  exact run_fng (us := .ref a :: us) (xs := .ref a :: vs) F gd room hb hx I2 (.cons rfl r) q2
theorem pe_methG0 {pl : Sem Bool} (he : PE X o ta) (gd : X.A.guards = some []) (room : Room k X.A) (hx : ∀ σ, PassesAt (L2N.CX X.prog X.w) X σ (E σ))
    (ht : eval (.Call (.Attribute o m apos) [] [] pos) X.env = (do
      let ov ← eval o X.env
      standAt apos.atName
      let (f, first) ← holding [ov] (getMethod ov m pl)
      callWith pos f first (backTo pos (starEach [] X.env)) (backToKw pos (keywordEach [] X.env))) := by rfl) :
    PE X (.Call (.Attribute o m apos) [] [] pos) (tMethG X k E m ta tNil) := by
  refine ⟨fun pins s σ H Q I h => ?_⟩
  refine PySem.W.methodCall_KW (pl := pl) (thn (he.run pins s σ H _ I h) fun u s1 ⟨x, H1, I1, rx, a, C, dx, fs, f, fd, ps, sp, ex, ea, l, c, hm, F, hb, q⟩ => ?_) ht
  subst ex
  obtain rfl : u = Value.ref a := rx
  refine getmeth_ok I1 ea c hm l ?_
  exact PySem.W.callWith_K0 (first := [.ref a]) I1.kIn hm.kp (run_fng (us := [.ref a]) (xs := [.ref a]) F gd room hb hx I1 (.cons rfl .nil) q)
end
/-- e.m(args) -/
@[simp] def wMeth (m : Str) (n : Nat) (T : MTab) (we : EW stq) (wa : AW stq) (EX : Exn → DEnv → stq.G → Prop) : EW stq := fun ρ g q => we ρ g fun d g' => ∃ k cls fs sp, d = .ob k ∧ g'.S[k]? = some (.ins cls fs) ∧ fldD? m fs = none ∧ (cls, sp) ∈ T ∧
  wa ρ g' fun ds g2 => ds.length + 1 = n ∧ sp (.ob k :: ds) g2 q fun x g3 => EX x ρ g3
theorem de_meth {k : Nat} {m : Str} {ps : List Str} {T : MTab} (F : MethT C.X.prog C.X.w C.X.K C.X.mg C.X.base k m ps T) (hgd : C.X.A.guards = some []) (hr : Room k C.X.A) (tk : TakesD C) (ho : DE C e2 we) (ha : DA C (e :: es) wa) {pl : Sem Bool}
    (hst : starEach (e :: es) C.X.env = (false, eval e C.X.env) :: starEach es C.X.env := by rfl) (hpl : (backTo pos (starEach es C.X.env)).any (·.1) = false := by rfl)
    (ht : eval (.Call (.Attribute e2 m apos) (e :: es) [] pos) C.X.env = (do
      let ov ← eval e2 C.X.env
      standAt apos.atName
      let (f, first) ← holding [ov] (getMethod ov m pl)
      callWith pos f first (backTo pos (starEach (e :: es) C.X.env)) (backToKw pos (keywordEach [] C.X.env))) := by rfl) :
    DE C (.Call (.Attribute e2 m apos) (e :: es) [] pos) (wMeth m ps.length T we wa C.EX) := ⟨fun σ ρ W Q q S hQ hw =>
  tOf_of (pe_methG (k := k) (E := fun σ => EXs C σ) pe_tOf hgd hr (fun σ => L2N.passAt tk σ) pa_tOf hst hpl ht) (ho.run σ ρ W _ _ S (fun v d W1 g1 k1 r1 q1 => by
    obtain ⟨j, cls, fs, sp, rfl, h1, h2, h3, h4⟩ := q1
    obtain ⟨a, CC, dx, vs, rfl, hR, hC, hH, r, _⟩ := ob_ins k1 r1 h1
    obtain ⟨C2, f, fd, hC2, cl, hm, F, hb⟩ := (F _ h3).ex
    rw [hC] at hC2
    cases hC2
    refine ⟨a, _, dx, _, f, fd, _, _, rfl, hH, zipf_none r h2, cl, hm, F, hb, ?_⟩
    refine ha.run σ ρ W1 _ _ (S.step g1 k1) (fun us ds W2 g2 k2 r2 q2 => ?_) h4
    exact ⟨W2, _, q, fun x g => C.EX x ρ g, rfl, k2, .cons (r1.step g2) r2, q2.1, q2.2, fun v d W3 g3 k3 r3 q3 => hQ v d W3 ((g1.trans g2).trans g3) k3 r3 q3, fun cls d H' h => exs_of (S.step (g1.trans g2) k2) (fun _ _ z => z) h⟩) hw)⟩
theorem de_meth0 {k : Nat} {m : Str} {ps : List Str} {T : MTab} (F : MethT C.X.prog C.X.w C.X.K C.X.mg C.X.base k m ps T) (hgd : C.X.A.guards = some []) (hr : Room k C.X.A) (tk : TakesD C) (ho : DE C e2 we) {pl : Sem Bool}
    (ht : eval (.Call (.Attribute e2 m apos) [] [] pos) C.X.env = (do
      let ov ← eval e2 C.X.env
      standAt apos.atName
      let (f, first) ← holding [ov] (getMethod ov m pl)
      callWith pos f first (backTo pos (starEach [] C.X.env)) (backToKw pos (keywordEach [] C.X.env))) := by rfl) :
    DE C (.Call (.Attribute e2 m apos) [] [] pos) (wMeth m ps.length T we wANil C.EX) := ⟨fun σ ρ W Q q S hQ hw =>
  tOf_of (pe_methG0 (k := k) (E := fun σ => EXs C σ) pe_tOf hgd hr (fun σ => L2N.passAt tk σ) ht) (ho.run σ ρ W _ _ S (fun v d W1 g1 k1 r1 q1 => by
    obtain ⟨j, cls, fs, sp, rfl, h1, h2, h3, h4⟩ := q1
    obtain ⟨a, CC, dx, vs, rfl, hR, hC, hH, r, _⟩ := ob_ins k1 r1 h1
    obtain ⟨C2, f, fd, hC2, cl, hm, F, hb⟩ := (F _ h3).ex
    rw [hC] at hC2
    cases hC2
    refine ⟨a, _, dx, _, f, fd, _, _, rfl, hH, zipf_none r h2, cl, hm, F, hb, ?_⟩
    exact ⟨W1, _, q, fun x g => C.EX x ρ g, rfl, k1, .cons r1 .nil, h4.1, h4.2, fun v d W3 g3 k3 r3 q3 => hQ v d W3 (g1.trans g3) k3 r3 q3, fun cls d H' h => exs_of (S.step g1 k1) (fun _ _ z => z) h⟩) hw)⟩

structure PropB (P : Program) (w : World) (K : PySem.W.Frag) (mg : Str → Option Value) (base : Heap) (k : Nat) (cls m : Str) (sp : Sp) : Prop where
  ex : ∃ (C p f : Addr) (fd : FuncData), PySem.W.nsIn K mainGlobals cls = some (some (.ref C)) ∧ Cls K C ∧ PropOf K C m p f ∧ FnG P w K mg base k f fd ["self"] sp ∧ Binds K fd ["self"] []
def PropT (P : Program) (w : World) (K : PySem.W.Frag) (mg : Str → Option Value) (base : Heap) (k : Nat) (m : Str) (T : MTab) : Prop := ∀ e ∈ T, PropB P w K mg base k e.1 m (liftSp K mg 1 e.2)
theorem propT_nil {P : Program} {w : World} {K : PySem.W.Frag} {mg : Str → Option Value} {base : Heap} {k : Nat} {m : Str} : PropT P w K mg base k m [] := fun _ h => by cases h
theorem propT_cons {P : Program} {w : World} {K : PySem.W.Frag} {mg : Str → Option Value} {base : Heap} {k : Nat} {cls m : Str} {sp : DSp stq} {T : MTab} (h : PropB P w K mg base k cls m (liftSp K mg 1 sp)) (t : PropT P w K mg base k m T) :
    PropT P w K mg base k m ((cls, sp) :: T) := fun x hx => by
  rcases List.mem_cons.mp hx with rfl | hx
  · exact h
  · exact t x hx
theorem getprop_G {X : Cx} {k : Nat} {C p g a dx : Addr} {fs : List (Str × V)} {f : Str} {fd : FuncData} {ps : List Str} {sp : Sp} {pins : List (Addr × Obj)} {σ : L2.St} {H : Hp} {s : Shared} {Q : VK} {b : Bool} (I : Inv X pins σ H s) (ea : H a = some (.ins C dx fs)) (c : Cls X.K C) (hp : PropOf X.K C f p g)
    (F : FnG X.prog X.w X.K X.mg X.base k g fd ps sp) (gd : X.A.guards = some []) (hr : Room (k + 1) X.A) (hb : Binds X.K fd ps []) (h : sp [.ref a] H Q fun _ _ _ => False) :
    wpAny (model X.prog X.w) X.A (getAttr (.ref a) f b) (EP X pins σ Q) X.xe s := by
  obtain ⟨mA, O, _, _, _, _⟩ := ins_get I.hok ea
  obtain ⟨od, J, _⟩ := O.look
  obtain ⟨rest, hrec⟩ := hp.rec_
  have I1 := I.tok (s.toks + 1)
  have hl : ([Value.ref a] ++ []).length = ps.length := by
    rw [← F.len _ _ _ _ h]
    rfl
  have bd := hb { s with toks := s.toks + 1 } [.ref a] I1.kIn hl
  have hc : (PySem.W.clsIn X.K C).isSome = true := by
    obtain ⟨cd, hc, _⟩ := PySem.W.any_some c.hd
    rw [hc]
    rfl
  refine PySem.W.get_bind I.kIn J (PySem.W.plainGet_of (c.get f)).1 (PySem.W.findObj_data hc hp.at_ hp.get hp.tak) (PySem.W.plainGet_of (c.get f)).2 (wpAny_call (PySem.W.prop_get (s := { s with toks := s.toks + 1 }) I.kIn hrec ?_))
  refine codeAny_mono (F.run X.A.in1 X.stack { s with toks := s.toks + 1 } H ⟨[.ref a], []⟩ [.ref a] [.ref a] Q (fun _ _ _ => False) hr.in1 gd I1.env0.in1 bd (.cons rfl .nil) h) fun r s' hq => ?_
  match r, hq with
  | .error er, hq =>
    obtain ⟨_, _, _, _, _, _, _, _, _, _, _, _, z⟩ := hq
    exact z.elim
  | .ok (.ret u), hq =>
    obtain ⟨v, H', I3, rv, q3⟩ := I1.after hq
    show wpAny _ _ (handedOut u) _ _ _
    rw [PySem.W.handedOut_of (handed_of rv)]
    exact wpAny_pure ⟨v, H', I3, rv, q3⟩
  | .ok .next, hq => exact False.elim hq
  | .ok .brk, hq => exact False.elim hq
  | .ok .cont, hq => exact False.elim hq
def tPropG (X : Cx) (k : Nat) (m : Str) (ta : TE) : TE := fun σ H Q => ta σ H fun x H1 => ∃ (a : Addr) (C : Addr) (dx : Addr) (fs : List (Str × V)) (p f : Addr) (fd : FuncData) (ps : List Str) (sp : Sp), x = .ref a ∧ H1 a = some (.ins C dx fs) ∧
  Cls X.K C ∧ PropOf X.K C m p f ∧ FnG X.prog X.w X.K X.mg X.base k f fd ps sp ∧ Binds X.K fd ps [] ∧ sp [x] H1 Q fun _ _ _ => False
theorem pe_propG {X : Cx} {k : Nat} {f : Str} {e : Expr} {ta : TE} {pos : Pos} (he : PE X e ta) (gd : X.A.guards = some []) (room : Room (k + 1) X.A)
    (hab : attributeBase e f X.env (eval e X.env) = eval e X.env) : PE X (.Attribute e f pos) (tPropG X k f ta) := by
  refine ⟨fun pins s σ H Q I h => ?_⟩
  refine attr_of hab (thn (he.run pins s σ H _ I h) fun u s1 ⟨x, H1, I1, rx, a, C, dx, fs, p, g, fd, ps, sp, ex, ea, c, hp, F, hb, q⟩ => ?_)
  subst ex
  obtain rfl : u = Value.ref a := rx
  exact getprop_G I1 ea c hp F gd room hb q
/-- e.f, a property -/
@[simp] def wProp (T : MTab) (we : EW stq) : EW stq := fun ρ g q => we ρ g fun d g' => ∃ k cls fs sp, d = .ob k ∧ g'.S[k]? = some (.ins cls fs) ∧ (cls, sp) ∈ T ∧ sp [.ob k] g' q fun _ _ => False
theorem de_prop {k : Nat} {m : Str} {T : MTab} (F : PropT C.X.prog C.X.w C.X.K C.X.mg C.X.base k m T) (hgd : C.X.A.guards = some []) (hr : Room (k + 1) C.X.A) (ho : DE C e we) (hab : attributeBase e m C.X.env (eval e C.X.env) = eval e C.X.env := by rfl) :
    DE C (.Attribute e m pos) (wProp T we) := ⟨fun σ ρ W Q q S hQ hw =>
  tOf_of (pe_propG (k := k) pe_tOf hgd hr hab) (ho.run σ ρ W _ _ S (fun v d W1 g1 k1 r1 q1 => by
    obtain ⟨j, cls, fs, sp, rfl, h1, h3, h4⟩ := q1
    obtain ⟨a, CC, dx, vs, rfl, hR, hC, hH, r, _⟩ := ob_ins k1 r1 h1
    obtain ⟨C2, p, f, fd, hC2, cl, hp, F, hb⟩ := (F _ h3).ex
    rw [hC] at hC2
    cases hC2
    refine ⟨a, _, dx, _, p, f, fd, _, _, rfl, hH, cl, hp, F, hb, ?_⟩
    exact ⟨W1, _, q, fun _ _ => False, rfl, k1, .cons r1 .nil, rfl, h4, fun v d W3 g3 k3 r3 q3 => hQ v d W3 (g1.trans g3) k3 r3 q3, fun cls d H' h => by
      obtain ⟨_, _, _, _, _, _, z⟩ := h
      exact z⟩) hw)⟩

structure MakeB (P : Program) (w : World) (K : PySem.W.Frag) (mg : Str → Option Value) (base : Heap) (k : Nat) (cls : Str) (ps : List Str) (sp : Sp) : Prop where
  ex : ∃ (C f : Addr) (fd : FuncData), PySem.W.nsIn K mainGlobals cls = some (some (.ref C)) ∧ mg cls = some (.ref C) ∧ Mk K C f ∧ FnG P w K mg base k f fd ps sp ∧ Binds K fd ps []
theorem make_guards {A : Around} {C : Addr} {us : List Value} {kw : List (Str × Value)} (h : A.guards = some []) : (A.under (.builtin "type.__call__" ⟨.ref C :: us, kw⟩)).guards = some [] := by
  first
    | exact h
    | simp [Around.under, Code.guards, Code.isGuard, guardIds, pushGuards, h]
theorem run_makeG {X : Cx} {k : Nat} {C f : Addr} {fd : FuncData} {ps : List Str} {sp : Sp} {E : L2.St → XK} {pins : List (Addr × Obj)} {σ : L2.St} {H : Hp} {s : Shared} {Q : VK} {us : List Value} {vs : List V} (M : Mk X.K C f) (F : FnG X.prog X.w X.K X.mg X.base k f fd ps sp) (gd : X.A.guards = some []) (hr : Room (k + 1) X.A) (hb : Binds X.K fd ps [])
    (hx : ∀ σ, PassesAt (L2N.CX X.prog X.w) X σ (E σ)) (I : Inv X pins σ H s) (r : Vals vs us)
    (h : ∀ x dx, H x = none → H dx = none → dx ≠ x → sp (.ref x :: vs) (upd (upd H dx (.own x)) x (.ins C dx [])) (fun v H2 => v = .non ∧ Q (.ref x) H2) (E σ)) :
    wpAny (model X.prog X.w) X.A (call (.ref C) us) (EP X pins σ Q) X.xe s := by
  have hq := h (s.heap.objs.size + 1) s.heap.objs.size (I.hok.fresh (Nat.le_succ _)) (I.hok.fresh (Nat.le_refl _)) (Nat.ne_of_lt (Nat.lt_succ_self _))
  have I2 := Inv.made (C := C) I
  have r2 : Vals (V.ref (s.heap.objs.size + 1) :: vs) (Value.ref (s.heap.objs.size + 1) :: us) := .cons rfl r
  have hl : (Value.ref (s.heap.objs.size + 1) :: us ++ []).length = ps.length := by
    have e := r2.length
    rw [F.len _ _ _ _ hq] at e
    rw [List.append_nil]
    exact e.symm
  have bd := hb _ (Value.ref (s.heap.objs.size + 1) :: us) I2.kIn hl
  rw [List.append_nil] at bd
  refine wpAny_call (make_map (f := f) I.kIn M.makes M.init (beq_iff_eq.mp M.fn) (codeAny_mono (F.run _ X.stack _ _ ⟨Value.ref (s.heap.objs.size + 1) :: us, []⟩ (Value.ref (s.heap.objs.size + 1) :: us) _ _ (E σ) (hr.make C us []) (make_guards gd)
    (I2.env0.make C us []) bd r2 hq) fun r s' hq' => ?_))
  match r, hq' with
  | .error e, hq' => exact hx σ pins _ _ e s' I2 hq'
  | .ok (.ret u), hq' =>
    obtain ⟨v, H', I3, rv, ev, q3⟩ := I2.after hq'
    subst ev
    exact ⟨rv, ⟨V.ref (s.heap.objs.size + 1), H', I3, rfl, q3⟩⟩
  | .ok .next, hq' => exact False.elim hq'
  | .ok .brk, hq' => exact False.elim hq'
  | .ok .cont, hq' => exact False.elim hq'
end
end DL
set_option Elab.async false
set_option linter.all false
set_option maxRecDepth 100000
set_option maxHeartbeats 1000000
namespace DL
open PySem L2
section
variable {X : Cx} {k : Nat} {f : Addr} {fd : FuncData} {ps : List Str} {sp : Sp} {pins : List (Addr × Obj)} {σ : L2.St} {H : Hp} {s : Shared} {Q : VK} {us : List Value} {xs : List V}
/-- a def that raises nothing, called anywhere -/
theorem run_fngA {A : Around} {E : Value → Shared → Prop} (F : FnG X.prog X.w X.K X.mg X.base k f fd ps sp) (gd : A.guards = some []) (room : Room k A) (e0 : Env0 X.prog X.w X.K X.mg X.base A X.stack s H) (hb : Binds X.K fd ps [])
    (I : Inv X pins σ H s) (rel : Vals xs us) (want : sp xs H Q fun _ _ _ => False) : wpAny (model X.prog X.w) A (call (.ref f) us) (EP X pins σ Q) E s := by
  have hl : (us ++ []).length = ps.length := by rw [List.append_nil, ← rel.length]; exact F.len _ _ _ _ want
  have bd := hb s us I.kIn hl
  rw [List.append_nil] at bd
  refine wpAny_call (codeAny_mono (F.run A X.stack s H ⟨us, []⟩ us xs Q _ room gd e0 bd rel want) fun r s2 hq => ?_)
  match r, hq with
  | .error er, hq =>
    obtain ⟨_, _, _, _, _, _, _, _, _, _, _, _, z⟩ := hq
    exact z.elim
  | .ok (.ret u), hq => exact I.after hq
  | .ok .next, hq => exact False.elim hq
  | .ok .brk, hq => exact False.elim hq
  | .ok .cont, hq => exact False.elim hq
/-- a method of an instance, that raises nothing -/
structure OwnAt (X : Cx) (k : Nat) (m : Str) (x : V) (a C dx : Addr) (fs : List (Str × V)) (f : Addr) (fd : FuncData) (ps : List Str) (sp : Sp) (H : Hp) : Prop where
  e : x = .ref a
  h : H a = some (.ins C dx fs)
  m : Meth X.K C m f
  F : FnG X.prog X.w X.K X.mg X.base k f fd ps sp
  b : Binds X.K fd ps []
def rLenO (X : Cx) (k : Nat) : List V → Hp → VK → Prop := fun xs H Q => ∃ x a C dx fs f fd ps sp, xs = [x] ∧ OwnAt X k "__len__" x a C dx fs f fd ps sp H ∧ sp [x] H (fun z H' => ∃ i : Int, z = .int i ∧ 0 ≤ i ∧ i < 2 ^ 63 ∧ Q (.int i) H') fun _ _ _ => False
theorem call_lenO (gd : X.A.guards = some []) (hr : Room (k + 1) X.A) : CallR X (.builtin "len") (rLenO X k) := by
  intro pins s σ H xs us Q I r h
  obtain ⟨x, a, C, dx, fs, f, fd, ps, sp, rfl, O, q⟩ := h
  obtain ⟨u, rfl, ru⟩ := r.one
  obtain ⟨rfl, hh, hm, F, hb⟩ := O
  cases (show u = Value.ref a from ru)
  obtain ⟨mA, OM, _, _, _, _⟩ := ins_get I.hok hh
  obtain ⟨od, J, _⟩ := OM.look
  obtain ⟨m, hF⟩ := I.fr
  refine PySem.W.len_K hF I.ok.mod.kin J hm.at_ hm.fn (wpAny_mono (run_fngA (A := X.A.in1) F gd hr.in1 I.env0.in1 hb (us := [.ref a]) (xs := [.ref a]) I (.cons rfl .nil) q) (fun w s' z => ?_) fun _ _ z => z)
  obtain ⟨z', H', I', rz, i, ei, h0, h1, qz⟩ := z
  subst ei
  obtain ⟨t, e⟩ := (show ∃ t, w = Value.int i t from rz)
  subst e
  exact ⟨⟨h0, h1⟩, .int i, H', I'.tok _, ⟨_, rfl⟩, qz⟩
def rStrO (X : Cx) (k : Nat) : List V → Hp → VK → Prop := fun xs H Q => ∃ x a C dx fs f fd ps sp, xs = [x] ∧ OwnAt X k "__str__" x a C dx fs f fd ps sp H ∧ sp [x] H (fun z H' => ∃ y : Str, z = .str y ∧ Q (.str y) H') fun _ _ _ => False
theorem call_strO (gd : X.A.guards = some []) (hr : Room (k + 2) X.A) : CallR X (.type "str") (rStrO X k) := by
  intro pins s σ H xs us Q I r h
  obtain ⟨x, a, C, dx, fs, f, fd, ps, sp, rfl, O, q⟩ := h
  obtain ⟨u, rfl, ru⟩ := r.one
  obtain ⟨rfl, hh, hm, F, hb⟩ := O
  cases (show u = Value.ref a from ru)
  obtain ⟨mA, OM, _, _, _, _⟩ := ins_get I.hok hh
  obtain ⟨od, J, _⟩ := OM.look
  have hr2 : Room k X.A.in1.in1 := (show Room (k + 1) X.A.in1 from Room.in1 hr).in1
  refine PySem.W.kso_call hr2.units0 I.kIn J hm.at_ hm.fn (wpAny_mono (run_fngA (A := X.A.in1.in1) F gd hr2 I.env0.in1.in1 hb (us := [.ref a]) (xs := [.ref a]) I (.cons rfl .nil) q) (fun w s' z => ?_) fun _ _ z => z)
  obtain ⟨z', H', I', rz, y, ei, qz⟩ := z
  subst ei
  obtain ⟨t, e⟩ := (show ∃ t, w = Value.str y t from rz)
  subst e
  exact ⟨.str y, H', I', ⟨_, rfl⟩, qz⟩
end
section
variable {C : Ct stq} {W W1 W2 W' : Wd stq} {σ : L2.St} {ρ : DEnv} {e e2 : Expr} {es : List Expr} {we wv : EW stq} {pos pos' apos p : Pos} {wa : AW stq}
theorem own_at {k j : Nat} {m : Str} {T : MTab} {ps : List Str} {cls : Str} {fs : List (Str × D)} {sp : DSp stq} {v : V} (F : MethT C.X.prog C.X.w C.X.K C.X.mg C.X.base k m ps T) (w : Wok C.X.K W) (r : Rp C.X.K W.F W.R v (.ob j)) (h1 : W.g.S[j]? = some (.ins cls fs)) (h3 : (cls, sp) ∈ T) :
    ∃ a CC dx vs f fd, OwnAt C.X k m v a CC dx vs f fd ps (liftSp C.X.K C.X.mg ps.length sp) W.H := by
  obtain ⟨a, CC, dx, vs, rfl, hR, hC, hH, r, _⟩ := ob_ins w r h1
  obtain ⟨C2, f, fd, hC2, cl, hm, F, hb⟩ := (F _ h3).ex
  rw [hC] at hC2
  cases hC2
  exact ⟨a, _, dx, _, f, fd, rfl, hH, hm, F, hb⟩
/-- len(e), str(e): an own method's answer -/
@[simp] def wLenO (T : MTab) (we : EW stq) : EW stq := fun ρ g q => we ρ g fun d g' => ∃ k cls fs sp, d = .ob k ∧ g'.S[k]? = some (.ins cls fs) ∧ (cls, sp) ∈ T ∧ sp [.ob k] g' (fun z g2 => ∃ i : Int, z = .int i ∧ 0 ≤ i ∧ i < 2 ^ 63 ∧ q (.int i) g2) fun _ _ => False
@[simp] def wStrO (T : MTab) (we : EW stq) : EW stq := fun ρ g q => we ρ g fun d g' => ∃ k cls fs sp, d = .ob k ∧ g'.S[k]? = some (.ins cls fs) ∧ (cls, sp) ∈ T ∧ sp [.ob k] g' (fun z g2 => ∃ y, z = .str y ∧ q (.str y) g2) fun _ _ => False
theorem de_lenO {k : Nat} {T : MTab} (F : MethT C.X.prog C.X.w C.X.K C.X.mg C.X.base k "__len__" ["self"] T) (hgd : C.X.A.guards = some []) (hr : Room (k + 1) C.X.A) (hm : C.X.mg "len" = none) (he : DE C e we) (hg : Gl C.X "len" := by rfl) (hs : starEach [e] C.X.env = (false, eval e C.X.env) :: starEach [] C.X.env := by rfl) :
    DE C (.Call (.Name "len" p) [e] [] pos) (wLenO T we) := ⟨fun σ ρ W Q q S hQ hw =>
  tOf_of (pe_callB (call_lenO (k := k) hgd hr) hg hm PySem.boot_len (pa_cons pe_tOf pa_nil hs) (by decide) (by decide) hs rfl) (he.run σ ρ W _ _ S (fun v d W1 g1 k1 r1 q1 => by
    obtain ⟨j, cls, fs, sp, rfl, h1, h3, h4⟩ := q1
    obtain ⟨a, CC, dx, vs, f, fd, O⟩ := own_at F k1 r1 h1 h3
    refine ⟨v, a, CC, dx, vs, f, fd, _, _, rfl, O, W1, _, _, fun _ _ => False, rfl, k1, .cons r1 .nil, rfl, h4, fun v d W3 g3 k3 r3 q3 => ?_, fun cls d H' h => ?_⟩
    · obtain ⟨i, rfl, h0, h5, q3⟩ := q3
      exact ⟨i, by cases r3; rfl, h0, h5, hQ _ _ W3 (g1.trans g3) k3 (.int i) q3⟩
    · obtain ⟨_, _, _, _, _, _, z⟩ := h
      exact z) hw)⟩
theorem de_strO {k : Nat} {T : MTab} (F : MethT C.X.prog C.X.w C.X.K C.X.mg C.X.base k "__str__" ["self"] T) (hgd : C.X.A.guards = some []) (hr : Room (k + 2) C.X.A) (hm : C.X.mg "str" = none) (he : DE C e we) (hg : Gl C.X "str" := by rfl) (hs : starEach [e] C.X.env = (false, eval e C.X.env) :: starEach [] C.X.env := by rfl) :
    DE C (.Call (.Name "str" p) [e] [] pos) (wStrO T we) := ⟨fun σ ρ W Q q S hQ hw =>
  tOf_of (pe_callTy (call_strO (k := k) hgd hr) hg hm (by decide +kernel) (pa_cons pe_tOf pa_nil hs) (by decide) (by decide) hs rfl) (he.run σ ρ W _ _ S (fun v d W1 g1 k1 r1 q1 => by
    obtain ⟨j, cls, fs, sp, rfl, h1, h3, h4⟩ := q1
    obtain ⟨a, CC, dx, vs, f, fd, O⟩ := own_at F k1 r1 h1 h3
    refine ⟨v, a, CC, dx, vs, f, fd, _, _, rfl, O, W1, _, _, fun _ _ => False, rfl, k1, .cons r1 .nil, rfl, h4, fun v d W3 g3 k3 r3 q3 => ?_, fun cls d H' h => ?_⟩
    · obtain ⟨y, rfl, q3⟩ := q3
      cases r3 with
      | str z _ hz => exact ⟨z, rfl, hQ _ _ W3 (g1.trans g3) k3 (.str z _ hz) q3⟩
    · obtain ⟨_, _, _, _, _, _, z⟩ := h
      exact z) hw)⟩
end

section
variable {M : Ghost} {C : Ct M} {W W1 W2 W' : Wd M} {σ : L2.St} {ρ : DEnv} {e e2 : Expr} {es : List Expr} {we : EW M} {pos : Pos}
/-- a value as a field shows it -/
@[simp] def asFmt (d : D) (q : List Nat → Prop) : Prop := match d with
  | .str y => y.length ≤ sizeLine ∧ q y
  | .int i => i.natAbs.log2 < 1920 ∧ q (dec i)
  | _ => False
@[simp] def wFmt (we : EW M) : EW M := fun ρ g q => we ρ g fun d g' => asFmt d fun y => q (.str y) g'
theorem de_fmt (he : DE C e we) : DE C (.FormattedValue e (-1) none pos) (wFmt we) := ⟨fun σ ρ W Q q S hQ hw =>
  tOf_of (pe_fmt pe_tOf) (he.run σ ρ W _ _ S (fun v d W1 g1 k1 r1 q1 => by
    cases d with
    | str y =>
      obtain ⟨h1, q1⟩ := q1
      cases r1 with
      | str z _ hz =>
        subst hz
        exact .inl ⟨z, rfl, by rw [str_len]; exact h1, hQ _ _ W1 g1 k1 (rp_str z) q1⟩
    | int i =>
      obtain ⟨h1, q1⟩ := q1
      cases r1
      exact .inr ⟨i, rfl, h1, hQ _ _ W1 g1 k1 (rp_strS _ rfl) q1⟩
    | _ => exact q1.elim) hw)⟩
abbrev JW (M : Ghost) := DEnv → M.G → List Nat → (List Nat → M.G → Prop) → Prop
structure DJs (C : Ct M) (es : List Expr) (w : JW M) : Prop where
  run : ∀ (σ : L2.St) (ρ : DEnv) (W : Wd M) (acc : Str) (Q : Str → Hp → Prop) (q : List Nat → M.G → Prop), Sat C σ ρ W → (∀ (z : Str) W', Go W W' → Wok C.X.K W' → q z.cps.toList W'.g → Q z W'.H) → w ρ W.g acc.cps.toList q → tJs (es.map (tOf C.X)) acc σ W.H Q
@[simp] def wJ0 : JW M := fun _ g acc q => q acc g
@[simp] def wJ (we : EW M) (u : JW M) : JW M := fun ρ g acc q => we ρ g fun d g1 => ∃ y, d = .str y ∧ acc.length + y.length ≤ sizeLine ∧ u ρ g1 (acc ++ y) q
theorem djs_nil : DJs C [] wJ0 := ⟨fun σ ρ W acc Q q S hQ hw => hQ acc W (Go.refl W) S.ok hw⟩
theorem djs_cons {u : JW M} (he : DE C e we) (hr : DJs C es u) : DJs C (e :: es) (wJ we u) := ⟨fun σ ρ W acc Q q S hQ hw =>
  he.run σ ρ W _ _ S (fun v d W1 g1 k1 r1 q1 => by
    obtain ⟨y, rfl, h1, q1⟩ := q1
    cases r1 with
    | str z _ hz =>
      subst hz
      refine ⟨z, rfl, by rw [str_len, str_app, List.length_append]; exact h1, ?_⟩
      exact hr.run σ ρ W1 (acc ++ z) Q q (S.step g1 k1) (fun z2 W2 g2 k2 q2 => hQ z2 W2 (g1.trans g2) k2 q2) (by rw [str_app]; exact q1)) hw⟩
theorem pj_all {X : Cx} : ∀ es : List Expr, L2.PJ X es (es.map (tOf X))
  | [] => .nil
  | e :: es => .cons pe_tOf (pj_all es)
@[simp] def wJoined (u : JW M) : EW M := fun ρ g q => u ρ g [] fun out g' => q (.str out) g'
theorem de_joined {u : JW M} (h : DJs C (e :: e2 :: es) u) : DE C (.JoinedStr (e :: e2 :: es) pos) (wJoined u) := ⟨fun σ ρ W Q q S hQ hw =>
  tOf_of (pe_joined (pj_all _)) (h.run σ ρ W Str.empty _ _ S (fun z W1 g1 k1 q1 => hQ _ _ W1 g1 k1 (rp_str z) q1) hw)⟩
end

section
variable {C : Ct stq} {W W1 W2 W' : Wd stq} {σ : L2.St} {ρ : DEnv} {a b e e2 : Expr} {es : List Expr} {we wb wi wo : EW stq} {pos pos' apos cpos p p1 p2 : Pos} {wa : AW stq}
end
end DL
set_option Elab.async false
set_option linter.all false
set_option maxRecDepth 100000
set_option maxHeartbeats 1000000
namespace DL
open PySem L2
section
variable {X : Cx} {o : Expr} {f : Str} {pos : Pos} {ta : TE}
end
abbrev GQ := D → DEnv → Gq → (DEnv → Gq → Prop) → Prop
abbrev GQs := List D → DEnv → Gq → (DEnv → Gq → Prop) → Prop
section
variable {C : Ct stq} {W W1 W2 W' : Wd stq} {σ : L2.St} {ρ : DEnv} {e e2 tg : Expr} {es tgs : List Expr} {we : EW stq} {wa : AW stq} {pos p : Pos} {gw : GQ} {gs : GQs}
end

section
variable {X : Cx} {k : Nat} {f : Addr} {fd : FuncData} {ps : List Str} {sp : Sp} {E : L2.St → XK} {x : Str} {p pos : Pos} {e : Expr} {es : List Expr} {t : TA}
end
section
variable {M : Ghost} {C : Ct M} {W W1 : Wd M} {σ : L2.St} {ρ : DEnv} {e : Expr} {es : List Expr} {we : EW M} {pos p : Pos} {wa : AW M}
end
end DL
set_option Elab.async false
set_option linter.all false
set_option maxRecDepth 100000
set_option maxHeartbeats 1000000
namespace DL
open PySem PySem.Spec PyProof.Rows L2
@[simp] def kLawQ : K3 stq := { nx := fun _ _ => False, rt := fun d _ => d = .bl true, bk := fun _ _ => False, ct := fun _ _ => False }
/-- a statement of a class's body -/
def clsBody (s : Stmt) : List Stmt := match s with
  | .ClassDef _ _ _ b _ _ _ _ _ _ _ => b
  | _ => []
theorem law_ofQ {P : Program} {w : World} {K : PySem.W.Frag} {mg : Str → Option Value} {base : Heap} {x qual scr : Str} {st st0 : Stmt} {rest : List Stmt} {f : Addr} {fd : FuncData} {N : List Str} {k i : Nat} {wr : SW stq} (F : Fun K x qual st f fd) (Sc : FnScope N [scr] (defScope st)) (hi : 0 < i)
    (hst : defBody st = st0 :: rest)
    (h0 : ∀ (cdv : Value) (A : Around) (outer : List Env) (s : Shared) (H : Hp) (E : XK), Room k (A.deeper (envOfC qual (defScope st) s.heap.objs.size f cdv)) → A.guards = some [] →
      PS (cxOf (L2N.CX P w) P w K mg base N qual (defScope st) f cdv A outer s H E) st0 (tAsg (tCallG (spStream K) (fun _ => E0) (tCons (tVar 0) tNil)) (gName i)))
    (hbody : ∀ (cdv : Value) (A : Around) (outer : List Env) (s : Shared) (H : Hp) (E : XK) (W0 : Wd stq), Room k (A.deeper (envOfC qual (defScope st) s.heap.objs.size f cdv)) → A.guards = some [] →
      TakesD (M := stq) ⟨cxOf (L2N.CX P w) P w K mg base N qual (defScope st) f cdv A outer s H E, W0, xno, W0⟩ → DSs (M := stq) ⟨cxOf (L2N.CX P w) P w K mg base N qual (defScope st) f cdv A outer s H E, W0, xno, W0⟩ rest wr)
    (hpure : wr kLawQ (rhoLaw N.length i) ⟨0, [.raw, .raw]⟩) : FnG P w K mg base (k + 1) f fd [scr] (spLaw K) := by
  refine fng_of F Sc (fun vs H Q E h => ?_) (fun cdv A outer s H vs Q E hr hgd h => ?_)
  · obtain ⟨a, ns, rfl, _⟩ := h
    rfl
  · obtain ⟨a, ns, rfl, hS, hlen, hQ⟩ := h
    rw [hst]
    refine ⟨_, pss_cons (h0 cdv A outer s H E hr hgd) pss_tOf, ?_⟩
    have hN : 0 < N.length := by
      have := congrArg List.length Sc.pre
      rw [List.length_take] at this
      simp at this
      omega
    refine ⟨.ref a, ?_, a, ns, rfl, hS, hlen, fun H1 p b c L cs sm np nb nc pb pc bc hp hb hc hcs => ?_⟩
    · unfold L2.start
      rw [List.map_cons, List.cons_append]
      rfl
    have none1 : ∀ {q r : Addr} {o : HO}, q ≠ r → upd (fun _ => none) r o q = none := fun h => upd_ne h
    have sub1 : Same (upd (fun _ => none) c (.lst (cs.map V.int))) H1 := fun q o e => by
      by_cases z : q = c
      · subst z; rw [upd_same] at e; cases e; exact hc
      · rw [none1 z] at e; cases e
    generalize hW1 : ({ F := upd (fun _ => none) c (.lst (cs.map V.int)), H := H1, R := [p, b], g := ⟨0, [.raw, .raw]⟩ } : Wd stq) = W1
    have ok1 : Wok K W1 := by
      subst hW1
      refine ⟨sub1, ⟨rfl, ?_, rfl, rfl, fun _ => ⟨p, b, c, L, cs, 0, rfl, rfl, pb, hp, hb, upd_same (H := fun _ => none) (a := c) (o := .lst (cs.map V.int)), Int.le_refl _, Int.le_refl _, hcs⟩, fun k a o _ e => ?_, fun k cls fs e => ?_⟩, fun q hq => ?_, fun q hq => ?_⟩
      · exact List.nodup_cons.mpr ⟨fun z => pb (List.mem_singleton.mp z), by simp⟩
      · match k, e with
        | 0, e => cases e; trivial
        | 1, e => cases e; trivial
        | _ + 2, e => cases e
      · match k, e with
        | 0, e => cases e
        | 1, e => cases e
        | _ + 2, e => cases e
      · rcases List.mem_cons.mp hq with rfl | hq
        · exact none1 pc
        · rw [List.mem_singleton.mp hq]; exact none1 bc
      · rcases List.mem_cons.mp hq with rfl | hq
        · show H1 q ≠ none; rw [hp]; simp
        · rw [List.mem_singleton.mp hq]; show H1 b ≠ none; rw [hb]; simp
    have eH : W1.H = H1 := by subst hW1; rfl
    have eg : W1.g = (⟨0, [.raw, .raw]⟩ : Gq) := by subst hW1; rfl
    have eR : W1.R = [p, b] := by subst hW1; rfl
    have sat : Sat (M := stq) ⟨cxOf (L2N.CX P w) P w K mg base N qual (defScope st) f cdv A outer s H E, W1, xno, W1⟩ ((L2.start N [.ref a]).set i (some (.ref p))) (rhoLaw N.length i) W1 := by
      refine ⟨ok1, Go.refl _, ?_, fun j t e => ?_, fun j l s1 s2 q e1 _ w1 _ _ _ => ?_, Gs.refl _⟩
      · unfold rhoLaw L2.start
        simp
        omega
      · unfold rhoLaw at e
        have hj : j < N.length := by
          have := (List.getElem?_eq_some_iff.mp e).1
          simpa using this
        have hs : (L2.start N [.ref a]).length = N.length := by
          unfold L2.start
          simp
          omega
        by_cases z : i = j
        · subst z
          rw [List.getElem?_set_self (by simpa using hj)] at e
          cases e
          exact ⟨_, List.getElem?_set_self (by rw [hs]; exact hj), .ref p, rfl, .ob (by rw [eR]; rfl)⟩
        · rw [List.getElem?_set_ne z, List.getElem?_replicate, if_pos hj] at e
          cases e
          exact ⟨_, List.getElem?_eq_getElem (by rw [List.length_set, hs]; exact hj), trivial⟩
      · unfold rhoLaw at e1
        by_cases z : i = j
        · subst z
          have hj := (List.getElem?_eq_some_iff.mp e1).1
          rw [List.length_set] at hj
          rw [List.getElem?_set_self hj] at e1
          cases e1
          cases w1
        · rw [List.getElem?_set_ne z, List.getElem?_replicate] at e1
          split at e1 <;> cases e1
          cases w1
    show tssOf _ rest _ _ H1
    rw [← eH]
    refine (hbody cdv A outer s H E W1 hr hgd takes_none).run _ _ W1 kLawQ _ sat ⟨fun _ _ _ _ _ z => z.elim, fun v d W' _ _ r z => ?_, fun _ _ _ _ _ z => z.elim, fun _ _ _ _ _ z => z.elim⟩ (by rw [eg]; exact hpure)
    have z' : d = .bl true := z
    subst z'
    rw [r.bl_inv]
    exact hQ _
end DL
set_option Elab.async false
set_option linter.all false
set_option maxRecDepth 100000
set_option maxHeartbeats 1000000
namespace DL
open PySem L2
section
variable {C : Ct stq} {e e2 : Expr} {we wv : EW stq} {pos pos' : Pos}
end
end DL
set_option Elab.async false
set_option linter.all false
set_option maxRecDepth 100000
set_option maxHeartbeats 1000000
namespace DL
open PySem L2
/-- super() in the code b: its object is new and pinned -/
def SupAt (X : Cx) (b : List Stmt) (cls : Str) : Prop := ∀ (attr : Str) (whole : Sem Value) (p0 p1 : Pos) (pins : List (Addr × Obj)) (σ : L2.St) (H : Hp) (s : Shared) (a C D dx : Addr) (fs : List (Str × V)) (Q : Value → Shared → Prop),
  (attr == ("__class__" : Str)) = false → Inv X pins σ H s → σ[0]? = some (some (.ref a)) → H a = some (.ins C dx fs) → PySem.W.nsIn X.K mainGlobals cls = some (some (.ref D)) → PySem.W.mroIn X.K C (.ref D) = some true →
  (∀ so s', Inv X ((so, PySem.W.ks_superObj D a C) :: pins) σ H s' → Q (.ref so) s') → wpAt (model X.prog X.w) X.A (.func b X.env) (attributeBase (.Call (.Name "super" p0) [] [] p1) attr X.env whole) Q X.xe s
theorem supAt_of {P : Program} {w : World} {K : PySem.W.Frag} {mg : Str → Option Value} {base : Heap} {N : List Str} {f cc cda D0 : Addr} {A : Around} {outer : List Env} {s0 : Shared} {H0 : Hp} {E : XK} {x qual cls : Str} {st : Stmt}
    {oc ccl cl kV doc pm ct : Value} {od cdd cld an : Option Addr} {osl ccs csl : Array (Option Value)} {vs : Array Value} {file : Str} {tf : Tok} {cdD : ClassData} {ar : Arg}
    (hf : K.lookup f = some ⟨oc, od, .func (PySem.W.ksFn x qual (defArgs st) (defBody st) (defScope st) .none kV doc pm an (.ref cda) ct cc), osl⟩)
    (hcode : K.lookup cda = some ⟨ccl, cdd, .fields vs, ccs⟩) (hvs : vs[2]? = some (.str file tf)) (hfile : ((P.main.file : Str) == file) = true)
    (hcell : K.lookup cc = some ⟨cl, cld, .cell (some (.ref D0)), csl⟩) (hcls : PySem.W.nsIn K mainGlobals cls = some (some (.ref D0))) (hD : PySem.W.clsIn K D0 = some cdD) (msup : mg "super" = none)
    (htop : (P.main.scope.names.lookup ("super" : Str)).isSome = false) (har : ((defArgs st).posonlyargs ++ (defArgs st).args).head? = some ar) (hN : N[0]? = some ar.arg)
    (hks : (defScope st).names.lookup ("super" : Str) = some .globalImplicit) (hkc : (defScope st).names.lookup ("__class__" : Str) = some .free) (hka : (defScope st).names.lookup ar.arg = some .local) (hk : (defScope st).kind = .function) :
    SupAt (NdefX.ncx (L2N.CX P w) P w K mg base N ⟨x, qual, defArgs st, defBody st, defScope st, [("__class__", cc)], cda⟩ f A outer s0 H0 E) (defBody st) cls := by
  intro attr whole p0 p1 pins σ H s a C D dx fs Q hat I hs ha hc hsub h
  have hc' : PySem.W.nsIn K mainGlobals cls = some (some (.ref D)) := hc
  rw [hcls] at hc'
  cases hc'
  have X : K.In s.heap := I.kIn
  obtain ⟨m, hns, hl⟩ := I.loc
  obtain ⟨u, ru, lu⟩ := hl 0 ar.arg (.ref a) hN hs (.inl hka)
  obtain rfl : u = Value.ref a := ru
  have hm : m ar.arg = some (.ref a) := by
    rcases lu with ⟨_, z⟩ | ⟨z, _⟩
    · exact z
    · have z2 : (defScope st).names.lookup ar.arg = some .cell ∨ (defScope st).names.lookup ar.arg = some .free := z
      rw [hka] at z2
      rcases z2 with z2 | z2 <;> cases z2
  obtain ⟨mA, O, _, _, _, _⟩ := ins_get I.hok ha
  obtain ⟨od2, J, _⟩ := O.look
  obtain ⟨oD, hD1, hD2⟩ : ∃ oD, s.heap.get? D0 = some oD ∧ oD.data = .cls cdD := by
    unfold PySem.W.clsIn at hD
    split at hD
    · rename_i c d cd' sl ho
      cases hD
      exact ⟨_, X _ _ ho, rfl⟩
    · cases hD
  obtain ⟨mb, hb1, hb2⟩ := I.mod.blt
  have hpin : ∀ so h', s.heap.objs.size = so → h'.get? so = some (PySem.W.ks_superObj D0 a C) → (∀ y o, s.heap.get? y = some o → h'.get? y = some o) → Q (.ref so) { s with heap := h' } := fun so h' e ho k => by
    subst e
    exact h _ _ (ClX.pin_new (t' := s.toks) I k (Nat.le_refl _) ho (fun v z => nomatch z))
  refine ks_wpAt_super_base (env := PySem.W.ksEnv qual (defScope st) s0.heap.objs.size f (.ref cda) cc) hks hkc hat rfl (X _ _ hf) rfl har rfl (X _ _ hcode) rfl hvs hfile htop ?_
  refine PySem.W.ks_loadName_global hk hks (Calls.loadGlobal_builtin (env := PySem.W.ksEnv qual (defScope st) s0.heap.objs.size f (.ref cda) cc) (I.mod.glob.keeps I.bk) msup (hb1.keeps I.bk) ((hb2 ("super" : Str) (by decide)).trans (show bootBuiltins ("super" : Str) = some (.type "super") from by kernel_rfl)) ⟨rfl, ?_⟩)
  refine wpAny_loadName_free hk hkc rfl ⟨_, X _ _ hcell, rfl⟩ ?_
  refine wpAny_loadName_local hk hka hns hm ?_
  refine ks_wpAny_isType_cls hD1 hD2 ⟨rfl, ?_⟩
  obtain ⟨hh, g, d, t, os⟩ := s
  refine ks_wpAny_call_super hD1 hD2 J.at_ J.cls (fun c e => ?_) (PySem.W.looks_mroIn X hsub) (fun h' e k => ?_)
  · have := J.no
    unfold PySem.W.notCls at this
    rw [e] at this
    exact Bool.noConfusion this
  · exact hpin _ h' rfl e k
def tAt (X : Cx) (b : List Stmt) (e : Expr) : TE := fun σ H Q => ∀ (pins : List (Addr × Obj)) (s : Shared), Inv X pins σ H s → wpAt (model X.prog X.w) X.A (.func b X.env) (eval e X.env) (EP X pins σ Q) X.xe s
def tsAt (X : Cx) (b : List Stmt) (st : Stmt) : TS := fun D σ H => ∀ (pins : List (Addr × Obj)) (s : Shared), Inv X pins σ H s → wpAt (model X.prog X.w) X.A (.func b X.env) (exec st X.env) (SP X pins D) X.xe s
def tssAt (X : Cx) (b : List Stmt) (st : List Stmt) : TS := fun D σ H => ∀ (pins : List (Addr × Obj)) (s : Shared), Inv X pins σ H s → wpAt (model X.prog X.w) X.A (.func b X.env) (execs st X.env) (SP X pins D) X.xe s
section
variable {M : Ghost}
structure DEA (C : Ct M) (b : List Stmt) (e : Expr) (w : EW M) : Prop where
  run : ∀ (σ : L2.St) (ρ : DEnv) (W : Wd M) (Q : VK) (q : D → M.G → Prop), Sat C σ ρ W → (∀ v d W', Go W W' → Wok C.X.K W' → Rp C.X.K W'.F W'.R v d → q d W'.g → Q v W'.H) → w ρ W.g q → tAt C.X b e σ W.H Q
structure DSA (C : Ct M) (b : List Stmt) (st : Stmt) (w : SW M) : Prop where
  run : ∀ (σ : L2.St) (ρ : DEnv) (W : Wd M) (k : K3 M) (E : Ends), Sat C σ ρ W → Lf C W k E → w k ρ W.g → tsAt C.X b st E σ W.H
structure DSsA (C : Ct M) (b : List Stmt) (st : List Stmt) (w : SW M) : Prop where
  run : ∀ (σ : L2.St) (ρ : DEnv) (W : Wd M) (k : K3 M) (E : Ends), Sat C σ ρ W → Lf C W k E → w k ρ W.g → tssAt C.X b st E σ W.H
variable {C : Ct M} {W W1 W2 W' : Wd M} {σ : L2.St} {ρ : DEnv} {b : List Stmt} {st : Stmt} {sts : List Stmt} {w u : SW M} {e : Expr} {we : EW M} {pos pos' : Pos}
theorem dssA_cons (h1 : DSA C b st w) (h2 : DSs C sts u) : DSsA C b (st :: sts) (wSeq w u) := ⟨fun σ ρ W k E S l h pins s I => by
  refine ks_wpAt_execs_cons (ks_wpAt_mono ((h1.run σ ρ W { k with nx := u k } { E with nx := tssOf C.X sts E } S ⟨fun σ' ρ' W' g S' q => h2.run σ' ρ' W' k E S' (l.step g) q, l.rt, l.bk, l.ct⟩ h) pins s I) (fun fl s' hs => ?_) fun _ _ x => x)
  cases fl with
  | next =>
    obtain ⟨σ', H', J, q⟩ := hs
    exact wpAt_of_wpAny (q pins s' J)
  | brk => exact hs
  | cont => exact hs
  | ret u => exact hs⟩
theorem dsA_expr (he : DEA C b e we) (hi : interactive C.X.env = false := by rfl) (hs : swapsWith e none pos.line C.X.env = pure false := by rfl) : DSA C b (.Expr e pos) (wDrop we) := ⟨fun σ ρ W k E S l h pins s I =>
  ks_wpAt_Expr_any (ks_wpAt_mono (he.run σ ρ W (fun _ => E.nx σ) (fun _ g' => k.nx ρ g') S (fun v d W' g ok r q => l.nx σ ρ W' g.s (S.step g ok) q) h pins s I) (fun u s' ⟨v, H', J, rv, q⟩ => ⟨σ, H', J, q⟩) fun _ _ x => x) hi hs⟩
end
/-- a method reached by super(), from the class D on, for an instance of cls -/
structure SupB (P : Program) (w : World) (K : PySem.W.Frag) (mg : Str → Option Value) (base : Heap) (k : Nat) (D cls m : Str) (ps : List Str) (sp : Sp) : Prop where
  ex : ∃ (DD C f : Addr) (fd : FuncData), PySem.W.nsIn K mainGlobals D = some (some (.ref DD)) ∧ PySem.W.nsIn K mainGlobals cls = some (some (.ref C)) ∧ PySem.W.mroIn K C (.ref DD) = some true ∧ PySem.W.ks_superIn K C DD m = some (some (.ref f)) ∧
    PySem.W.typeIn K (.ref f) = some (.type "function") ∧ PySem.W.fnIn K f = true ∧ PySem.W.nsIn K cStatics "thirdparty.any" = some none ∧ FnG P w K mg base k f fd ps sp ∧ Binds K fd ps []
def SupT (P : Program) (w : World) (K : PySem.W.Frag) (mg : Str → Option Value) (base : Heap) (k : Nat) (D m : Str) (ps : List Str) (T : MTab) : Prop := ∀ e ∈ T, SupB P w K mg base k D e.1 m ps (liftSp K mg ps.length e.2)
theorem supT_nil {P : Program} {w : World} {K : PySem.W.Frag} {mg : Str → Option Value} {base : Heap} {k : Nat} {D m : Str} {ps : List Str} : SupT P w K mg base k D m ps [] := fun _ h => by cases h
theorem supT_cons {P : Program} {w : World} {K : PySem.W.Frag} {mg : Str → Option Value} {base : Heap} {k : Nat} {D cls m : Str} {ps : List Str} {sp : DSp stq} {T : MTab} (h : SupB P w K mg base k D cls m ps (liftSp K mg ps.length sp)) (t : SupT P w K mg base k D m ps T) :
    SupT P w K mg base k D m ps ((cls, sp) :: T) := fun x hx => by
  rcases List.mem_cons.mp hx with rfl | hx
  · exact h
  · exact t x hx
section
variable {X : Cx} {pins : List (Addr × Obj)} {σ : L2.St} {H : Hp} {s : Shared}
/-- the bound method of a super object -/
theorem getsup_ok {b : Addr} {so a C D f dx : Addr} {fs : List (Str × V)} {m : Str} {pl : Sem Bool} {Q : Value × List Value → Shared → Prop} (I : Inv X ((so, PySem.W.ks_superObj D a C) :: pins) σ H s) (ha : H a = some (.ins C dx fs)) (ho : PySem.W.nsIn X.K cStatics "thirdparty.any" = some none)
    (hm : PySem.W.ks_superIn X.K C D m = some (some (.ref f))) (ht : PySem.W.typeIn X.K (.ref f) = some (.type "function")) (hn : (m == ("__class__" : Str)) = false)
    (h : ∀ q s', q = s.heap.objs.size → Inv X ((q, PySem.W.methodObj (.ref f) (.ref a)) :: (so, PySem.W.ks_superObj D a C) :: pins) σ H s' → Q (.ref q, []) s') : wpAny (model X.prog X.w) X.A (getMethod (.ref so) m pl) Q X.xe s := by
  have KI : X.K.In s.heap := I.kIn
  have I2 := ClX.met_new (g := f) (C := a) I
  obtain ⟨mA, O, _, _, _, _⟩ := ins_get I.hok ha
  obtain ⟨od2, J, _⟩ := O.look
  have hso := ClX.pin_at I
  have h2 := h s.heap.objs.size _ rfl I2
  obtain ⟨hh, g, d, t, os⟩ := s
  cases hc : PySem.W.clsIn X.K C with
  | none => unfold PySem.W.ks_superIn at hm; rw [hc] at hm; cases hm
  | some cd =>
    unfold PySem.W.ks_superIn at hm
    rw [hc] at hm
    obtain ⟨of, hof, hofc⟩ : ∃ of, hh.get? f = some of ∧ of.cls = .type "function" := by
      have ht' : (X.K.lookup f).map (·.cls) = some (.type "function") := ht
      cases z : X.K.lookup f with
      | none => rw [z] at ht'; cases ht'
      | some of => rw [z] at ht'; exact ⟨of, KI _ _ z, Option.some.inj ht'⟩
    refine ks_wpAny_getMethod_super hso (PySem.W.looks_opaque KI ho) (l₀ := cd.mro) ?_ rfl KI hm hof hofc (PySem.W.ks_ne KI J hc) hn h2
    exact fun A Q E s k q => wpAny_bind ((PySem.W.looks_clsIn KI hc) A _ E s k (wpAny_pure q))
theorem run_supG {k : Nat} {q a f : Addr} {fd : FuncData} {ps : List Str} {sp : Sp} {E : L2.St → XK} {Q : VK} {us : List Value} {xs : List V} {o : Addr × Obj} (F : FnG X.prog X.w X.K X.mg X.base k f fd ps sp) (gd : X.A.guards = some []) (room : Room k X.A) (hb : Binds X.K fd ps [])
    (hx : ∀ σ, PassesAt (L2N.CX X.prog X.w) X σ (E σ)) (I : Inv X ((q, PySem.W.methodObj (.ref f) (.ref a)) :: o :: pins) σ H s) (rel : Vals xs us) (want : sp (.ref a :: xs) H Q (E σ)) : wpAny (model X.prog X.w) X.A (call (.ref q) us) (EP X pins σ Q) X.xe s := by
  have hl : (Value.ref a :: us ++ []).length = ps.length := by
    have e := F.len _ _ _ _ want
    have e2 := rel.length
    rw [List.append_nil]
    simp only [List.length_cons] at e ⊢
    omega
  have bd := hb s (.ref a :: us) I.kIn hl
  rw [List.append_nil] at bd
  have z : wpAny (model X.prog X.w) X.A (call (.ref q) us) (EP X ((q, PySem.W.methodObj (.ref f) (.ref a)) :: o :: pins) σ Q) X.xe s := by
    refine wpAny_call (PySem.W.method_call (ClX.pin_at I) (codeAny_mono (F.run X.A X.stack s H ⟨.ref a :: us, []⟩ (.ref a :: us) (.ref a :: xs) Q (E σ) room gd I.env0 bd (.cons rfl rel) want) fun r s2 hq => ?_))
    match r, hq with
    | .error er, hq => exact hx σ _ H s er s2 I hq
    | .ok (.ret u), hq => exact I.after hq
    | .ok .next, hq => exact False.elim hq
    | .ok .brk, hq => exact False.elim hq
    | .ok .cont, hq => exact False.elim hq
  exact thn z fun _ _ y => ClX.unpinE (ClX.unpinE y)
end
section
variable {C : Ct stq} {W W1 W2 W' : Wd stq} {σ : L2.St} {ρ : DEnv} {b : List Stmt} {e e1 e2 : Expr} {es : List Expr} {we we1 we2 : EW stq} {pos apos p0 p1 p : Pos} {wa : AW stq}
/-- super().m(args), self in the first slot -/
@[simp] def wSup (m : Str) (n : Nat) (T : MTab) (wa : AW stq) (EX : Exn → DEnv → stq.G → Prop) : EW stq := fun ρ g q => ∃ k cls fs sp, ρ[0]? = some (.im (.ob k)) ∧ g.S[k]? = some (.ins cls fs) ∧ (cls, sp) ∈ T ∧
  wa ρ g fun ds g2 => ds.length + 1 = n ∧ sp (.ob k :: ds) g2 q fun x g3 => EX x ρ g3
theorem deA_sup {k : Nat} {D m : Str} {ps : List Str} {T : MTab} (su : SupAt C.X b D) (F : SupT C.X.prog C.X.w C.X.K C.X.mg C.X.base k D m ps T) (hgd : C.X.A.guards = some []) (hr : Room k C.X.A) (tk : TakesD C) (ha : DA C (e :: es) wa) {pl : Sem Bool}
    (hst : starEach (e :: es) C.X.env = (false, eval e C.X.env) :: starEach es C.X.env := by rfl) (hpl : (backTo pos (starEach es C.X.env)).any (·.1) = false := by rfl)
    (ht : eval (.Call (.Attribute (.Call (.Name "super" p0) [] [] p1) m apos) (e :: es) [] pos) C.X.env = (do
      let ov ← attributeBase (.Call (.Name "super" p0) [] [] p1) m C.X.env (eval (.Call (.Name "super" p0) [] [] p1) C.X.env)
      standAt apos.atName
      let (f, first) ← holding [ov] (getMethod ov m pl)
      callWith pos f first (backTo pos (starEach (e :: es) C.X.env)) []) := by rfl) (hat : (m == ("__class__" : Str)) = false := by decide) :
    DEA C b (.Call (.Attribute (.Call (.Name "super" p0) [] [] p1) m apos) (e :: es) [] pos) (wSup m ps.length T wa C.EX) := ⟨fun σ ρ W Q q S hQ hw pins s I => by
  obtain ⟨j, cls, fs, sp, e0, h1, h2, h3⟩ := hw
  obtain ⟨o, eσ, v, eo, rv⟩ := S.sl 0 _ e0
  subst eo
  obtain ⟨a, CC, dx, vs, rfl, hR, hC, hH, r, _⟩ := ob_ins S.ok rv h1
  obtain ⟨DD, C2, f, fd, hD, hC2, hmro, hsup, hty, hfi, hop, F, hb⟩ := (F _ h2).ex
  rw [hC] at hC2
  cases hC2
  refine ks_wpAt_MethodCall (pl := pl) (su m _ p0 p1 pins σ W.H s a CC DD dx _ _ hat I eσ hH hD hmro fun so s1 I1 => ?_) ht
  refine getsup_ok (b := a) I1 hH hop hsup hty hat fun q' s2 eq' I2 => ?_
  have hbn : C.X.base.get? q' = none := by
    rw [eq']
    exact ClX.base_none I1 (Nat.le_refl _)
  refine ClX.callwith_cm I2 hbn hfi (thn (ha.run σ ρ W (fun vs2 H2 => liftSp C.X.K C.X.mg ps.length sp (.ref a :: vs2) H2 Q (EXs C σ)) _ S (fun us ds W2 g2 k2 r2 q2 => ?_) h3 pos _ s2 I2) fun us s3 ⟨xs, H3, I3, rx, want⟩ => ⟨⟨ClX.pin_at I3, I3.kIn⟩, ?_⟩) hst hpl
  · exact ⟨W2, _, q, fun x g => C.EX x ρ g, rfl, k2, .cons (rv.step g2) r2, q2.1, q2.2, fun v d W3 g3 k3 r3 q3 => hQ v d W3 (g2.trans g3) k3 r3 q3, fun cls d H' h => exs_of (S.step g2 k2) (fun _ _ z => z) h⟩
  · exact run_supG (E := fun σ => EXs C σ) F hgd hr hb (fun σ => L2N.passAt tk σ) I3 rx want⟩
end
section
variable {M : Model} {A : Around} {c : Code} {E : Value → Shared → Prop} {s : Shared} {K : PySem.W.Frag} {pos : Pos} {f : Value} {first : List Value}
end
section
variable {C : Ct stq} {W W1 W2 W' : Wd stq} {σ : L2.St} {ρ : DEnv} {b : List Stmt} {e e1 e2 : Expr} {we we1 we2 : EW stq} {pos apos : Pos}
end
structure SFun (P : Program) (K : PySem.W.Frag) (x qual : Str) (st : Stmt) (f : Addr) (fd : FuncData) (cls : Str) : Prop where
  ex : ∃ (oc : Value) (od : Option Addr) (kV doc pm : Value) (an : Option Addr) (ct : Value) (osl : Array (Option Value)) (cc cda D : Addr) (ccl : Value) (cdd : Option Addr) (ccs : Array (Option Value)) (vs : Array Value) (file : Str) (tf : Tok) (cl : Value) (cld : Option Addr) (csl : Array (Option Value)) (cdD : ClassData),
    fd = PySem.W.ksFn x qual (defArgs st) (defBody st) (defScope st) .none kV doc pm an (.ref cda) ct cc ∧ K.lookup f = some ⟨oc, od, .func fd, osl⟩ ∧ PySem.W.codeIn K (.ref cda) qual = true ∧
    K.lookup cda = some ⟨ccl, cdd, .fields vs, ccs⟩ ∧ vs[2]? = some (.str file tf) ∧ ((P.main.file : Str) == file) = true ∧ K.lookup cc = some ⟨cl, cld, .cell (some (.ref D)), csl⟩ ∧ PySem.W.nsIn K mainGlobals cls = some (some (.ref D)) ∧ PySem.W.clsIn K D = some cdD
  top : (P.main.scope.names.lookup ("super" : Str)).isSome = false
  kp : PySem.W.keepIn K (.ref f) = true
theorem SFun.binds {P : Program} {K : PySem.W.Frag} {x qual : Str} {st : Stmt} {f : Addr} {fd : FuncData} {cls : Str} {ps : List Str} (F : SFun P K x qual st f fd cls)
    (h : ∀ {cc : Addr} (kV doc pm : Value) (an : Option Addr) (cdv ct : Value) (us : List Value), us.length = ps.length → bindArgs (PySem.W.ksFn x qual (defArgs st) (defBody st) (defScope st) .none kV doc pm an cdv ct cc) ⟨us, []⟩ = pure (ps.zip us)) : Binds K fd ps [] := by
  obtain ⟨oc, od, kV, doc, pm, an, ct, osl, cc, cda, D, ccl, cdd, ccs, vs, file, tf, cl, cld, csl, cdD, rfl, _⟩ := F.ex
  exact .all (h kV doc pm an (.ref cda) ct)
/-- what of the scope is looked at -/
structure SScope (N ps : List Str) (st : Stmt) : Prop where
  sc : NdefX.NScope N ps ["__class__"] (defScope st)
  ar : ∃ ar : Arg, ((defArgs st).posonlyargs ++ (defArgs st).args).head? = some ar ∧ N[0]? = some ar.arg ∧ (defScope st).names.lookup ar.arg = some .local
  su : (defScope st).names.lookup ("super" : Str) = some .globalImplicit
abbrev cxU (P : Program) (w : World) (K : PySem.W.Frag) (mg : Str → Option Value) (base : Heap) (N : List Str) (x qual : Str) (st : Stmt) (cc cda f : Addr) (A : Around) (fr : List Env) (s : Shared) (H : Hp) (E : XK) : Cx :=
  NdefX.ncx (L2N.CX P w) P w K mg base N ⟨x, qual, defArgs st, defBody st, defScope st, [("__class__", cc)], cda⟩ f A fr s H E
theorem startF_eq {N ps : List Str} {vs : List V} (h : ps.length + 1 ≤ N.length) (hl : vs.length = ps.length) : NdefX.startF N vs [none] = L2.start N vs := by
  unfold NdefX.startF L2.start
  have e : N.length - vs.length = (N.length - vs.length - 1) + 1 := by omega
  rw [show N.length - vs.length - ([none] : List (Option V)).length = N.length - vs.length - 1 from rfl]
  conv => rhs; rw [e, List.replicate_succ]
  rfl
theorem fngU_of {P : Program} {w : World} {K : PySem.W.Frag} {mg : Str → Option Value} {base : Heap} {x qual cls : Str} {st : Stmt} {f : Addr} {fd : FuncData} {N ps : List Str} {k : Nat} {sp : Sp} (F : SFun P K x qual st f fd cls) (Sc : SScope N ps st) (msup : mg "super" = none) (len : ∀ xs H Q E, sp xs H Q E → xs.length = ps.length)
    (hb : ∀ (cc cda : Addr) (A : Around) (fr : List Env) (s : Shared) (H : Hp) (xs : List V) (Q : VK) (E : XK), Room k (cxU P w K mg base N x qual st cc cda f A fr s H E).A → A.guards = some [] → SupAt (cxU P w K mg base N x qual st cc cda f A fr s H E) (defBody st) cls → sp xs H Q E →
      tssAt (cxU P w K mg base N x qual st cc cda f A fr s H E) (defBody st) (defBody st) { nx := fun _ H' => Q .non H', rt := Q } (L2.start N xs) H) :
    FnG P w K mg base (k + 1) f fd ps sp := by
  obtain ⟨oc, od, kV, doc, pm, an, ct, osl, cc, cda, D, ccl, cdd, ccs, vs, file, tf, cl, cld, csl, cdD, rfl, lk, hcd, hcode, hvs, hfile, hcell, hcls, hD⟩ := F.ex
  refine ⟨len, fun A fr s H as us xs Q E room gd e0 bd rel want => ?_⟩
  have hlen := len _ _ _ _ want
  have kin : K.In s.heap := e0.mod.kin.keeps fun b o e => (e0.bs b o e).1
  have S := Sc.sc
  obtain ⟨ar, har, hN0, hka⟩ := Sc.ar
  have hkc : (defScope st).names.lookup ("__class__" : Str) = some .free := S.frk _ (List.mem_singleton.mpr rfl)
  refine ks_codeAny_call_defAt (fd := PySem.W.ksFn x qual (defArgs st) (defBody st) (defScope st) .none kV doc pm an (.ref cda) ct cc) (body := defBody st) (binds := ps.zip us) room.depth (kin _ _ lk) rfl (e0.mod.nolimit.keeps fun b o e => (e0.bs b o e).1) (PySem.W.codeRec_of kin hcd) rfl bd S.nocell
    (fun ⟨n, _⟩ hy => S.par n (List.of_mem_zip hy).1) (fun h₁ hns hsb => ?_) S.co S.gen S.kind
  have su := supAt_of (P := P) (w := w) (mg := mg) (base := base) (N := N) (A := A) (outer := fr) (s0 := s) (H0 := H) (E := E) lk hcode hvs hfile hcell hcls hD msup F.top har hN0 Sc.su hkc hka S.kind
  have ht := hb cc cda A fr s H xs Q E (room.deeper _) gd su want
  have C : NdefX.CellsAt [("__class__", cc)] ["__class__"] [none] s.heap H := by
    have bb := e0.bs _ _ (e0.mod.kin _ _ hcell)
    have only : ∀ y c, List.lookup y [(("__class__" : Str), cc)] = some c → y = "__class__" ∧ c = cc := fun y c e => by
      have e2 := PySem.mem_of_lookup e
      rw [List.mem_singleton] at e2
      cases e2
      exact ⟨rfl, rfl⟩
    refine ⟨rfl, fun y c e => ?_, fun y z c e1 e2 => by rw [(only y c e1).1, (only z c e2).1], fun i y e => ?_⟩
    · obtain ⟨_, rfl⟩ := only y c e
      exact ⟨bb.2, _, ⟨_, bb.1, rfl⟩⟩
    · cases i with
      | zero =>
        cases e
        exact ⟨cc, rfl, fun v ev => by cases ev⟩
      | succ i => cases e
  have inv : Inv (cxU P w K mg base N x qual st cc cda f A fr s H E) [] (NdefX.startF N xs [none]) H { s with heap := h₁, toks := s.toks + (ps.zip us).length } := NdefX.inv_startN S room.hd e0 hlen rel C hns hsb
  have hpl : ps.length + 1 ≤ N.length := by
    have q := congrArg List.length S.pre
    rw [List.length_take, List.length_append] at q
    simp only [List.length_cons, List.length_nil] at q
    omega
  rw [startF_eq hpl hlen] at inv
  refine ks_wpAt_mono (ht [] _ inv) (fun fl s2 hs => ?_) fun e s2 hs => hs
  have back : ∀ {σ2 : L2.St} {H2 : Hp} {v : V} {u : Value}, Inv (cxU P w K mg base N x qual st cc cda f A fr s H E) [] σ2 H2 s2 → RelV v u → Q v H2 → CE fr P w H s Q u s2 :=
    fun {σ2 H2 v u} J rv q => ⟨v, H2, J.os, J.bare, J.base, J.hok, rv, q⟩
  match fl, hs with
  | .ret u, ⟨v, σ2, H2, J, rv, q⟩ => exact back J rv q
  | .next, ⟨σ2, H2, J, q⟩ => exact back (v := .non) (u := .none) J rfl q
  | .brk, ⟨_, _, _, q⟩ => exact q.elim
  | .cont, ⟨_, _, _, q⟩ => exact q.elim
theorem fnU_of {P : Program} {w : World} {K : PySem.W.Frag} {mg : Str → Option Value} {base : Heap} {x qual cls : Str} {st : Stmt} {f : Addr} {fd : FuncData} {N ps : List Str} {k : Nat} {sp : DSp stq} {wb : (Exn → stq.G → Prop) → SW stq} (F : SFun P K x qual st f fd cls) (Sc : SScope N ps st) (msup : mg "super" = none)
    (hbody : ∀ (cc cda : Addr) (A : Around) (outer : List Env) (s : Shared) (H : Hp) (E : XK) (W0 : Wd stq) (EX : Exn → stq.G → Prop), Room k (cxU P w K mg base N x qual st cc cda f A outer s H E).A → A.guards = some [] → SupAt (cxU P w K mg base N x qual st cc cda f A outer s H E) (defBody st) cls →
      TakesD (M := stq) ⟨cxU P w K mg base N x qual st cc cda f A outer s H E, W0, xk EX, W0⟩ → DSsA (M := stq) ⟨cxU P w K mg base N x qual st cc cda f A outer s H E, W0, xk EX, W0⟩ (defBody st) (defBody st) (wb EX))
    (hpure : ∀ (ds : List D) (g : Gq) (q : D → Gq → Prop) (ex : Exn → Gq → Prop), ds.length = ps.length → sp ds g q ex → wb ex (kEndQ q) (startD N ds) g) :
    FnG P w K mg base (k + 1) f fd ps (liftSp K mg ps.length sp) := by
  refine fngU_of F Sc msup (fun vs H Q E h => ?_) (fun cc cda A outer s H vs Q E hr hgd su h => ?_)
  · obtain ⟨W, ds, q, ex, _, _, r, hl, _⟩ := h
    rw [r.length, hl]
  · obtain ⟨W, ds, q, ex, rfl, ok, r, hl, hsp, hQ, hE⟩ := h
    have tk : TakesD (M := stq) ⟨cxU P w K mg base N x qual st cc cda f A outer s W.H E, W, xk ex, W⟩ := fun u s' x' =>
      L2N.takes_of (X := cxU P w K mg base N x qual st cc cda f A outer s W.H E) rfl rfl rfl rfl u s' (by
        obtain ⟨a, B, sI, pins, σ, H, cls, d, e, I, nb, up, sky, na, os, ag, x, ρ, W', z1, z2, z3, z4⟩ := x'
        exact ⟨a, B, sI, pins, σ, H, cls, d, e, I, nb, up, sky, na, os, ag, hE _ _ _ ⟨x, W', z1, z2.go, z2.ok, z3, z4⟩⟩)
    refine (hbody cc cda A outer s W.H E W ex hr hgd su tk).run _ _ W (kEndQ q) _ (sat_start ok rfl rfl r) ⟨fun σ' ρ' W' g S' h => ?_, fun v d W' g k r h => ?_, fun _ _ _ _ _ h => h.elim, fun _ _ _ _ _ h => h.elim⟩ (hpure ds W.g q ex hl hsp)
    · obtain ⟨n, hn, h⟩ := h
      exact hQ .non .non ({ W' with g := ⟨n, W'.g.S⟩ } : Wd stq) (S'.go.trans (go_moreQ (n := n))) (wok_moreQ S'.ok hn) .non h
    · obtain ⟨n, hn, h⟩ := h
      exact hQ v d ({ W' with g := ⟨n, W'.g.S⟩ } : Wd stq) (g.trans (go_moreQ (n := n))) (wok_moreQ k hn) r h
end DL
set_option Elab.async false
set_option linter.all false
set_option maxRecDepth 100000
set_option maxHeartbeats 1000000
namespace DL
open PySem L2
section
variable {C : Ct stq} {W W1 W2 W' : Wd stq} {σ : L2.St} {ρ : DEnv} {a b : Expr} {wa wb : EW stq} {pos : Pos}
end
section
variable {M : Model} {A : Around} {E : Value → Shared → Prop} {s : Shared} {env : Env} {pos : Pos} {x : Addr} {first : List Value} {Q : Value → Shared → Prop}
end
section
variable {C : Ct stq} {W W1 W2 W' : Wd stq} {σ : L2.St} {ρ : DEnv} {a b : Expr} {wa wb : EW stq} {pos p : Pos} {x : Str}
end
end DL
set_option Elab.async false
set_option linter.all false
set_option maxRecDepth 100000
set_option maxHeartbeats 1000000
namespace DLC
open PySem PySem.Spec PySem.Calls PyProof.Rows PySem.W
section
variable {prog : Program} {w : World} {M : Model} {A : Around} {E : Value → Shared → Prop} {s : Shared} {K : Frag} {x y C C' : Addr} {ox oy : Obj} {od od' : Option Obj} {b : Value}
end
end DLC
set_option Elab.async false
set_option linter.all false
set_option maxRecDepth 100000
set_option maxHeartbeats 1000000
namespace DL
open PySem L2
section
variable {C : Ct stq} {W W1 W2 W' : Wd stq} {σ : L2.St} {ρ : DEnv} {a b : Expr} {wa wb : EW stq} {pos : Pos}
end
end DL
set_option Elab.async false
set_option linter.all false
set_option maxRecDepth 100000
set_option maxHeartbeats 1000000
namespace DL
open PySem L2
structure KitO (K : PySem.W.Frag) (mg : Str → Option Value) (x : Str) (tab : List (Str × Bool)) : Prop where
  ex : ∃ D : Addr, PySem.W.nsIn K mainGlobals x = some (some (.ref D)) ∧ mg x = some (.ref D) ∧ (∀ t ∈ (["NoneType", "bool", "int", "str", "list", "tuple", "dict"] : List String), PySem.W.kitOne K (.type t) (.ref D) = some false) ∧ PySem.W.specialIn K (.builtin "object.__class__") "__get__" = some (some (.builtin "getset_descriptor.__get__")) ∧ PySem.W.takesIn K (.builtin "object.__class__") = some true ∧
    ∀ p ∈ tab, ∃ C : Addr, PySem.W.nsIn K mainGlobals p.1 = some (some (.ref C)) ∧ Cls K C ∧ PySem.W.findIn K (.ref C) "__class__" = some (some (.builtin "object.__class__")) ∧ PySem.W.mroIn K C (.type "object") = some true ∧ PySem.W.kitOne K (.ref C) (.ref D) = some p.2
section
variable {C : Ct stq} {e : Expr} {we : EW stq} {pos p : Pos}
@[simp] def wIsO (tab : List (Str × Bool)) (we : EW stq) : EW stq := fun ρ g q => we ρ g fun d g' => (∃ k cls fs b, d = .ob k ∧ g'.S[k]? = some (.ins cls fs) ∧ (cls, b) ∈ tab ∧ q (.bl b) g') ∨ ∃ t, tyN d = some t ∧ q (.bl false) g'
theorem de_isO {x : Str} {tab : List (Str × Bool)} {pT : Pos} (kt : KitO C.X.K C.X.mg x tab) (he : DE C e we) (hm : C.X.mg "isinstance" = none) (hdT : (x == ("__debug__" : Str)) = false := by decide) (hg : Gl C.X "isinstance" := by rfl) (hgT : Gl C.X x := by rfl)
    (h1 : starEach [e, .Name x pT] C.X.env = (false, eval e C.X.env) :: starEach [.Name x pT] C.X.env := by rfl) (h2 : starEach [.Name x pT] C.X.env = (false, eval (.Name x pT) C.X.env) :: starEach [] C.X.env := by rfl) (hpl : (backTo pos (starEach [.Name x pT] C.X.env)).any (·.1) = false := by rfl) :
    DE C (.Call (.Name "isinstance" p) [e, .Name x pT] [] pos) (wIsO tab we) := ⟨fun σ ρ W Q q S hQ hw => by
  obtain ⟨DD, hD, hmD, hty, hgt, htk, htab⟩ := kt.ex
  refine tOf_of (pe_callB call_isi hg hm PyProof.Rows.boot_isinstance (pa_cons pe_tOf (pa_cons (pe_glob (v := .ref DD) hgT hmD rfl hdT) pa_nil h2) h1) (by decide) (by decide) h1 hpl)
    (he.run σ ρ W _ (fun d g' => (∃ k cls fs b, d = D.ob k ∧ g'.S[k]? = some (.ins cls fs) ∧ (cls, b) ∈ tab ∧ q (.bl b) g') ∨ ∃ t, tyN d = some t ∧ q (.bl false) g') S (fun v d W1 g1 k1 r1 q1 => ?_) hw)
  rcases q1 with ⟨j, cls, fs, b, rfl, h3, h4, q1⟩ | ⟨t, ht, q1⟩
  · obtain ⟨o, CC, dx, vs, rfl, hR, hC, hH, r, _⟩ := ob_ins k1 r1 h3
    obtain ⟨C2, e2, cl, ha, hmo, kk⟩ := htab _ h4
    rw [hC] at e2
    cases e2
    exact ⟨.ref o, .ref DD, .ref CC, .ref DD, b, rfl, .own DD, .base (.ins hH cl ha hgt htk hmo), kk, hQ _ _ W1 g1 k1 (.bl _) q1⟩
  · exact ⟨v, .ref DD, .type t, .ref DD, false, rfl, .own DD, tyx_of k1 (.inl r1) ht, hty t (tyN_mem ht), hQ _ _ W1 g1 k1 (.bl _) q1⟩⟩
end
end DL
set_option Elab.async false
set_option linter.all false
set_option maxRecDepth 100000
set_option maxHeartbeats 2000000
namespace DL
open PySem L2 PySem.Spec PyProof.Rows HotX
section
variable {prog : Program} {w : World} {A : Around} {E : Value → Shared → Prop} {s : Shared}
end
section
variable {X : Cx} {pos : Pos}
end
section
variable {M : Ghost} {C : Ct M} {pos : Pos}
end
end DL
set_option Elab.async false
set_option linter.all false
set_option maxRecDepth 100000
set_option maxHeartbeats 2000000
namespace DL
open PySem L2 PySem.Spec PyProof.Rows HotX
section
variable {prog : Program} {w : World} {A : Around} {E : Value → Shared → Prop} {s : Shared}
end
theorem HotF.upd {A : Around} {H : Hp} {D : Addr} {o : HO} (h : HotF A H) (hD : H D = none) : HotF A (upd H D o) := by
  rcases h with h | ⟨a, oe, fv, h1, h2, h3, h4⟩
  · exact .inl h
  · exact .inr ⟨a, oe, fv, h1, by rw [upd_ne (fun z => by rw [z, hD] at h2; cases h2)]; exact h2, h3, h4⟩
theorem HotF.frzs {A : Around} {H H' : Hp} (h : HotF A H) (f : ∀ b o u, H b = some (.frz o u) → H' b = some (.frz o u)) : HotF A H' := by
  rcases h with h | ⟨a, oe, fv, h1, h2, h3, h4⟩
  · exact .inl h
  · exact .inr ⟨a, oe, fv, h1, f _ _ _ h2, h3, h4⟩
section
variable {X : Cx}
end
section
variable {M : Ghost} {C : Ct M} {W W1 W2 W' : Wd M} {σ : L2.St} {ρ : DEnv} {e elt tg iter : Expr} {ifs : List Expr} {scope : Scope} {own : List (Str × Nat)} {we : EW M} {wi : IW M} {gw : GW} {wt : TW M} {is : List Nat} {pos : Pos}
end
end DL
set_option Elab.async false
set_option linter.all false
set_option maxRecDepth 100000
set_option maxHeartbeats 1000000
namespace DL
open PySem L2
section
variable {M : Ghost} {C : Ct M} {a b e : Expr} {we wa wb : EW M} {pos p : Pos} {x : Str} {T : List (List Nat × List Nat)}
end
section
variable {C : Ct stq} {a : Expr} {we : EW stq} {lo hi : Option Expr} {wl wh : OW stq} {pos p2 : Pos}
end
end DL
set_option Elab.async false
set_option linter.all false
set_option maxRecDepth 100000
set_option maxHeartbeats 4000000
namespace DL
open PySem L2 PySem.Spec PySem.W PyProof.Rows GenW
section
variable {M : Model} {A : Around} {R : GenEnd} {Y : Protocol} {n : Nat} {s₀ : Shared} {c : Code} {fs : List Frame} {s : Shared} {env : Env}
  {K : Flow → Sem PySem.Fin} {J : Value → Sem PySem.Fin} {gd : Bool → Bool} {lv : List Value → List Value}
theorem seg_for {tg iter : Expr} {body orelse : List Stmt} {pos : Pos} (hs : ∀ x, foldedSetIterable iter env x = pure x)
    (h : wpAny M (A.over c fs) (eval iter env) (fun x s₁ => wpAny M (A.over c fs) (pyIter x) (fun it s₂ => ∀ p, Seg M A R Y n s₀ (.forLoop tg it body orelse env) (M.den (.forLoop tg it body orelse env))
        (.ret (fun r => ((match r with | .ok f => (.pure f : Sem Flow) | .error e => .raise e).onRaise (cameBack env)).wrap K J gd lv) none (gd false) (lv []) c p [] :: fs) s₂)
      (fun x s' => Seg M A R Y n s₀ c (J x) fs s') s₁) (fun x s' => Seg M A R Y n s₀ c (J x) fs s') s) :
    Seg M A R Y n s₀ c ((exec (.For tg iter body orelse pos) env).wrap K J gd lv) fs s := by
  rw [exec_For]
  refine seg_bind_wrap (wpAny_standAt ?_)
  refine seg_bind_wrap (wpAny_mono h (fun x s₁ h₁ => ?_) fun _ _ z => z)
  rw [hs x]
  refine seg_bind_wrap (wpAny_pure ?_)
  refine seg_bind_wrap (wpAny_standAt ?_)
  refine seg_bind_wrap (wpAny_holding (wpAny_mono h₁ (fun it s₂ h₂ => ?_) fun _ _ z => z))
  exact seg_call h₂
end
section
variable {prog : Program} {w : World} {A : Around} {R : GenEnd} {Y : Protocol} {n : Nat} {s₀ : Shared} {fs : List Frame} {s : Shared} {env : Env}
abbrev noted (env : Env) (x : Value) : Sem PySem.Fin := (do noteFrame x env; theTreesLotGoes x : Sem Unit).wrap (fun _ => .raise x) .raise id id
theorem seg_forTurn {tg : Expr} {it : Value} {body : List Stmt}
    (h : wpAny (model prog w) (A.over (.forLoop tg it body [] env) fs) (pyNext it) (fun r s₁ => match r with
        | none => Seg (model prog w) A R Y n s₀ (.forLoop tg it body [] env) (.pure (.again (.block [] env))) fs s₁
        | some v => wpAny (model prog w) (A.over (.forLoop tg it body [] env) fs) (letOwnedTupleGo tg it v) (fun _ s₂ => wpAny (model prog w) (A.over (.forLoop tg it body [] env) fs) (assign tg env v) (fun _ s₃ =>
            Seg (model prog w) A R Y n s₀ (.forLoop tg it body [] env) ((execs body env).wrap (fun f => match f with
              | .next | .cont => .pure (.again (.forLoop tg it body [] env))
              | .brk => .pure (.done .next)
              | .ret v => .pure (.done (.ret v))) (noted env) id id) fs s₃)
            (fun x s' => Seg (model prog w) A R Y n s₀ (.forLoop tg it body [] env) (noted env x) fs s') s₂)
            (fun x s' => Seg (model prog w) A R Y n s₀ (.forLoop tg it body [] env) (noted env x) fs s') s₁)
      (fun x s' => Seg (model prog w) A R Y n s₀ (.forLoop tg it body [] env) (noted env x) fs s') s) :
    Seg (model prog w) A R Y n s₀ (.forLoop tg it body [] env) ((model prog w).den (.forLoop tg it body [] env)) fs s := by
  show Seg _ A R Y n s₀ _ ((forTurn tg it body [] env).onRaise (fun x => do noteFrame x env; theTreesLotGoes x)) fs s
  rw [Sem.onRaise_eq_wrap]
  have eH : (fun e => ((do noteFrame e env; theTreesLotGoes e : Sem Unit)).bind fun _ => (Sem.raise e : Sem PySem.Fin)) = noted env := by
    funext e
    rw [Sem.bind_eq_wrap]
  unfold forTurn
  refine seg_bind_wrap (wpAny_standAt ?_)
  refine seg_bind_wrap (wpAny_onRaise (wpAny_mono h (fun r s₁ h₁ => ?_) fun x s' hx => wpAny_standAt ?_))
  · cases r with
    | none => exact h₁
    | some v =>
      refine seg_bind_wrap (wpAny_mono h₁ (fun _ s₂ h₂ => ?_) fun x s' hx => ?_)
      · refine seg_bind_wrap (wpAny_mono h₂ (fun _ s₃ h₃ => ?_) fun x s' hx => ?_)
        · rw [Sem.bind_eq_wrap', Sem.wrap_wrap]
          rw [Sem.wrap_congr (execs body env) _ _ (K' := fun f => match f with
              | .next | .cont => .pure (.again (.forLoop tg it body [] env))
              | .brk => .pure (.done .next)
              | .ret v => .pure (.done (.ret v))) (H' := noted env) (fun f => by cases f <;> rfl) (fun e => by
                show ((do noteFrame e env; theTreesLotGoes e : Sem Unit)).bind (fun _ => (Sem.raise e : Sem PySem.Fin)) = _
                rw [Sem.bind_eq_wrap])]
          exact h₃
        · rw [Sem.bind_eq_wrap]; exact hx
      · rw [Sem.bind_eq_wrap]; exact hx
  · rw [Sem.bind_eq_wrap]; exact hx
/-- behind the last turn -/
theorem seg_noElse (h : Seg (model prog w) A R Y n s₀ (.block [] env) (.pure (.done .next)) fs s) : Seg (model prog w) A R Y n s₀ (.block [] env) ((model prog w).den (.block [] env)) fs s := by
  show Seg _ A R Y n s₀ _ (((execs [] env).onRaise (fun x => do noteFrame x env; theTreesLotGoes x)) >>= fun f => pure (.done f)) fs s
  exact seg_bind (wpAny_onRaise (wpAny_execs_nil h))
end
section
variable {X : Cx} {pos : Pos}
/-- for, by the turn and a measure; what is out so far is told too -/
def tGFor (wi : TI) (g : TG) (tb : TGn) : TGn := fun D ys σ H => wi σ H fun It H1 => ∃ W : Nat → Nat → List V → L2.St → Hp → Prop, (∃ m, W 0 m ys σ H1) ∧ ∀ i m ys σ H, W i m ys σ H →
  (It.stop i H ∧ D.nx ys σ H) ∨ (It.go i H ∧ ∃ N : List V → L2.St → Hp → Prop, (∀ ys' σ' H', N ys' σ' H' → ∃ m', m' < m ∧ W (i + 1) m' ys' σ' H') ∧ ∀ x H', It.yld i H x H' → g x σ H' fun σ2 H2 => tb { D with nx := N, ct := N, bk := D.nx } ys σ2 H2)
theorem gi_unpin {S : Addr} {ip pl : List (Addr × Obj)} {ys : List V} {σ : L2.St} {H : Hp} {s : Shared} (h : GI X S (ip ++ pl) ys σ H s) : GI X S ip ys σ H s := by
  obtain ⟨acc, c, r, I⟩ := h
  exact ⟨acc, c, r, Inv.unpinned (pins := (S, lstObj acc c) :: ip) (pl := pl) I⟩
theorem gs_for {tg iter : Expr} {body : List Stmt} {wi : TI} {g : TG} {tb : TGn} (hp : PassesOwn (model X.prog X.w) X.A X.env X.xe) (hca : X.calm = true) (hi : PI X tg iter wi) (hg : PG X tg g) (hb : GSs X body tb)
    (hs : ∀ x, foldedSetIterable iter X.env x = pure x := by intro _; rfl) : GS X (.For tg iter body [] pos) (tGFor wi g tb) := by
  refine ⟨fun A S ip R n ys s₀ c fs K J gd lv s σ H D gc hn k hI ht => ?_⟩
  obtain ⟨acc, cc, r, I⟩ := hI
  refine seg_for hs ?_
  rw [gc.over]
  refine wpAny_mono (hi.run _ s σ H _ I ht) (fun v s1 h1 => wpAny_mono h1 (fun itv s2 h2 => ?_) fun x s' hx => k.exc n s₀ x s' hx) fun x s' hx => k.exc n s₀ x s' hx
  obtain ⟨it, fp, tn, It, H2, e, I2, T, st2, f2, W, ⟨m0, w0⟩, turn⟩ := h2
  subst e
  intro p
  have stat : ∀ (acc' : Array Value) (c' : Nat) {H' : Hp}, (∀ b ∈ fp, H' b = none) → ∀ b ∈ fp, FpOk X ((S, lstObj acc' c') :: ip) H' b := fun acc' c' {H'} hz b hb => by
    obtain ⟨_, q2, q3, q4, q5, q6⟩ := f2 b hb
    refine ⟨hz b hb, q2, q3, q4, q5, fun p hp => ?_⟩
    rcases List.mem_append.mp hp with z | z
    · exact q6 p (List.mem_append_left _ z)
    · rcases List.mem_cons.mp z with z | z
      · rw [z]
        exact q6 (S, lstObj acc cc) (List.mem_append_right _ List.mem_cons_self)
      · exact q6 p (List.mem_append_right _ (List.mem_cons_of_mem _ z))
  have nS : ∀ b ∈ fp, b ≠ S := fun b hb z => (f2 b hb).2.2.2.2.2 (S, lstObj acc cc) (List.mem_append_right _ List.mem_cons_self) z.symm
  have gl := fun (kk : Result → Sem PySem.Fin) => gc_loop (k := kk) (c' := .forLoop tg (.ref it) body [] X.env) (l := lv []) (kp := []) (p := p) gc rfl rfl
  have loop : ∀ (m n i : Nat) (ys : List V) (s₀ s : Shared) (σ : L2.St) (H : Hp), n + ys.length = sizeLine → W i m ys σ H → GI X S ip ys σ H s → tn i s.heap → (∀ b ∈ fp, H b = none) →
      Seg (model X.prog X.w) A R (GY X S) n s₀ (.forLoop tg (.ref it) body [] X.env) ((model X.prog X.w).den (.forLoop tg (.ref it) body [] X.env))
        (.ret (fun r => ((match r with | .ok f => (.pure f : Sem Flow) | .error e => .raise e).onRaise (cameBack X.env)).wrap K J gd lv) none (gd false) (lv []) c p [] :: fs) s := by
    intro m
    induction m using Nat.strongRecOn with
    | ind m ih =>
      intro n i ys s₀ s σ H hn w hI st fr
      have ee : ∀ (n : Nat) (s₀ : Shared) (x : Value) (s' : Shared), X.xe x s' → Seg (model X.prog X.w) A R (GY X S) n s₀ (.forLoop tg (.ref it) body [] X.env) (noted X.env x)
          (.ret (fun r => ((match r with | .ok f => (.pure f : Sem Flow) | .error e => .raise e).onRaise (cameBack X.env)).wrap K J gd lv) none (gd false) (lv []) c p [] :: fs) s' := fun n s₀ x s' hx => by
        refine seg_wrap ?_
        rw [(gl _).over]
        refine wpAny_bind (wpAny_mono (hp x s' hx) (fun _ s'' hcb => wpAny_theTreesLotGoes ?_) fun y s'' hcb => ?_)
        · exact seg_leaf (.error x) (seg_cameBack gc k hcb)
        · exact seg_leaf (.error y) (seg_cameBack gc k hcb)
      refine seg_forTurn ?_
      rw [(gl _).over]
      obtain ⟨acc3, cc3, r3, I3⟩ := hI
      rcases turn i m ys σ H w with ⟨stop, qn⟩ | ⟨go, N, hN, step⟩
      · refine wpAny_mono (T.done X rfl rfl rfl hca i _ s σ H X.xe I3 (stat acc3 cc3 fr) st stop) (fun rr s4 hr => ?_) fun x s' hx => ee n s₀ x s' hx
        obtain ⟨rfl, I4⟩ := hr
        exact seg_again rfl (seg_noElse (seg_leaf (.ok .next) (k.ok n ys s₀ s4 .next hn ⟨σ, H, ⟨acc3, cc3, r3, I4⟩, qn⟩)))
      · refine wpAny_mono (T.item X rfl rfl rfl hca i _ s σ H X.xe I3 (stat acc3 cc3 fr) st go) (fun rr s4 hr => ?_) fun x s' hx => ee n s₀ x s' hx
        obtain ⟨u, rfl, h4⟩ := hr
        refine wpAny_mono h4 (fun _ s5 h5 => ?_) fun x s' hx => ee n s₀ x s' hx
        obtain ⟨x, H5, I5, r5, y5, st5, fr5⟩ := h5
        have I5' := Inv.pinned I5 (stat acc3 cc3 fr5) (T.obj _ _ st5)
        refine wpAny_mono (hg.run _ s5 σ H5 x u _ I5' r5 (step x H5 y5)) (fun _ s6 h6 => ?_) fun x s' hx => ee n s₀ x s' hx
        obtain ⟨σ6, H6, I6, q6⟩ := h6
        have gl2 := gl fun r => ((match r with | .ok f => (.pure f : Sem Flow) | .error e => .raise e).onRaise (cameBack X.env)).wrap K J gd lv
        refine hb.run A S (ip ++ pinsAt fp s5.heap) R n ys s₀ _ _ _ _ id id s6 σ6 H6 { D with nx := N, ct := N, bk := D.nx } ⟨gl2.pn, fun q hq => ?_, gl2.apart, gl2.over, gl2.split, gl2.guard, gl2.gd⟩ hn ⟨fun n' ys' s₀' s3 f hn' hs3 => ?_, fun n' s₀' x s3 hx => ee n' s₀' x s3 hx⟩ ⟨acc3, cc3, r3, I6⟩ q6
        · rcases List.mem_append.mp hq with z | z
          · exact gl2.ip q z
          · exact nS _ (of_pinsAt z).1
        · have again : ∀ {σ7 : L2.St} {H7 : Hp}, GI X S (ip ++ pinsAt fp s5.heap) ys' σ7 H7 s3 → N ys' σ7 H7 → Seg (model X.prog X.w) A R (GY X S) n' s₀' (.forLoop tg (.ref it) body [] X.env) ((model X.prog X.w).den (.forLoop tg (.ref it) body [] X.env))
              (.ret (fun r => ((match r with | .ok f => (.pure f : Sem Flow) | .error e => .raise e).onRaise (cameBack X.env)).wrap K J gd lv) none (gd false) (lv []) c p [] :: fs) s3 := fun {σ7 H7} G7 n7 => by
            obtain ⟨m', hm, w7⟩ := hN ys' σ7 H7 n7
            have pin7 : ∀ q ∈ pinsAt fp s5.heap, s3.heap.get? q.1 = some q.2 ∧ H7 q.1 = none := fun q hq => by
              obtain ⟨acc7, cc7, _, I7⟩ := G7
              have z := I7.pin q (List.mem_append_right _ (List.mem_cons_of_mem _ (List.mem_append_right _ hq)))
              exact ⟨z.1, z.2.1⟩
            refine ih m' hm n' (i + 1) ys' s₀' s3 σ7 H7 hn' w7 (gi_unpin G7) (T.keep _ _ _ st5 fun b hb o e => (pin7 (b, o) (mem_pinsAt hb e)).1) fun b hb => ?_
            obtain ⟨o, e, _⟩ := T.obj _ _ st5 b hb
            exact (pin7 (b, o) (mem_pinsAt hb e)).2
          cases f with
          | next =>
            obtain ⟨σ7, H7, G7, n7⟩ := hs3
            exact seg_again rfl (again G7 n7)
          | cont =>
            obtain ⟨σ7, H7, G7, n7⟩ := hs3
            exact seg_again rfl (again G7 n7)
          | brk =>
            obtain ⟨σ7, H7, G7, n7⟩ := hs3
            exact seg_leaf (.ok .next) (k.ok n' ys' s₀' s3 .next hn' ⟨σ7, H7, gi_unpin G7, n7⟩)
          | ret v =>
            obtain ⟨v7, σ7, H7, G7, r7, q7⟩ := hs3
            exact seg_leaf (.ok (.ret v)) (k.ok n' ys' s₀' s3 (.ret v) hn' ⟨v7, σ7, H7, gi_unpin G7, r7, q7⟩)
  exact loop m0 n 0 ys s₀ s2 σ H2 hn w0 ⟨acc, cc, r, I2⟩ st2 fun b hb => (f2 b hb).1
end
end DL
set_option Elab.async false
set_option linter.all false
set_option maxRecDepth 100000
set_option maxHeartbeats 4000000
namespace DL
open PySem L2 PySem.Spec PySem.W PyProof.Rows GenW
/-- what is wanted behind a statement of a generator: by what is out so far -/
structure Y3 (M : Ghost) where
  nx : List D → DEnv → M.G → Prop
  bk : List D → DEnv → M.G → Prop
  ct : List D → DEnv → M.G → Prop
abbrev YW (M : Ghost) := Y3 M → List D → DEnv → M.G → Prop
def tgY (X : Cx) (st : Stmt) : TGn := fun D ys σ H => ∀ (A : Around) (S : Addr) (ip : List (Addr × Obj)) (R : GenEnd) (n : Nat) (s₀ : Shared) (c : Code) (fs : List Frame) (K : Flow → Sem PySem.Fin) (J : Value → Sem PySem.Fin) (gd : Bool → Bool) (lv : List Value → List Value) (s : Shared),
  GC X S ip A c fs gd → n + ys.length = sizeLine → GK X S ip A R c fs K J D → GI X S ip ys σ H s → Seg (model X.prog X.w) A R (GY X S) n s₀ c ((exec st X.env).wrap K J gd lv) fs s
def tgsY (X : Cx) (st : List Stmt) : TGn := fun D ys σ H => ∀ (A : Around) (S : Addr) (ip : List (Addr × Obj)) (R : GenEnd) (n : Nat) (s₀ : Shared) (c : Code) (fs : List Frame) (K : Flow → Sem PySem.Fin) (J : Value → Sem PySem.Fin) (gd : Bool → Bool) (lv : List Value → List Value) (s : Shared),
  GC X S ip A c fs gd → n + ys.length = sizeLine → GK X S ip A R c fs K J D → GI X S ip ys σ H s → Seg (model X.prog X.w) A R (GY X S) n s₀ c ((execs st X.env).wrap K J gd lv) fs s
theorem gs_tY {X : Cx} {st : Stmt} : GS X st (tgY X st) := ⟨fun A S ip R n ys s₀ c fs K J gd lv s σ H D g hn k hI ht => ht A S ip R n s₀ c fs K J gd lv s g hn k hI⟩
theorem gss_tY {X : Cx} {st : List Stmt} : GSs X st (tgsY X st) := ⟨fun A S ip R n ys s₀ c fs K J gd lv s σ H D g hn k hI ht => ht A S ip R n s₀ c fs K J gd lv s g hn k hI⟩
theorem tgY_of {X : Cx} {st : Stmt} {t : TGn} (h : GS X st t) {D : GEnds} {ys : List V} {σ : L2.St} {H : Hp} (q : t D ys σ H) : tgY X st D ys σ H := fun A S ip R n s₀ c fs K J gd lv s g hn k hI => h.run A S ip R n ys s₀ c fs K J gd lv s σ H D g hn k hI q
theorem tgsY_of {X : Cx} {st : List Stmt} {t : TGn} (h : GSs X st t) {D : GEnds} {ys : List V} {σ : L2.St} {H : Hp} (q : t D ys σ H) : tgsY X st D ys σ H := fun A S ip R n s₀ c fs K J gd lv s g hn k hI => h.run A S ip R n ys s₀ c fs K J gd lv s σ H D g hn k hI q
section
variable {M : Ghost} {C : Ct M} {W W1 W2 W' : Wd M} {σ : L2.St} {ρ : DEnv} {e c : Expr} {es : List Expr} {we : EW M} {pos p yp : Pos} {wa : AW M} {st : Stmt} {sts a b : List Stmt} {w u : YW M}
structure LfY (C : Ct M) (W : Wd M) (k : Y3 M) (D : GEnds) : Prop where
  nx : ∀ σ' ρ' W' ys ds, Gs W W' → Sat C σ' ρ' W' → RpA C.X.K W'.F W'.R ys ds → k.nx ds ρ' W'.g → D.nx ys σ' W'.H
  bk : ∀ σ' ρ' W' ys ds, Gs W W' → Sat C σ' ρ' W' → RpA C.X.K W'.F W'.R ys ds → k.bk ds ρ' W'.g → D.bk ys σ' W'.H
  ct : ∀ σ' ρ' W' ys ds, Gs W W' → Sat C σ' ρ' W' → RpA C.X.K W'.F W'.R ys ds → k.ct ds ρ' W'.g → D.ct ys σ' W'.H
theorem LfY.step {k : Y3 M} {D : GEnds} (l : LfY C W k D) (g : Gs W W1) : LfY C W1 k D :=
  ⟨fun σ' ρ' W' ys ds g' => l.nx σ' ρ' W' ys ds (g.trans g'), fun σ' ρ' W' ys ds g' => l.bk σ' ρ' W' ys ds (g.trans g'), fun σ' ρ' W' ys ds g' => l.ct σ' ρ' W' ys ds (g.trans g')⟩
structure DY (C : Ct M) (st : Stmt) (w : YW M) : Prop where
  run : ∀ (σ : L2.St) (ρ : DEnv) (W : Wd M) (k : Y3 M) (N : GEnds) (ys : List V) (ds : List D), Sat C σ ρ W → RpA C.X.K W.F W.R ys ds → LfY C W k N → w k ds ρ W.g → tgY C.X st N ys σ W.H
structure DYs (C : Ct M) (st : List Stmt) (w : YW M) : Prop where
  run : ∀ (σ : L2.St) (ρ : DEnv) (W : Wd M) (k : Y3 M) (N : GEnds) (ys : List V) (ds : List D), Sat C σ ρ W → RpA C.X.K W.F W.R ys ds → LfY C W k N → w k ds ρ W.g → tgsY C.X st N ys σ W.H
@[simp] def yYield (we : EW M) : YW M := fun k ds ρ g => ds.length < sizeLine ∧ we ρ g fun d g' => k.nx (ds ++ [d]) ρ g'
theorem dys_one (h1 : DY C st w) : DYs C [st] w := ⟨fun σ ρ W k N ys ds S r l h =>
  tgsY_of (gss_cons gs_tY gss_nil) (h1.run σ ρ W k _ ys ds S r ⟨fun σ' ρ' W' ys' ds' g S' r' q => l.nx σ' ρ' W' ys' ds' g S' r' q, l.bk, l.ct⟩ h)⟩
theorem dy_yield (he : DE C e we) (hco : C.X.env.scope.isCoroutine = false := by rfl) (hi : interactive C.X.env = false := by rfl) : DY C (.Expr (.Yield (some e) yp) pos) (yYield we) := ⟨fun σ ρ W k N ys ds S r l h =>
  tgY_of (gs_yield pe_tOf hco hi) ⟨by rw [r.length]; exact h.1, he.run σ ρ W _ _ S (fun v d W1 g1 k1 r1 q1 => l.nx σ ρ W1 (ys ++ [v]) (ds ++ [d]) g1.s (S.step g1 k1) ((r.step g1).append (.cons r1 .nil)) q1) h.2⟩⟩
def forY (gw : GW) (wb : YW M) : List D → Y3 M → List D → DEnv → M.G → Prop
  | [], k => k.nx
  | x :: xs, k => fun ds ρ g => gw x ρ fun ρ' => wb { nx := forY gw wb xs k, bk := k.nx, ct := forY gw wb xs k } ds ρ' g
@[simp] def yFor (wi : IW M) (gw : GW) (wb : YW M) : YW M := fun k ds ρ g => wi ρ g fun xs g' => forY gw wb xs k ds ρ g'
theorem dy_for {tg iter : Expr} {body : List Stmt} {is : List Nat} {wi : IW M} {gw : GW} {wb : YW M} (hp : PassesOwn (model C.X.prog C.X.w) C.X.A C.X.env C.X.xe) (hc : C.X.calm = true) (hi : DI C tg iter wi) (hg : DG C is tg gw) (hb : DYs C body wb)
    (hs : ∀ x, foldedSetIterable iter C.X.env x = pure x := by intro _; rfl) : DY C (.For tg iter body [] pos) (yFor wi gw wb) := ⟨fun σ ρ W k N ys0 es0 S r0 l h => by
  refine tgY_of (gs_for hp hc pi_tOf pg_tOf gss_tY hs) (hi.run σ ρ W _ _ S (fun J ds W1 g1 k1 wk q1 => ?_) h)
  refine ⟨fun i m ys σ H => ∃ (ρ : DEnv) (W2 : Wd M) (es : List _), W2.H = H ∧ Sat C σ ρ W2 ∧ Gs W1 W2 ∧ RpA C.X.K W2.F W2.R ys es ∧ m = ds.length - i ∧ forY gw wb (ds.drop i) k es ρ W2.g, ⟨ds.length, ρ, W1, es0, rfl, S.step g1 k1, Gs.refl _, r0.step g1, rfl, q1⟩, ?_⟩
  rintro i m ys σ2 H2 ⟨ρ2, W2, es, rfl, S2, g2, r2, rfl, q2⟩
  cases hd : ds[i]? with
  | none =>
    have e : ds.drop i = [] := List.drop_eq_nil_of_le (List.getElem?_eq_none_iff.mp hd)
    rw [e] at q2
    exact .inl ⟨wk.stop i W2 g2 S2.ok hd, l.nx σ2 ρ2 W2 ys es (g1.s.trans g2) S2 r2 q2⟩
  | some d =>
    obtain ⟨hlt, hd'⟩ := List.getElem?_eq_some_iff.mp hd
    have e : ds.drop i = d :: ds.drop (i + 1) := by rw [List.drop_eq_getElem_cons hlt, hd']
    rw [e] at q2
    obtain ⟨go, yld⟩ := wk.go i W2 d g2 S2.ok hd
    refine .inr ⟨go, fun ys σ H => ∃ (ρ : DEnv) (W3 : Wd M) (es : List _), W3.H = H ∧ Sat C σ ρ W3 ∧ Gs W1 W3 ∧ RpA C.X.K W3.F W3.R ys es ∧ forY gw wb (ds.drop (i + 1)) k es ρ W3.g, ?_, fun x H' y => ?_⟩
    · rintro ys' σ' H' ⟨ρ3, W3, es3, e3, S3, g3, r3, q3⟩
      exact ⟨ds.length - (i + 1), by omega, ρ3, W3, es3, e3, S3, g3, r3, rfl, q3⟩
    · obtain ⟨W3, rfl, g3, k3, e3, r3⟩ := yld x H' y
      rw [← e3] at q2
      refine hg.run σ2 ρ2 W3 x d _ _ (S2.step g3 k3) r3 (fun σ4 ρ4 S4 _ _ q4 => ?_) q2
      have g13 : Gs W1 W3 := g2.trans g3.s
      have nx : ∀ σ' ρ' W' ys' es', Gs W3 W' → Sat C σ' ρ' W' → RpA C.X.K W'.F W'.R ys' es' → forY gw wb (ds.drop (i + 1)) k es' ρ' W'.g → ∃ (ρ : DEnv) (W4 : Wd M) (es : List _), W4.H = W'.H ∧ Sat C σ' ρ W4 ∧ Gs W1 W4 ∧ RpA C.X.K W4.F W4.R ys' es ∧ forY gw wb (ds.drop (i + 1)) k es ρ W4.g :=
        fun σ' ρ' W' ys' es' g S' r' q => ⟨ρ', W', es', rfl, S', g13.trans g, r', q⟩
      exact hb.run σ4 ρ4 W3 { nx := forY gw wb (ds.drop (i + 1)) k, bk := k.nx, ct := forY gw wb (ds.drop (i + 1)) k } _ ys es S4 (r2.step g3) ⟨nx, fun σ' ρ' W' ys' es' g S' r' q => l.nx σ' ρ' W' ys' es' ((g1.s.trans g13).trans g) S' r' q, nx⟩ q4⟩
end
end DL
set_option Elab.async false
set_option linter.all false
set_option maxRecDepth 100000
set_option maxHeartbeats 4000000
namespace DL
open PySem L2 PySem.Spec PySem.W PyProof.Rows GenW
/-- a def's promise, whatever is being shown -/
structure FnKB (P : Program) (w : World) (K : PySem.W.Frag) (mg : Str → Option Value) (base : Heap) (k : Nat) (x : Str) (ps : List Str) (sp : Sp) : Prop where
  ex : ∃ (f : Addr) (fd : FuncData), FnOk P w K mg base (L2N.CX P w) k f fd ps sp ∧ mg x = some (.ref f) ∧ PySem.W.keepIn K (.ref f) = true ∧ Binds K fd ps []
section
variable {P : Program} {w : World} {K : PySem.W.Frag} {mg : Str → Option Value} {base : Heap}
theorem FnKB.b {k : Nat} {x : Str} {ps : List Str} {sp : Sp} (F : FnKB P w K mg base k x ps sp) : FnB P w K mg base k x ps sp := by
  obtain ⟨f, fd, F, h⟩ := F.ex
  exact ⟨f, fd, ⟨F.len, fun A fr s H as us xs Q E room _ => F.run A fr s H as us xs Q E room⟩, h⟩
end
section
variable {M : Ghost} {C : Ct M} {W W1 W2 W' : Wd M} {σ : L2.St} {ρ : DEnv} {e : Expr} {es : List Expr} {we : EW M} {pos p : Pos} {wa : AW M}
theorem passes_never0 {X : Cx} : L2.Passes (L2.CX X.prog X.w) X (fun _ _ _ => False) := fun pins σ H s e s' I c => by
  obtain ⟨a, B, H', cls, d, _, _, _, _, _, _, _, z⟩ := c
  exact z.elim
end
abbrev GSpD (M : Ghost) := List D → M.G → (List D → M.G → Prop) → Prop
def liftG (K : PySem.W.Frag) {M : Ghost} (n : Nat) (sp : GSpD M) : SpG := fun vs H Q _ => ∃ (W : Wd M) (ds : List D) (q : List D → M.G → Prop), W.H = H ∧ Wok K W ∧ RpA K W.F W.R vs ds ∧ ds.length = n ∧ sp ds W.g q ∧
  ∀ ys es W', Go W W' → Wok K W' → RpA K W'.F W'.R ys es → q es W'.g → Q ys W'.H
@[simp] def kEndY {M : Ghost} (q : List D → M.G → Prop) : Y3 M := { nx := fun es _ g => q es g, bk := fun _ _ _ => False, ct := fun _ _ _ => False }
section
variable {P : Program} {w : World} {K : PySem.W.Frag} {mg : Str → Option Value} {base : Heap}
theorem gfnD_of {M : Ghost} {x qual : Str} {st : Stmt} {f : Addr} {fd : FuncData} {N ps : List Str} {k : Nat} {sp : GSpD M} {wb : YW M} (F : Fun K x qual st f fd) (Sc : GScope N ps (defScope st))
    (hbody : ∀ (cdv : Value) (A : Around) (outer : List Env) (s : Shared) (H : Hp) (E : XK) (pn : List (Addr × Obj)) (W0 : Wd M), Room k (A.deeper (PyProof.Rows.envOfC qual (defScope st) s.heap.objs.size f cdv)) →
      DYs (M := M) ⟨gcxOf P w K mg base N qual (defScope st) f cdv A outer s H E pn, W0, xno, W0⟩ (defBody st) wb)
    (hpure : ∀ (ds : List D) (g : M.G) (q : List D → M.G → Prop), ds.length = ps.length → sp ds g q → wb (kEndY q) [] (startD N ds) g) :
    GFn P w K mg base (k + 1) f fd ps (liftG K ps.length sp) := by
  obtain ⟨oc, od, kV, doc, pm, an, cdv, ct, osl, rfl, lk, hcd⟩ := F.ex
  refine gfn_of lk hcd Sc (fun vs H Q E h => ?_) (fun A outer s H vs Q E pn hr h => ?_)
  · obtain ⟨W, ds, q, _, _, r, hl, _⟩ := h
    rw [r.length, hl]
  · obtain ⟨W, ds, q, rfl, ok, r, hl, hsp, hQ⟩ := h
    refine ⟨_, gss_tY, ?_⟩
    exact (hbody cdv A outer s W.H E pn W hr).run _ _ W (kEndY q) _ [] [] (sat_start ok rfl rfl r) .nil ⟨fun σ' ρ' W' ys es g S' r' h => hQ ys es W' S'.go S'.ok r' h, fun _ _ _ _ _ _ _ _ h => h.elim, fun _ _ _ _ _ _ _ _ h => h.elim⟩ (hpure ds W.g q hl hsp)
end
section
variable {M : Ghost} {C : Ct M} {W W1 W2 W' : Wd M} {σ : L2.St} {ρ : DEnv} {e : Expr} {es : List Expr} {we : EW M} {pos p pos2 p2 : Pos} {wa : AW M}
end
end DL
set_option Elab.async false
set_option linter.all false
set_option maxRecDepth 100000
set_option maxHeartbeats 4000000
namespace DL
open PySem L2 PySem.Spec PySem.W PyProof.Rows GenW
structure MethGB (P : Program) (w : World) (K : PySem.W.Frag) (mg : Str → Option Value) (base : Heap) (k : Nat) (cls m : Str) (ps : List Str) (sp : SpG) : Prop where
  ex : ∃ (C f : Addr) (fd : FuncData), PySem.W.nsIn K mainGlobals cls = some (some (.ref C)) ∧ Cls K C ∧ Meth K C m f ∧ GFn P w K mg base k f fd ps sp ∧ Binds K fd ps []
abbrev GTab := List (Str × GSpD stq)
def MethGT (P : Program) (w : World) (K : PySem.W.Frag) (mg : Str → Option Value) (base : Heap) (k : Nat) (m : Str) (ps : List Str) (T : GTab) : Prop := ∀ e ∈ T, MethGB P w K mg base k e.1 m ps (liftG K ps.length e.2)
section
variable {P : Program} {w : World} {K : PySem.W.Frag} {mg : Str → Option Value} {base : Heap}
theorem methGT_nil {k : Nat} {m : Str} {ps : List Str} : MethGT P w K mg base k m ps [] := fun _ h => by cases h
theorem methGT_cons {k : Nat} {cls m : Str} {ps : List Str} {sp : GSpD stq} {T : GTab} (h : MethGB P w K mg base k cls m ps (liftG K ps.length sp)) (t : MethGT P w K mg base k m ps T) : MethGT P w K mg base k m ps ((cls, sp) :: T) := fun x hx => by
  rcases List.mem_cons.mp hx with rfl | hx
  · exact h
  · exact t x hx
end
section
variable {X : Cx} {k : Nat} {m : Str} {o : Expr} {ta : TE} {pos' apos : Pos} {E : XK}
def tMethGT (X : Cx) (k : Nat) (m : Str) (E : XK) (ta : TE) : TGen := fun σ H cont => ta σ H fun x H1 => ∃ (a C dx : Addr) (fs : List (Str × V)) (f : Addr) (fd : FuncData) (ps : List Str) (sp : SpG), x = .ref a ∧ H1 a = some (.ins C dx fs) ∧ fs.lookup m = none ∧
  Cls X.K C ∧ Meth X.K C m f ∧ GFn X.prog X.w X.K X.mg X.base k f fd ps sp ∧ Binds X.K fd ps [] ∧ sp [x] H1 cont E
/-- o.m() of a generator method, by the object's class -/
theorem pgen_methT {pl : Sem Bool} (he : PE X o ta) (hr : Room k X.A)
    (ht : eval (.Call (.Attribute o m apos) [] [] pos') X.env = (do
      let ov ← eval o X.env
      standAt apos.atName
      let (f, first) ← holding [ov] (getMethod ov m pl)
      callWith pos' f first (backTo pos' (starEach [] X.env)) (backToKw pos' (keywordEach [] X.env))) := by rfl) :
    PGen X k (.Call (.Attribute o m apos) [] [] pos') (tMethGT X k m E ta) E := by
  refine ⟨fun pins s σ H cont I h => ?_⟩
  refine PySem.W.methodCall_KW (pl := pl) (thn (he.run pins s σ H _ I h) fun u s1 ⟨x, H1, I1, rx, a, C, dx, fs, f, fd, ps, sp, ex, ea, l, c, hm, F, hb, q⟩ => ?_) ht
  subst ex
  obtain rfl : u = Value.ref a := rx
  refine getmeth_ok I1 ea c hm l ?_
  exact PySem.W.callWith_K0 (first := [.ref a]) I1.kIn hm.kp (run_gfn (us := [.ref a]) (vs := [.ref a]) (dvs := []) (ds := []) F hr hb .nil I1 (.cons rfl .nil) q)
end
section
variable {C : Ct stq} {W W1 W2 W' : Wd stq} {σ : L2.St} {ρ : DEnv} {e2 : Expr} {we : EW stq} {pos apos pos2 p2 : Pos}
/-- list(e.m()), m a generator method -/
@[simp] def wListM (m : Str) (T : GTab) (we : EW stq) : NW stq := fun ρ g q => we ρ g fun d g' => ∃ k cls fs sp, d = .ob k ∧ g'.S[k]? = some (.ins cls fs) ∧ fldD? m fs = none ∧ (cls, sp) ∈ T ∧ sp [.ob k] g' q
theorem dn_listM {k : Nat} {m s1 : Str} {T : GTab} (F : MethGT C.X.prog C.X.w C.X.K C.X.mg C.X.base k m [s1] T) (hr : Room (k + 3) C.X.A) (ho : DE C e2 we) (hml : C.X.mg "list" = none) {pl : Sem Bool}
    (hgl : Gl C.X "list" := by rfl)
    (ht : eval (.Call (.Attribute e2 m apos) [] [] pos) C.X.env = (do
      let ov ← eval e2 C.X.env
      standAt apos.atName
      let (f, first) ← holding [ov] (getMethod ov m pl)
      callWith pos f first (backTo pos (starEach [] C.X.env)) (backToKw pos (keywordEach [] C.X.env))) := by rfl)
    (he2 : starEach [.Call (.Attribute e2 m apos) [] [] pos] C.X.env = (false, eval (.Call (.Attribute e2 m apos) [] [] pos) C.X.env) :: starEach [] C.X.env := by rfl) :
    DN C (.Call (.Name "list" p2) [.Call (.Attribute e2 m apos) [] [] pos] [] pos2) (wListM m T we) := ⟨fun σ ρ W Q q S hQ hw => by
  refine tOf_of (pe_listG (E := fun _ _ _ => False) (pgen_methT (pl := pl) pe_tOf (hr.mono (by omega)) ht) passes_never0 (fun _ _ _ z => z.elim) hr hgl hml (by decide +kernel) (he := he2)) (ho.run σ ρ W _ _ S (fun v d W1 g1 k1 r1 q1 => ?_) hw)
  obtain ⟨i, cls, fs, sp, rfl, h1, h2, h3, h4⟩ := q1
  obtain ⟨a, CC, dx, vs, rfl, hR, hC, hH, r, _⟩ := ob_ins k1 r1 h1
  obtain ⟨C2, f, fd, hC2, cl, hm, F, hb⟩ := (F _ h3).ex
  rw [hC] at hC2
  cases hC2
  refine ⟨a, _, dx, _, f, fd, _, _, rfl, hH, zipf_none r h2, cl, hm, F, hb, ?_⟩
  refine ⟨W1, [.ob i], q, rfl, k1, .cons r1 .nil, rfl, h4, fun ys es' W2 g2 k2 r2 q2 t ht => ?_⟩
  exact hQ t _ _ (W2.new t (.lst ys)) ((g1.trans g2).trans (Go.new k2 ht)) (k2.new ht) upd_same (k2.noF ht) (k2.noR ht) (by
    cases z : W.H t with
    | none => rfl
    | some o => exact absurd ht ((g1.trans g2).live t (by rw [z]; simp))) (r2.step (Go.new k2 ht)) q2⟩
end
end DL
set_option Elab.async false
set_option linter.all false
set_option maxRecDepth 100000
set_option maxHeartbeats 1000000
namespace DL
open PySem L2 ClX
/-- a class of the text by its name -/
structure ClN (K : PySem.W.Frag) (mg : Str → Option Value) (c : Str) : Prop where
  ex : ∃ C : Addr, PySem.W.nsIn K mainGlobals c = some (some (.ref C)) ∧ mg c = some (.ref C)
def MakeT (P : Program) (w : World) (K : PySem.W.Frag) (mg : Str → Option Value) (base : Heap) (k : Nat) (ps : List Str) (T : MTab) : Prop := ∀ e ∈ T, MakeB P w K mg base k e.1 ps (liftSp K mg ps.length e.2)
/-- a classmethod, read off a class -/
structure CmB (P : Program) (w : World) (K : PySem.W.Frag) (mg : Str → Option Value) (base : Heap) (k : Nat) (cls m : Str) (ps : List Str) (sp : Sp) : Prop where
  ex : ∃ (C : Addr) (mc : Value) (p f : Addr) (fd : FuncData), PySem.W.nsIn K mainGlobals cls = some (some (.ref C)) ∧ CRead K C mc ∧ CMet K C mc m p f ∧ FnG P w K mg base k f fd ps sp ∧ Binds K fd ps []
def CmT (P : Program) (w : World) (K : PySem.W.Frag) (mg : Str → Option Value) (base : Heap) (k : Nat) (m : Str) (ps : List Str) (T : MTab) : Prop := ∀ e ∈ T, CmB P w K mg base k e.1 m ps (liftSp K mg ps.length e.2)
section
variable {P : Program} {w : World} {K : PySem.W.Frag} {mg : Str → Option Value} {base : Heap}
theorem makeT_nil {k : Nat} {ps : List Str} : MakeT P w K mg base k ps [] := fun _ h => by cases h
theorem makeT_cons {k : Nat} {cls : Str} {ps : List Str} {sp : DSp stq} {T : MTab} (h : MakeB P w K mg base k cls ps (liftSp K mg ps.length sp)) (t : MakeT P w K mg base k ps T) : MakeT P w K mg base k ps ((cls, sp) :: T) := fun x hx => by
  rcases List.mem_cons.mp hx with rfl | hx
  · exact h
  · exact t x hx
theorem cmT_nil {k : Nat} {m : Str} {ps : List Str} : CmT P w K mg base k m ps [] := fun _ h => by cases h
theorem cmT_cons {k : Nat} {cls m : Str} {ps : List Str} {sp : DSp stq} {T : MTab} (h : CmB P w K mg base k cls m ps (liftSp K mg ps.length sp)) (t : CmT P w K mg base k m ps T) : CmT P w K mg base k m ps ((cls, sp) :: T) := fun x hx => by
  rcases List.mem_cons.mp hx with rfl | hx
  · exact h
  · exact t x hx
end
section
variable {C : Ct stq} {W W1 W2 W' : Wd stq} {σ : L2.St} {ρ : DEnv} {e o : Expr} {es : List Expr} {we : EW stq} {wa : AW stq} {pos apos p : Pos} {x : Str}
@[simp] def wCl (c : Str) : EW stq := fun _ g q => q (.cl c) g
theorem de_cl (h : ClN C.X.K C.X.mg x) (hg : Gl C.X x := by rfl) (hd : (x == ("__debug__" : Str)) = false := by decide) : DE C (.Name x p) (wCl x) := ⟨fun σ ρ W Q q S hQ hw => by
  obtain ⟨CC, h1, h2⟩ := h.ex
  exact tOf_of (pe_glob (v := .ref CC) hg h2 rfl hd) (hQ _ _ W (Go.refl W) S.ok (.cl h1) hw)⟩
/-- x(args), x holds a class -/
@[simp] def wMakeV (n : Nat) (T : MTab) (we : EW stq) (wa : AW stq) (EX : Exn → DEnv → stq.G → Prop) : EW stq := fun ρ g q => we ρ g fun d g1 => ∃ c sp, d = .cl c ∧ (c, sp) ∈ T ∧ wa ρ g1 fun ds g' => ds.length + 1 = n ∧
  sp (.ob g'.S.length :: ds) ⟨g'.n, g'.S ++ [.ins c [], .aux]⟩ (fun v g2 => v = .non ∧ q (.ob g'.S.length) g2) fun x g3 => EX x ρ g3
theorem de_makeV {k : Nat} {ps : List Str} {T : MTab} (F : MakeT C.X.prog C.X.w C.X.K C.X.mg C.X.base k ps T) (hgd : C.X.A.guards = some []) (hr : Room (k + 1) C.X.A) (tk : TakesD C) (ho : DE C (.Name x p) we) (ha : DA C (e :: es) wa)
    (he : starEach (e :: es) C.X.env = (false, eval e C.X.env) :: starEach es C.X.env := by rfl) (hpl : (backTo pos (starEach es C.X.env)).any (·.1) = false := by rfl) :
    DE C (.Call (.Name x p) (e :: es) [] pos) (wMakeV ps.length T we wa C.EX) := ⟨fun σ ρ W Q q S hQ hw pins s I => by
  refine wpAny_Call_Name_kw (thn (ho.run σ ρ W (fun v H1 => ∃ d W1, W1.H = H1 ∧ Go W W1 ∧ Wok C.X.K W1 ∧ Rp C.X.K W1.F W1.R v d ∧ ∃ c sp, d = .cl c ∧ (c, sp) ∈ T ∧ wa ρ W1.g fun ds g' => ds.length + 1 = ps.length ∧
    sp (.ob g'.S.length :: ds) ⟨g'.n, g'.S ++ [.ins c [], .aux]⟩ (fun v g2 => v = .non ∧ q (.ob g'.S.length) g2) fun x g3 => C.EX x ρ g3) _ S (fun v d W1 g1 k1 r1 q1 => ⟨d, W1, rfl, g1, k1, r1, q1⟩) hw pins s I) fun u s1 hu => ?_)
  obtain ⟨y, H1, I1, ry, d, W1, rfl, g1, k1, r1, c, sp, rfl, hT, h2⟩ := hu
  cases r1 with
  | cl hC =>
    rename_i CC
    obtain ⟨C2, f, fd, hC2, hm, M, F, hb⟩ := (F _ hT).ex
    rw [hC] at hC2
    cases hC2
    obtain rfl : u = Value.ref CC := ry
    refine PySem.W.callWith_K (h₀ := C.X.base) I1.ok.mod.kin M.kp (thn (pa_tOf.run pos pins s1 σ _ (fun vs H2 => ∀ x dx, H2 x = none → H2 dx = none → dx ≠ x → liftSp C.X.K C.X.mg ps.length sp (.ref x :: vs) (upd (upd H2 dx (.own x)) x (.ins CC dx [])) (fun v H3 => v = .non ∧ Q (.ref x) H3) (EXs C σ)) I1 (ha.run σ ρ W1 _ _ (S.step g1 k1) (fun vs ds W2 g2 k2 r2 q2 x dx hx hd ne => ?_) h2)) fun us s2 ⟨vs, H2, I2, r, q2⟩ => ⟨I2.kIn, run_makeG M F hgd hr hb (fun σ => L2N.passAt tk σ) I2 r q2⟩) he hpl
    have k3 := k2.mk' hx hd ne hC
    have g3 : Go W2 (W2.mk' x dx CC c) := Go.mk' hx hd
    have rx : ∀ {W3 : Wd stq}, Go (W2.mk' x dx CC c) W3 → Rp C.X.K W3.F W3.R (.ref x) (.ob W2.g.S.length) := fun {W3} g => by
      refine .ob (g.ix _ _ ?_)
      show (W2.R ++ [x, dx])[W2.g.S.length]? = some x
      rw [← k2.gh.len, List.getElem?_append_right (Nat.le_refl _), Nat.sub_self]
      rfl
    refine ⟨W2.mk' x dx CC c, _, _, fun y g => C.EX y ρ g, rfl, k3, .cons (rx (Go.refl _)) (r2.step g3), q2.1, q2.2, fun v d W4 g4 k4 r4 q4 => ?_, fun cls d H' h => exs_of (S.step ((g1.trans g2).trans g3) k3) (fun _ _ z => z) h⟩
    obtain ⟨rfl, q4⟩ := q4
    exact ⟨by cases r4; rfl, hQ _ _ W4 (((g1.trans g2).trans g3).trans g4) k4 (rx g4) q4⟩⟩
/-- o.m(args), o a class, m a classmethod -/
@[simp] def wCMeth (n : Nat) (T : MTab) (we : EW stq) (wa : AW stq) (EX : Exn → DEnv → stq.G → Prop) : EW stq := fun ρ g q => we ρ g fun d g1 => ∃ c sp, d = .cl c ∧ (c, sp) ∈ T ∧ wa ρ g1 fun ds g2 => ds.length + 1 = n ∧ sp (.cl c :: ds) g2 q fun x g3 => EX x ρ g3
theorem de_cmeth {k : Nat} {m : Str} {ps : List Str} {T : MTab} (F : CmT C.X.prog C.X.w C.X.K C.X.mg C.X.base k m ps T) (hgd : C.X.A.guards = some []) (hr : Room k C.X.A) (tk : TakesD C) (ho : DE C o we) (ha : DA C (e :: es) wa) {pl : Sem Bool}
    (hst : starEach (e :: es) C.X.env = (false, eval e C.X.env) :: starEach es C.X.env := by rfl) (hpl : (backTo pos (starEach es C.X.env)).any (·.1) = false := by rfl)
    (ht : eval (.Call (.Attribute o m apos) (e :: es) [] pos) C.X.env = (do
      let ov ← eval o C.X.env
      standAt apos.atName
      let (f, first) ← holding [ov] (getMethod ov m pl)
      callWith pos f first (backTo pos (starEach (e :: es) C.X.env)) (backToKw pos (keywordEach [] C.X.env))) := by rfl) :
    DE C (.Call (.Attribute o m apos) (e :: es) [] pos) (wCMeth ps.length T we wa C.EX) := ⟨fun σ ρ W Q q S hQ hw pins s I => by
  refine PySem.W.methodCall_KW (pl := pl) (thn (ho.run σ ρ W (fun v H1 => ∃ d W1, W1.H = H1 ∧ Go W W1 ∧ Wok C.X.K W1 ∧ Rp C.X.K W1.F W1.R v d ∧ ∃ c sp, d = .cl c ∧ (c, sp) ∈ T ∧ wa ρ W1.g fun ds g2 => ds.length + 1 = ps.length ∧ sp (.cl c :: ds) g2 q fun x g3 => C.EX x ρ g3) _ S (fun v d W1 g1 k1 r1 q1 => ⟨d, W1, rfl, g1, k1, r1, q1⟩) hw pins s I) fun u s1 hu => ?_) ht
  obtain ⟨y, H1, I1, ry, d, W1, rfl, g1, k1, r1, c, sp, rfl, hT, h2⟩ := hu
  cases r1 with
  | cl hC =>
    rename_i CC
    obtain ⟨C2, mc, p, f, fd, hC2, rd, cm, F, hb⟩ := (F _ hT).ex
    rw [hC] at hC2
    cases hC2
    obtain rfl : u = Value.ref CC := ry
    refine getmethcm_ok I1 rd cm fun s2 I2 => ?_
    refine callwith_cm I2 (base_none I1 (Nat.le_refl _)) cm.fi (thn (pa_tOf.run pos _ s2 σ _ (fun vs H2 => liftSp C.X.K C.X.mg ps.length sp (.ref CC :: vs) H2 Q (EXs C σ)) I2 (ha.run σ ρ W1 _ _ (S.step g1 k1) (fun vs ds W2 g2 k2 r2 q2 => ?_) h2)) fun us s3 ⟨vs, H2, I3, rv, q2⟩ => ⟨⟨pin_at I3, I3.kIn⟩, ?_⟩) hst hpl
    · exact ⟨W2, .cl c :: ds, q, fun x g => C.EX x ρ g, rfl, k2, .cons (.cl hC) r2, q2.1, q2.2, fun v d W3 g3 k3 r3 q3 => hQ v d W3 ((g1.trans g2).trans g3) k3 r3 q3, fun cls d H' h => exs_of (S.step (g1.trans g2) k2) (fun _ _ z => z) h⟩
    · have rel : L2.Vals (.ref CC :: vs) (Value.ref CC :: us) := .cons rfl rv
      have hl : (Value.ref CC :: us ++ []).length = ps.length := by
        rw [List.append_nil, ← rel.length]
        exact F.len _ _ _ _ q2
      have bd := hb s3 (Value.ref CC :: us) I3.kIn hl
      rw [List.append_nil] at bd
      have z : wpAny (model C.X.prog C.X.w) C.X.A (call (.ref s1.heap.objs.size) us) (EP C.X ((s1.heap.objs.size, PySem.W.methodObj (.ref f) (.ref CC)) :: pins) σ Q) C.X.xe s3 := wpAny_call (PySem.W.method_call (pin_at I3) (codeAny_mono (F.run C.X.A C.X.stack s3 H2 ⟨.ref CC :: us, []⟩ (.ref CC :: us) (.ref CC :: vs) Q (EXs C σ) hr hgd I3.env0 bd rel q2) fun r s4 hq => by
        match r, hq with
        | .error er, hq => exact L2N.passAt tk σ _ _ s3 er s4 I3 hq
        | .ok (.ret u), hq => exact I3.after hq
        | .ok .next, hq => exact False.elim hq
        | .ok .brk, hq => exact False.elim hq
        | .ok .cont, hq => exact False.elim hq))
      exact thn z fun _ _ y => unpinE y⟩
end
end DL
set_option Elab.async false
set_option linter.all false
set_option maxRecDepth 100000
set_option maxHeartbeats 1000000
namespace DL
open PySem L2
abbrev d_l_draw : DSp stg := dDraw
/-- one of the items -/
def d_l_pick : DSp stg := fun ds (g : Nat) q _ => ∃ c xs, ds = [.ob 0, c] ∧ itemsOf c = some xs ∧ xs ≠ [] ∧ xs.length ≤ 16777216 ∧ g + 1 ≤ 2 ^ 60 ∧ ∀ d ∈ xs, q d (g + 1)
/-- a word: letters a to z -/
def Lets (w : List Nat) : Prop := ∀ c ∈ w, 97 ≤ c ∧ c < 123
/-- the tail at i is less than the tail at j -/
def tlt (w : List Nat) (i j : Nat) : Bool := decide (w.drop i < w.drop j)
/-- the places in the order of their tails -/
def tOrd (w : List Nat) : List Nat := (List.range w.length).mergeSort fun i j => !tlt w j i
def nats (xs : List Nat) : List D := xs.map fun (i : Nat) => D.int (i : Int)
def d_tail_order : DSp stg := fun ds g q _ => ∃ w : List Nat, ds = [.str w] ∧ w.length ≤ 1000 ∧ q (.tup (nats (tOrd w))) g
def isPerm (o : List Nat) : Prop := o.Perm (List.range o.length)
/-- the place of each number in a row of different ones -/
def inv (o : List Nat) : List Nat := (List.range o.length).map fun p => o.idxOf p
def txts (xs : List (List Nat)) : List D := xs.map D.str
/-- less than each of its tails behind the first letter -/
def simpW (w : List Nat) : Bool := (List.range' 1 (w.length - 1)).all fun p => decide (w < w.drop p)
def d_is_simple : DSp stg := fun ds g q _ => ∃ w : List Nat, ds = [.str w] ∧ w.length ≤ 1000 ∧ q (.bl (simpW w)) g
/-- a drawn word, in the later laws -/
def d_l_word : DSp stg := fun ds (g : Nat) q _ => ∃ most : Nat, ds = [.ob 0, .int most] ∧ 1 ≤ most ∧ most ≤ 30 ∧ g + 40 ≤ 2 ^ 60 ∧ ∀ w : List Nat, 1 ≤ w.length → w.length ≤ most → Lets w → q (.str w) (g + 40)
end DL
set_option Elab.async false
set_option linter.all false
set_option maxRecDepth 100000
set_option maxHeartbeats 1000000
namespace DL
open PySem L2
/-- a number between two others -/
def isInt (d : D) (lo hi : Int) : Bool := match d with
  | .int i => decide (lo ≤ i) && decide (i ≤ hi)
  | _ => false
/-- a value whose type is known -/
def okD (d : D) : Prop := ∃ t, tyN d = some t
def natD : D → Nat
  | .int i => i.toNat
  | _ => 0
/-- a place of a word -/
def isPl (n : Nat) (v : D) : Bool := isInt v 0 (n - 1)
def isLt (c : Nat) : Bool := decide (97 ≤ c) && decide (c < 123)
/-- a text is not too long for the machine -/
def szD (n : Nat) : D → Prop
  | .str x => x.length ≤ n
  | _ => True
def isLetD : D → Bool
  | .str [c] => isLt c
  | _ => false
def d_is_letter : DSp stg := fun ds g q _ => ∃ v : D, ds = [v] ∧ okD v ∧ szD 100000 v ∧ q (.bl (isLetD v)) g
abbrev sWord : List Nat := [119, 111, 114, 100]
abbrev sLetter : List Nat := [108, 101, 116, 116, 101, 114]
/-- the first error of a word -/
def wErr : D → D
  | .str x => if x = [] ∨ 24 < x.length then .tup [.non, .str sWord] else match x.findIdx? (fun c => !isLt c) with
    | some i => .tup [.int (i : Int), .str sLetter]
    | none => .non
  | _ => .tup [.non, .str sWord]
def d_word_error : DSp stg := fun ds g q _ => ∃ v : D, ds = [v] ∧ okD v ∧ szD 100000 v ∧ q (wErr v) g
def d_is_word : DSp stg := fun ds g q _ => ∃ v : D, ds = [v] ∧ okD v ∧ szD 100000 v ∧ q (.bl (isN (wErr v))) g
def tups (xs : List (List Nat)) : List D := xs.map fun o => .tup (nats o)
def oddF : List D := [.non, .bl true, .bl false, .int (-1), .int 0, .int 1, .int 23, .int 24, .int (10 ^ 29), .str [], .str [97], .str [65], .str [97, 98], .str [48], .str [32], .tup [], .lst [], .dic [], .tup [.int 0], .lst [.str [97]], .tup [.str [97]], .dic [(.inr (S [97]), .int 1)], .str [97, 66], .str (List.replicate 25 122)]
def d_l_oddF : DSp stg := fun ds (g : Nat) q _ => ds = [.ob 0] ∧ g + 1 ≤ 2 ^ 60 ∧ ∀ v ∈ oddF, q v (g + 1)
abbrev abcW : List Nat := [97, 98, 99, 100, 101, 102, 103, 104, 105, 106, 107, 108, 109, 110, 111, 112, 113, 114, 115, 116, 117, 118, 119, 120, 121, 122]
def cutV (v : D) : Prop := okD v ∧ ∀ xs, v = .tup xs → xs.length ≤ 100 ∧ ∀ d ∈ xs, okD d ∧ ∀ x, d = .str x → x.length ≤ 100
end DL
set_option Elab.async false
set_option linter.all false
set_option maxRecDepth 100000
set_option maxHeartbeats 1000000
namespace DL
open PySem L2
section
variable {M : Ghost} {gw : GW} {wt : TW M} {we : EW M} {ρ : DEnv} {g : M.G} {q : List D → M.G → Prop}
/-- a comprehension that draws nothing -/
theorem lcW_map {α : Type} (e f : α → D) (p : α → Bool) : ∀ (xs : List α) {q : List D → M.G → Prop}, (∀ x ∈ xs, ∀ (k1 : D → M.G → Prop) (k0 : M.G → Prop), (if p x = true then k1 (f x) g else k0 g) → gw (e x) ρ fun ρ' => wt ρ' g fun b g1 => if b = true then we ρ' g1 k1 else k0 g1) →
    q ((xs.filter p).map f) g → lcW gw wt we ρ (xs.map e) g q
  | [], _, _, h => h
  | x :: xs, q, hs, h => by
    have ih := fun {q} => lcW_map e f p xs (q := q) (fun y hy => hs y (List.mem_cons_of_mem _ hy))
    refine hs x List.mem_cons_self _ _ ?_
    by_cases hp : p x = true
    · rw [if_pos hp]
      rw [List.filter_cons_of_pos hp] at h
      exact ih h
    · rw [if_neg hp]
      rw [List.filter_cons_of_neg hp] at h
      exact ih h
theorem lcW_all {α : Type} (e f : α → D) (xs : List α) {q : List D → M.G → Prop} (hs : ∀ x ∈ xs, ∀ (k1 : D → M.G → Prop) (k0 : M.G → Prop), k1 (f x) g → gw (e x) ρ fun ρ' => wt ρ' g fun b g1 => if b = true then we ρ' g1 k1 else k0 g1)
    (h : q (xs.map f) g) : lcW gw wt we ρ (xs.map e) g q :=
  lcW_map e f (fun _ => true) xs (fun x hx k1 k0 z => hs x hx k1 k0 (by simpa using z)) (by rw [List.filter_eq_self.mpr (fun _ _ => rfl)]; exact h)
end
/-- a comprehension that draws: c numbers each at most -/
theorem lcW_draw {gw : GW} {wt : TW stg} {we : EW stg} {ρ : DEnv} {α : Type} (e : α → D) (P : α → D → Prop) (c N : Nat) : ∀ (xs : List α) {g : Nat} {q : List D → Nat → Prop}, g + c * xs.length ≤ N →
    (∀ x ∈ xs, ∀ (g : Nat) (k1 : D → Nat → Prop) (k0 : Nat → Prop), g + c ≤ N → (∀ d, P x d → k1 d (g + c)) → gw (e x) ρ fun ρ' => wt ρ' g fun b g1 => if b = true then we ρ' g1 k1 else k0 g1) →
    (∀ ys : List D, Paired P xs ys → q ys (g + c * xs.length)) → lcW (M := stg) gw wt we ρ (xs.map e) g q
  | [], g, q, _, _, h => h [] .nil
  | x :: xs, g, q, hN, hs, h => by
    rw [List.length_cons] at hN
    have e1 : g + c * (xs.length + 1) = (g + c) + c * xs.length := by rw [Nat.mul_add, Nat.mul_one]; omega
    refine hs x List.mem_cons_self g _ _ (by omega) fun d hd => ?_
    refine lcW_draw e P c N xs (by omega) (fun y hy => hs y (List.mem_cons_of_mem _ hy)) fun ys hy => ?_
    have := h (d :: ys) (.cons hd hy)
    rw [List.length_cons, e1] at this
    exact this
section
variable {M : Ghost} {gw : GW} {wb : SW M} {k : K3 M}
/-- a for by its word -/
theorem forW_inv (I : Nat → DEnv → M.G → Prop) : ∀ (ds : List D) (n : Nat) {ρ : DEnv} {g : M.G}, (∀ (i : Nat) d ρ g (K : DEnv → M.G → Prop), ds[i]? = some d → I (n + i) ρ g → (∀ ρ g, I (n + i + 1) ρ g → K ρ g) → gw d ρ fun ρ' => wb { nx := K, rt := k.rt, bk := k.nx, ct := K } ρ' g) →
    (∀ ρ g, I (n + ds.length) ρ g → k.nx ρ g) → I n ρ g → forW gw wb ds k ρ g
  | [], n, ρ, g, _, he, h => he ρ g h
  | d :: ds, n, ρ, g, hs, he, h => by
    refine hs 0 d ρ g _ rfl h fun ρ g h' => ?_
    refine forW_inv I ds (n + 1) (fun i d ρ g K e h K1 => hs (i + 1) d ρ g K (by simpa using e) (by rw [show n + (i + 1) = n + 1 + i by omega]; exact h) (by rw [show n + (i + 1) + 1 = n + 1 + i + 1 by omega]; exact K1)) (fun ρ g h => he ρ g (by rw [List.length_cons, show n + (ds.length + 1) = n + 1 + ds.length by omega]; exact h)) h'
theorem forW_word (I : Nat → DEnv → M.G → Prop) (ds : List D) {ρ : DEnv} {g : M.G} (h0 : I 0 ρ g) (hs : ∀ (i : Nat) d ρ g (K : DEnv → M.G → Prop), ds[i]? = some d → I i ρ g → (∀ ρ g, I (i + 1) ρ g → K ρ g) → gw d ρ fun ρ' => wb { nx := K, rt := k.rt, bk := k.nx, ct := K } ρ' g)
    (he : ∀ ρ g, I ds.length ρ g → k.nx ρ g) : forW gw wb ds k ρ g :=
  forW_inv I ds 0 (fun i d ρ g K e h K1 => hs i d ρ g K e (by rw [Nat.zero_add] at h; exact h) (by rw [Nat.zero_add] at K1; exact K1)) (fun ρ g h => he ρ g (by rw [Nat.zero_add] at h; exact h)) h0
end
theorem rngL_0 (n : Nat) : rngL 0 (n : Int) = (List.range n).map fun (i : Nat) => D.int (i : Int) := by
  unfold rngL
  simp
theorem rngL_len (lo hi : Int) : (rngL lo hi).length = (hi - lo).toNat := by unfold rngL; simp
theorem small_line {n : Nat} (h : n ≤ 16777216) : n ≤ sizeLine := by rw [sizeLine_eq]; exact h
theorem lt_line {n : Nat} (h : n < 16777216) : n < sizeLine := by rw [sizeLine_eq]; exact h
theorem atI_ofNat {α : Type} {xs : List α} {j : Nat} {v : α} (h : xs[j]? = some v) : atI xs (j : Int) = some v := atI_nat h
theorem cut_from {α : Type} (xs : List α) (i : Nat) : cutL xs (some (i : Int)) none = xs.drop i := by
  unfold cutL
  rw [HT.sIx_nat, HT.sIx_none]
  by_cases h : i ≤ xs.length
  · rw [Nat.min_eq_left h, List.take_of_length_le (by rw [List.length_drop]; omega)]
  · rw [Nat.min_eq_right (by omega), List.drop_length, List.drop_eq_nil_of_le (by omega)]
    simp
theorem cut_to {α : Type} (xs : List α) (i : Nat) : cutL xs none (some (i : Int)) = xs.take i := by
  unfold cutL
  rw [HT.sIx_nat, HT.sIx_none, List.drop_zero, Nat.sub_zero]
  by_cases h : i ≤ xs.length
  · rw [Nat.min_eq_left h]
  · rw [Nat.min_eq_right (by omega), List.take_length, List.take_of_length_le (by omega)]
theorem rngL_nn (a b : Nat) : rngL (a : Int) (b : Int) = (List.range' a (b - a)).map fun (i : Nat) => D.int (i : Int) := by
  unfold rngL
  have e : ((b : Int) - (a : Int)).toNat = b - a := by omega
  rw [e, List.range'_eq_map_range, List.map_map]
  refine List.map_congr_left fun i _ => ?_
  show D.int ((a : Int) + (i : Int)) = D.int ((a + i : Nat) : Int)
  rw [Int.natCast_add]
theorem rngL_1 (n : Nat) : rngL 1 (n : Int) = (List.range' 1 (n - 1)).map fun (i : Nat) => D.int (i : Int) := rngL_nn 1 n
end DL
set_option Elab.async false
set_option linter.all false
set_option maxRecDepth 100000
set_option maxHeartbeats 1000000
namespace DL
open PySem L2
section
variable {q : D → Prop} {qn : List D → Prop} {i j : Int} {x y : List Nat} {ds es : List D} {b c : Bool} {d e : D}
@[simp] theorem sm_add1 : (oAdd (.int i) (.int j) q) = (q (.int (i + j))) := rfl
@[simp] theorem sm_add2 : (oAdd (.str x) (.str y) q) = (x.length + y.length ≤ sizeLine ∧ q (.str (x ++ y))) := rfl
@[simp] theorem sm_add3 : (oAdd (.tup ds) (.tup es) q) = (ds.length + es.length ≤ sizeLine ∧ q (.tup (ds ++ es))) := rfl
@[simp] theorem sm_cat : (oCat (.lst ds) (.lst es) qn) = (ds.length + es.length ≤ sizeLine ∧ qn (ds ++ es)) := rfl
@[simp] theorem sm_sub : (oSub (.int i) (.int j) q) = (q (.int (i - j))) := rfl
@[simp] theorem sm_mul1 : (oMul (.int i) (.int j) q) = (CMul i j ∧ q (.int (i * j))) := rfl
@[simp] theorem sm_mul2 : (oMul (.str x) (.int j) q) = (0 ≤ j ∧ x.length * j.toNat ≤ sizeLine ∧ j ≤ 2 ^ 32 ∧ q (.str (List.replicate j.toNat x).flatten)) := rfl
@[simp] theorem sm_rep : (oRep (.lst ds) (.int j) qn) = (-(2 ^ 63) ≤ j ∧ j < 2 ^ 63 ∧ ds.length * j.toNat ≤ sizeLine ∧ qn (List.replicate j.toNat ds).flatten) := rfl
@[simp] theorem sm_div : (oDiv (.int i) (.int j) q) = (CDiv i j ∧ q (.int (i / j))) := rfl
@[simp] theorem sm_mod : (oMod (.int i) (.int j) q) = (0 < j ∧ q (.int (i % j))) := rfl
@[simp] theorem sm_pow : (oPow (.int i) (.int j) q) = (CPow i j ∧ q (.int (i ^ j.toNat))) := rfl
@[simp] theorem sm_lt1 : (oLt (.int i) (.int j) q) = (q (.bl (decide (i < j)))) := rfl
@[simp] theorem sm_lt2 : (oLt (.str x) (.str y) q) = (q (.bl (decide (x < y)))) := rfl
@[simp] theorem sm_le1 : (oLe (.int i) (.int j) q) = (q (.bl (decide (i ≤ j)))) := rfl
@[simp] theorem sm_le2 : (oLe (.str x) (.str y) q) = (q (.bl (!decide (y < x)))) := rfl
@[simp] theorem sm_gt1 : (oGt (.int i) (.int j) q) = (q (.bl (decide (j < i)))) := rfl
@[simp] theorem sm_gt2 : (oGt (.str x) (.str y) q) = (q (.bl (decide (y < x)))) := rfl
@[simp] theorem sm_ge1 : (oGe (.int i) (.int j) q) = (q (.bl (decide (j ≤ i)))) := rfl
@[simp] theorem sm_ge2 : (oGe (.str x) (.str y) q) = (q (.bl (!decide (x < y)))) := rfl
@[simp] theorem sm_eq1 : (oEq (.int i) (.int j) q) = (q (.bl (decide (i = j)))) := rfl
@[simp] theorem sm_eq2 : (oEq (.str x) (.str y) q) = (q (.bl (decide (x = y)))) := rfl
@[simp] theorem sm_eq3 : (oEq (.bl b) (.bl c) q) = (q (.bl (decide (b = c)))) := rfl
@[simp] theorem sm_eql : (oEq (.lst ds) e q) = (shp (.lst ds) = true ∧ shp e = true ∧ q (.bl (deq (.lst ds) e))) := rfl
@[simp] theorem sm_eqt : (oEq (.tup ds) e q) = (shp (.tup ds) = true ∧ shp e = true ∧ q (.bl (deq (.tup ds) e))) := rfl
@[simp] theorem sm_eqn : (oEq (.non) e q) = (shp (.non) = true ∧ shp e = true ∧ q (.bl (deq (.non) e))) := rfl
@[simp] theorem sm_eqli : (oEq (.int i) (.lst es) q) = (shp (.int i) = true ∧ shp (.lst es) = true ∧ q (.bl (deq (.int i) (.lst es)))) := rfl
@[simp] theorem sm_eqls : (oEq (.str x) (.lst es) q) = (shp (.str x) = true ∧ shp (.lst es) = true ∧ q (.bl (deq (.str x) (.lst es)))) := rfl
@[simp] theorem sm_eqlb : (oEq (.bl b) (.lst es) q) = (shp (.bl b) = true ∧ shp (.lst es) = true ∧ q (.bl (deq (.bl b) (.lst es)))) := rfl
@[simp] theorem sm_eqti : (oEq (.int i) (.tup es) q) = (shp (.int i) = true ∧ shp (.tup es) = true ∧ q (.bl (deq (.int i) (.tup es)))) := rfl
@[simp] theorem sm_eqts : (oEq (.str x) (.tup es) q) = (shp (.str x) = true ∧ shp (.tup es) = true ∧ q (.bl (deq (.str x) (.tup es)))) := rfl
@[simp] theorem sm_eqtb : (oEq (.bl b) (.tup es) q) = (shp (.bl b) = true ∧ shp (.tup es) = true ∧ q (.bl (deq (.bl b) (.tup es)))) := rfl
@[simp] theorem sm_eqni : (oEq (.int i) (.non) q) = (shp (.int i) = true ∧ shp (.non) = true ∧ q (.bl (deq (.int i) (.non)))) := rfl
@[simp] theorem sm_eqns : (oEq (.str x) (.non) q) = (shp (.str x) = true ∧ shp (.non) = true ∧ q (.bl (deq (.str x) (.non)))) := rfl
@[simp] theorem sm_eqnb : (oEq (.bl b) (.non) q) = (shp (.bl b) = true ∧ shp (.non) = true ∧ q (.bl (deq (.bl b) (.non)))) := rfl
@[simp] theorem sm_eqis : (oEq (.int i) (.str x) q) = (shp (.int i) = true ∧ shp (.str x) = true ∧ q (.bl (deq (.int i) (.str x)))) := rfl
@[simp] theorem sm_eqsi : (oEq (.str x) (.int i) q) = (shp (.str x) = true ∧ shp (.int i) = true ∧ q (.bl (deq (.str x) (.int i)))) := rfl
@[simp] theorem sm_eqib : (oEq (.int i) (.bl b) q) = (shp (.int i) = true ∧ shp (.bl b) = true ∧ q (.bl (deq (.int i) (.bl b)))) := rfl
@[simp] theorem sm_eqbi : (oEq (.bl b) (.int i) q) = (shp (.bl b) = true ∧ shp (.int i) = true ∧ q (.bl (deq (.bl b) (.int i)))) := rfl
@[simp] theorem sm_eqsb : (oEq (.str x) (.bl b) q) = (shp (.str x) = true ∧ shp (.bl b) = true ∧ q (.bl (deq (.str x) (.bl b)))) := rfl
@[simp] theorem sm_eqbs : (oEq (.bl b) (.str x) q) = (shp (.bl b) = true ∧ shp (.str x) = true ∧ q (.bl (deq (.bl b) (.str x)))) := rfl
@[simp] theorem sm_ne1 : (oNe (.int i) (.int j) q) = (q (.bl (!decide (i = j)))) := rfl
@[simp] theorem sm_ne2 : (oNe (.str x) (.str y) q) = (q (.bl (!decide (x = y)))) := rfl
@[simp] theorem sm_ne3 : (oNe (.bl b) (.bl c) q) = (q (.bl (!decide (b = c)))) := rfl
@[simp] theorem sm_nel : (oNe (.lst ds) e q) = (shp (.lst ds) = true ∧ shp e = true ∧ q (.bl (!deq (.lst ds) e))) := rfl
@[simp] theorem sm_net : (oNe (.tup ds) e q) = (shp (.tup ds) = true ∧ shp e = true ∧ q (.bl (!deq (.tup ds) e))) := rfl
@[simp] theorem sm_nen : (oNe (.non) e q) = (shp (.non) = true ∧ shp e = true ∧ q (.bl (!deq (.non) e))) := rfl
@[simp] theorem sm_neli : (oNe (.int i) (.lst es) q) = (shp (.int i) = true ∧ shp (.lst es) = true ∧ q (.bl (!deq (.int i) (.lst es)))) := rfl
@[simp] theorem sm_nels : (oNe (.str x) (.lst es) q) = (shp (.str x) = true ∧ shp (.lst es) = true ∧ q (.bl (!deq (.str x) (.lst es)))) := rfl
@[simp] theorem sm_nelb : (oNe (.bl b) (.lst es) q) = (shp (.bl b) = true ∧ shp (.lst es) = true ∧ q (.bl (!deq (.bl b) (.lst es)))) := rfl
@[simp] theorem sm_neti : (oNe (.int i) (.tup es) q) = (shp (.int i) = true ∧ shp (.tup es) = true ∧ q (.bl (!deq (.int i) (.tup es)))) := rfl
@[simp] theorem sm_nets : (oNe (.str x) (.tup es) q) = (shp (.str x) = true ∧ shp (.tup es) = true ∧ q (.bl (!deq (.str x) (.tup es)))) := rfl
@[simp] theorem sm_netb : (oNe (.bl b) (.tup es) q) = (shp (.bl b) = true ∧ shp (.tup es) = true ∧ q (.bl (!deq (.bl b) (.tup es)))) := rfl
@[simp] theorem sm_neni : (oNe (.int i) (.non) q) = (shp (.int i) = true ∧ shp (.non) = true ∧ q (.bl (!deq (.int i) (.non)))) := rfl
@[simp] theorem sm_nens : (oNe (.str x) (.non) q) = (shp (.str x) = true ∧ shp (.non) = true ∧ q (.bl (!deq (.str x) (.non)))) := rfl
@[simp] theorem sm_nenb : (oNe (.bl b) (.non) q) = (shp (.bl b) = true ∧ shp (.non) = true ∧ q (.bl (!deq (.bl b) (.non)))) := rfl
@[simp] theorem sm_neis : (oNe (.int i) (.str x) q) = (shp (.int i) = true ∧ shp (.str x) = true ∧ q (.bl (!deq (.int i) (.str x)))) := rfl
@[simp] theorem sm_nesi : (oNe (.str x) (.int i) q) = (shp (.str x) = true ∧ shp (.int i) = true ∧ q (.bl (!deq (.str x) (.int i)))) := rfl
@[simp] theorem sm_neib : (oNe (.int i) (.bl b) q) = (shp (.int i) = true ∧ shp (.bl b) = true ∧ q (.bl (!deq (.int i) (.bl b)))) := rfl
@[simp] theorem sm_nebi : (oNe (.bl b) (.int i) q) = (shp (.bl b) = true ∧ shp (.int i) = true ∧ q (.bl (!deq (.bl b) (.int i)))) := rfl
@[simp] theorem sm_nesb : (oNe (.str x) (.bl b) q) = (shp (.str x) = true ∧ shp (.bl b) = true ∧ q (.bl (!deq (.str x) (.bl b)))) := rfl
@[simp] theorem sm_nebs : (oNe (.bl b) (.str x) q) = (shp (.bl b) = true ∧ shp (.str x) = true ∧ q (.bl (!deq (.bl b) (.str x)))) := rfl
@[simp] theorem sm_isn : (oIsN d .non q) = (q (.bl (isN d))) := rfl
@[simp] theorem sm_notn : (oNotN d .non q) = (q (.bl (!isN d))) := rfl
@[simp] theorem sm_isN_non : (isN (.non)) = (true) := rfl
@[simp] theorem sm_isN_int : (isN (.int i)) = (false) := rfl
@[simp] theorem sm_isN_str : (isN (.str x)) = (false) := rfl
@[simp] theorem sm_isN_bl : (isN (.bl b)) = (false) := rfl
@[simp] theorem sm_isN_lst : (isN (.lst ds)) = (false) := rfl
@[simp] theorem sm_isN_tup : (isN (.tup ds)) = (false) := rfl
@[simp] theorem sm_ix1 : (oIx (.lst ds) (.int i) q) = (∃ d, atI ds i = some d ∧ q d) := rfl
@[simp] theorem sm_ix2 : (oIx (.tup ds) (.int i) q) = (∃ d, atI ds i = some d ∧ q d) := rfl
@[simp] theorem sm_ix3 : (oIx (.str x) (.int i) q) = (x.length ≤ sizeLine ∧ ∃ c, atI x i = some c ∧ q (.str [c])) := rfl
variable {lo hi : Option Int}
@[simp] theorem sm_sl1 : (oSl (.str x) lo hi q) = (x.length ≤ sizeLine ∧ q (.str (cutL x lo hi))) := rfl
@[simp] theorem sm_sl2 : (oSl (.tup ds) lo hi q) = (q (.tup (cutL ds lo hi))) := rfl
@[simp] theorem sm_sl3 : (oSl (.lst ds) lo hi q) = (q (.lst (cutL ds lo hi))) := rfl
@[simp] theorem sm_sl4 : (oSlN (.lst ds) lo hi qn) = (qn (cutL ds lo hi)) := rfl
@[simp] theorem sm_len1 : (cLen [.str x] q) = (x.length ≤ sizeLine ∧ q (.int x.length)) := rfl
@[simp] theorem sm_len2 : (cLen [.lst ds] q) = (q (.int ds.length)) := rfl
@[simp] theorem sm_len3 : (cLen [.tup ds] q) = (q (.int ds.length)) := rfl
@[simp] theorem sm_tup1 : (cTuple [.lst ds] q) = (q (.tup ds)) := rfl
@[simp] theorem sm_tup2 : (cTuple [.tup ds] q) = (q (.tup ds)) := rfl
@[simp] theorem sm_list1 : (cList [.lst ds] qn) = (qn ds) := rfl
@[simp] theorem sm_list2 : (cList [.tup ds] qn) = (qn ds) := rfl
@[simp] theorem sm_min2 : (cMin2 [.int i, .int j] q) = (q (.int (if j < i then j else i))) := rfl
@[simp] theorem sm_max2 : (cMax2 [.int i, .int j] q) = (q (.int (if j > i then j else i))) := rfl
@[simp] theorem sm_int1 : (cInt [.int i] q) = (q (.int i)) := rfl
@[simp] theorem sm_int2 : (cInt [.bl b] q) = (q (.int (if b then 1 else 0))) := rfl
@[simp] theorem sm_str1 : (cStr [.int i] q) = (i.natAbs.log2 < 1920 ∧ q (.str (dec i))) := rfl
@[simp] theorem sm_rev1 : (oRev (.lst ds) q) = (q (.lst ds.reverse)) := rfl
@[simp] theorem sm_rev2 : (oRev (.tup ds) q) = (q (.tup ds.reverse)) := rfl
@[simp] theorem sm_rev3 : (oRevN (.lst ds) qn) = (qn ds.reverse) := rfl
theorem in_seqL {f : Bool → Bool} : (oInB f d (.lst ds) q) = (flatD d = true ∧ ds.all flatD = true ∧ q (.bl (f (ds.any fun y => eqF y d)))) := by
  cases d with
  | str x => cases x with
    | nil => rfl
    | cons a t => cases t <;> rfl
  | _ => rfl
theorem in_seqT {f : Bool → Bool} : (oInB f d (.tup ds) q) = (flatD d = true ∧ ds.all flatD = true ∧ q (.bl (f (ds.any fun y => eqF y d)))) := by
  cases d with
  | str x => cases x with
    | nil => rfl
    | cons a t => cases t <;> rfl
  | _ => rfl
@[simp] theorem sm_in1 : (oIn d (.lst ds) q) = (flatD d = true ∧ ds.all flatD = true ∧ q (.bl (ds.any fun y => eqF y d))) := in_seqL
@[simp] theorem sm_in2 : (oIn d (.tup ds) q) = (flatD d = true ∧ ds.all flatD = true ∧ q (.bl (ds.any fun y => eqF y d))) := in_seqT
@[simp] theorem sm_in3 {c : Nat} : (oIn (.str [c]) (.str x) q) = (q (.bl (decide (c ∈ x)))) := rfl
@[simp] theorem sm_nin1 : (oNotIn d (.lst ds) q) = (flatD d = true ∧ ds.all flatD = true ∧ q (.bl (!ds.any fun y => eqF y d))) := in_seqL
@[simp] theorem sm_nin2 : (oNotIn d (.tup ds) q) = (flatD d = true ∧ ds.all flatD = true ∧ q (.bl (!ds.any fun y => eqF y d))) := in_seqT
@[simp] theorem sm_nin3 {c : Nat} : (oNotIn (.str [c]) (.str x) q) = (q (.bl (!decide (c ∈ x)))) := rfl
theorem all_call {bs : List Bool} (h : q (.bl (bs.all id))) : cAll [.lst (bs.map D.bl)] q := ⟨bs, rfl, h⟩
@[simp] theorem sm_flat1 : flatD (.int i) = true := rfl
@[simp] theorem sm_flat2 : flatD (.str x) = true := rfl
@[simp] theorem sm_flat3 : flatD (.bl b) = true := rfl
@[simp] theorem sm_isi1 {T : String} : (isiD T (.int i) q) = (q (.bl (isTyp "int" T))) := by
  unfold isiD
  exact propext ⟨fun ⟨t, h1, h2⟩ => by cases h1; exact h2, fun h => ⟨_, rfl, h⟩⟩
@[simp] theorem sm_isi2 {T : String} : (isiD T (.str x) q) = (q (.bl (isTyp "str" T))) := by
  unfold isiD
  exact propext ⟨fun ⟨t, h1, h2⟩ => by cases h1; exact h2, fun h => ⟨_, rfl, h⟩⟩
@[simp] theorem sm_isi3 {T : String} : (isiD T (.bl b) q) = (q (.bl (isTyp "bool" T))) := by
  unfold isiD
  exact propext ⟨fun ⟨t, h1, h2⟩ => by cases h1; exact h2, fun h => ⟨_, rfl, h⟩⟩
@[simp] theorem sm_isi4 {T : String} : (isiD T .non q) = (q (.bl (isTyp "NoneType" T))) := by
  unfold isiD
  exact propext ⟨fun ⟨t, h1, h2⟩ => by cases h1; exact h2, fun h => ⟨_, rfl, h⟩⟩
@[simp] theorem sm_isi5 {T : String} : (isiD T (.lst ds) q) = (q (.bl (isTyp "list" T))) := by
  unfold isiD
  exact propext ⟨fun ⟨t, h1, h2⟩ => by cases h1; exact h2, fun h => ⟨_, rfl, h⟩⟩
@[simp] theorem sm_isi6 {T : String} : (isiD T (.tup ds) q) = (q (.bl (isTyp "tuple" T))) := by
  unfold isiD
  exact propext ⟨fun ⟨t, h1, h2⟩ => by cases h1; exact h2, fun h => ⟨_, rfl, h⟩⟩
variable {qb : Bool → Prop} {qi : Int → Prop} {qs : List Nat → Prop}
@[simp] theorem sm_isB : (isB (.bl b) qb) = (qb b) := rfl
@[simp] theorem sm_asI : (asI (.int i) qi) = (qi i) := rfl
@[simp] theorem sm_asS : (asS (.str x) qs) = (qs x) := rfl
@[simp] theorem sm_it1 : (itemsOf (.lst ds)) = (some ds) := rfl
@[simp] theorem sm_it2 : (itemsOf (.tup ds)) = (some ds) := rfl
@[simp] theorem sm_it3 : (itemsOf (.str x)) = (some (x.map fun c => D.str [c])) := rfl
end
theorem draw_n {n g : Nat} {Q : D → Nat → Prop} {ex : Exn → Nat → Prop} (h0 : 0 < n) (h1 : n < 1152921504606846976) (hg : g + 1 ≤ 2 ^ 60) (h : ∀ v : Nat, v < n → Q (.int v) (g + 1)) : dDraw [.ob 0, .int n] g Q ex :=
  ⟨n, rfl, by omega, by omega, hg, fun v hv hv2 => by
    obtain ⟨m, rfl⟩ := Int.eq_ofNat_of_zero_le hv
    exact h m (by omega)⟩
theorem draw_l {k g : Nat} {Q : D → Nat → Prop} {ex : Exn → Nat → Prop} (hg : g + 1 ≤ 2 ^ 60) (h : ∀ v : Nat, v < k → Q (.int v) (g + 1)) (h0 : 0 < k := by decide) (h1 : k < 1152921504606846976 := by decide) {j : Int} (e : j = k := by rfl) : dDraw [.ob 0, .int j] g Q ex := by
  subst e
  exact draw_n h0 h1 hg h
theorem pick_of {g : Nat} {c : D} {xs : List D} {Q : D → Nat → Prop} {ex : Exn → Nat → Prop} (hg : g + 1 ≤ 2 ^ 60) (hc : itemsOf c = some xs) (h0 : xs ≠ []) (h1 : xs.length ≤ 16777216) (h : ∀ d ∈ xs, Q d (g + 1)) : d_l_pick [.ob 0, c] g Q ex := ⟨c, xs, rfl, hc, h0, h1, hg, h⟩
end DL
set_option Elab.async false
set_option linter.all false
set_option maxRecDepth 100000
set_option maxHeartbeats 1000000
namespace DL
open PySem L2
theorem perm_strict_eq {α : Type} {R : α → α → Prop} (as : ∀ a b, R a b → R b a → False) : ∀ {l1 l2 : List α}, l1.Perm l2 → l1.Pairwise R → l2.Pairwise R → l1 = l2
  | [], l2, p, _, _ => by rw [List.nil_perm.mp p]
  | a :: r, [], p, _, _ => by cases List.perm_nil.mp p
  | a :: r, b :: t, p, h1, h2 => by
    rw [List.pairwise_cons] at h1 h2
    have e : a = b := by
      rcases List.mem_cons.mp (p.mem_iff.mp List.mem_cons_self) with e | ha
      · exact e
      · rcases List.mem_cons.mp (p.symm.mem_iff.mp (List.mem_cons_self (a := b) (l := t))) with e | hb
        · exact e.symm
        · exact (as a b (h1.1 b hb) (h2.1 a ha)).elim
    subst e
    rw [perm_strict_eq as (List.Perm.cons_inv p) h1.2 h2.2]
/-- the tails stand in their order -/
def IsTO (w : List Nat) (o : List Nat) : Prop := o.Perm (List.range w.length) ∧ o.Pairwise fun i j => w.drop i < w.drop j
theorem lt_asymmL {a b : List Nat} (h : a < b) (h' : b < a) : False := List.lt_irrefl a (List.lt_trans h h')
theorem IsTO.uniq {w o o' : List Nat} (h : IsTO w o) (h' : IsTO w o') : o = o' := perm_strict_eq (fun _ _ a b => lt_asymmL a b) (h.1.trans h'.1.symm) h.2 h'.2
theorem drop_inj {w : List Nat} {i j : Nat} (hi : i < w.length) (hj : j < w.length) (e : w.drop i = w.drop j) : i = j := by
  have := congrArg List.length e
  rw [List.length_drop, List.length_drop] at this
  omega
theorem isTO_of_le {w o : List Nat} (p : o.Perm (List.range w.length)) (h : o.Pairwise fun i j => ¬ w.drop j < w.drop i) : IsTO w o := by
  refine ⟨p, ?_⟩
  have nd : o.Nodup := p.nodup_iff.mpr List.nodup_range
  have both := h.and nd
  refine both.imp_of_mem fun {i j} hi hj hij => ?_
  have hi' := List.mem_range.mp (p.mem_iff.mp hi)
  have hj' := List.mem_range.mp (p.mem_iff.mp hj)
  have le := List.not_lt.mp hij.1
  rcases Classical.em (w.drop i < w.drop j) with h | h
  · exact h
  · exact absurd (drop_inj hi' hj' (List.le_antisymm le (List.not_lt.mp h))) hij.2
theorem tOrd_is (w : List Nat) : IsTO w (tOrd w) := by
  refine isTO_of_le (List.mergeSort_perm _ _) ?_
  have tr : ∀ a b c : Nat, (!tlt w b a) = true → (!tlt w c b) = true → (!tlt w c a) = true := fun a b c h1 h2 => by
    simp only [tlt, Bool.not_eq_true', decide_eq_false_iff_not] at *
    exact List.not_lt.mpr (List.le_trans (List.not_lt.mp h1) (List.not_lt.mp h2))
  have to : ∀ a b : Nat, ((!tlt w b a) || (!tlt w a b)) = true := fun a b => by
    simp only [tlt, Bool.or_eq_true, Bool.not_eq_true', decide_eq_false_iff_not]
    rcases Classical.em (w.drop b < w.drop a) with h | h
    · exact .inr fun h' => lt_asymmL h h'
    · exact .inl h
  refine (List.pairwise_mergeSort (le := fun i j => !tlt w j i) tr to (List.range w.length)).imp fun {i j} h => ?_
  simp only [tlt, Bool.not_eq_true', decide_eq_false_iff_not] at h
  exact h
theorem IsTO.eq {w o : List Nat} (h : IsTO w o) : o = tOrd w := h.uniq (tOrd_is w)
theorem tOrd_len (w : List Nat) : (tOrd w).length = w.length := by rw [(tOrd_is w).1.length_eq, List.length_range]
theorem tOrd_lt {w : List Nat} {i : Nat} (h : i ∈ tOrd w) : i < w.length := List.mem_range.mp ((tOrd_is w).1.mem_iff.mp h)
/-- the sorted pairs give the tail order -/
theorem sorted_TO {w : List Nat} {ys : List (List Nat × Int)} (hp : ys.Perm ((List.range w.length).map fun i : Nat => (w.drop i, (i : Int)))) (hs : ys.Pairwise leTI) : ys.map (fun y => D.int y.2) = nats (tOrd w) := by
  obtain ⟨o, ho, rfl⟩ := perm_map_inv (f := fun i : Nat => (w.drop i, (i : Int))) hp _ rfl
  rw [List.pairwise_map] at hs
  have := isTO_of_le ho (hs.imp fun {i j} h => by
    rcases h with h | ⟨h, _⟩
    · exact fun h' => lt_asymmL h h'
    · intro h'
      have e : w.drop i = w.drop j := h
      rw [e] at h'
      exact List.lt_irrefl _ h')
  rw [← this.eq, List.map_map]
  rfl
theorem isPerm.lt {o : List Nat} (h : isPerm o) {i : Nat} (hi : i ∈ o) : i < o.length := List.mem_range.mp (List.Perm.mem_iff h |>.mp hi)
theorem isPerm.mem {o : List Nat} (h : isPerm o) {i : Nat} (hi : i < o.length) : i ∈ o := List.Perm.mem_iff h |>.mpr (List.mem_range.mpr hi)
theorem en_get {ds : List D} {i : Nat} {d : D} (h : (enL 0 ds)[i]? = some d) : ∃ e, ds[i]? = some e ∧ d = .tup [.int (i : Nat), e] := by
  rw [enL_get, Nat.zero_add] at h
  cases hp : ds[i]? with
  | none => rw [hp] at h; cases h
  | some p => rw [hp] at h; cases h; exact ⟨p, rfl, rfl⟩
theorem enL_len : ∀ (ds : List D) (n : Nat), (enL n ds).length = ds.length
  | [], _ => rfl
  | d :: ds, n => by show (enL (n + 1) ds).length + 1 = _; rw [enL_len ds (n + 1)]; rfl
end DL
set_option Elab.async false
set_option linter.all false
set_option maxRecDepth 100000
set_option maxHeartbeats 1000000
namespace DL
open PySem L2
/-- shown in at most n signs, nested at most k levels -/
structure RB (n k : Nat) (d : D) : Prop where
  show_ : (py d).showable = true
  pl : pln d = true
  dep : (py d).depth ≤ k
  len : (py d).shown.length ≤ n
theorem RB.mono {n m k l : Nat} {d : D} (h : RB n k d) (a : n ≤ m) (b : k ≤ l) : RB m l d := ⟨h.1, h.2, Nat.le_trans h.3 b, Nat.le_trans h.4 a⟩
theorem RB.ok {n k : Nat} {d : D} (h : RB n k d) (a : n ≤ 16777216) (b : k ≤ 60) : repOk d := ⟨h.1, h.2, Nat.le_trans h.3 b, by rw [sizeLine_eq]; exact Nat.le_trans h.4 a⟩
theorem rb_non : RB 4 0 .non := ⟨rfl, rfl, Nat.le_refl _, by decide⟩
theorem rb_bl (b : Bool) : RB 5 0 (.bl b) := by cases b <;> exact ⟨rfl, rfl, Nat.le_refl _, by decide⟩
theorem rb_int {i : Int} {k : Nat} (hk : 0 < k) (h : i.natAbs < 10 ^ k) (hk2 : k ≤ 400) : RB (k + 1) 0 (.int i) := by
  refine ⟨?_, rfl, Nat.le_refl _, ?_⟩
  · refine decide_eq_true ?_
    by_cases h0 : i.natAbs = 0
    · rw [h0]; decide
    · have e : 10 ^ k ≤ 2 ^ (4 * k) := by
        rw [Nat.pow_mul]
        exact Nat.pow_le_pow_left (by decide) k
      have : i.natAbs.log2 < 4 * k := (Nat.log2_lt h0).mpr (Nat.lt_of_lt_of_le h e)
      omega
  · show (Str.ofString (toString i)).length ≤ k + 1
    rw [PySem.ofString_length]
    exact PySem.int_text_length_le10 hk h
theorem rb_nat {i : Nat} (h : i < 1000) : RB 4 0 (.int (i : Int)) := rb_int (k := 3) (by decide) (by simpa using h) (by decide)
theorem rb_str {x : List Nat} (h : ∀ c ∈ x, c < 1114112) : RB (10 * x.length + 2) 0 (.str x) := by
  refine ⟨rfl, rfl, Nat.le_refl _, ?_⟩
  have := PySem.StrLaws.reprText_len (S x) (by
    rw [S_list]
    intro c hc
    exact Nat.lt_of_lt_of_le (h c hc) (by decide))
  rw [str_len (S x), S_list] at this
  exact this
theorem textFrom_le : ∀ (ts : List Str) (k : Nat) (acc : Str), (textFrom k acc ts).length ≤ acc.length + piled ts
  | [], k, acc => Nat.le_refl _
  | t :: r, k, acc => by
    have ih := textFrom_le r (k + 1) (acc ++ (if k > 0 then ", " else "" : String) ++ t)
    show (textFrom (k + 1) _ r).length ≤ _
    refine Nat.le_trans ih ?_
    rw [strLen_append, strLen_append, piled_cons]
    have : ((if k > 0 then ", " else "" : String) : Str).length ≤ 2 := by split <;> decide
    omega
theorem list_le (ts : List Str) : (listText ts).length ≤ piled ts + 2 := by
  unfold listText
  rw [strLen_append]
  have := textFrom_le ts 0 "["
  have e : (("[" : String) : Str).length = 1 := rfl
  have e2 : (("]" : String) : Str).length = 1 := rfl
  omega
theorem tuple_le (ts : List Str) : (tupleText ts).length ≤ piled ts + 3 := by
  unfold tupleText
  rw [strLen_append, strLen_append]
  have e : (("(" : String) : Str).length = 1 := rfl
  have e2 : ((if ts.length == 1 then ",)" else ")" : String) : Str).length ≤ 2 := by split <;> decide
  by_cases h : ts = []
  · subst h
    have : (Str.join ", " []).length = 0 := rfl
    omega
  · have := join_length_add ts h
    omega
theorem rbA {n k : Nat} : ∀ {ds : List D}, (∀ d ∈ ds, RB n k d) → PyData.showableAll (pyA ds) = true ∧ plnA ds = true ∧ PyData.depthAll (pyA ds) ≤ k ∧ piled (PyData.shownAll (pyA ds)) ≤ (n + 2) * ds.length
  | [], _ => ⟨rfl, rfl, Nat.zero_le _, Nat.zero_le _⟩
  | d :: ds, h => by
    obtain ⟨h1, h3, h4, h5⟩ := rbA fun x hx => h x (List.mem_cons_of_mem _ hx)
    have q := h d List.mem_cons_self
    refine ⟨?_, ?_, ?_, ?_⟩
    · simp [pyA, PyData.showableAll, q.1, h1]
    · simp [plnA, q.2, h3]
    · simp only [pyA, PyData.depthAll]
      exact Nat.max_le.mpr ⟨q.3, h4⟩
    · simp only [pyA, PyData.shownAll, piled_cons, List.length_cons]
      have := q.4
      rw [Nat.mul_add]
      omega
theorem rb_lst {n k : Nat} {ds : List D} (h : ∀ d ∈ ds, RB n k d) : RB ((n + 2) * ds.length + 2) (k + 1) (.lst ds) := by
  obtain ⟨h1, h3, h4, h5⟩ := rbA h
  refine ⟨by simpa [py, PyData.showable] using h1, by simpa [pln] using h3, ?_, ?_⟩
  · simp only [py, PyData.depth]; omega
  · simp only [py, PyData.shown]
    have := list_le (PyData.shownAll (pyA ds))
    omega
theorem rb_tup {n k : Nat} {ds : List D} (h : ∀ d ∈ ds, RB n k d) : RB ((n + 2) * ds.length + 3) (k + 1) (.tup ds) := by
  obtain ⟨h1, h3, h4, h5⟩ := rbA h
  refine ⟨by simpa [py, PyData.showable] using h1, by simpa [pln] using h3, ?_, ?_⟩
  · simp only [py, PyData.depth]; omega
  · simp only [py, PyData.shown]
    have := tuple_le (PyData.shownAll (pyA ds))
    omega
theorem rb_nats {xs : List Nat} (h : ∀ i ∈ xs, i < 1000) : RB (6 * xs.length + 3) 1 (.tup (nats xs)) := by
  have := rb_tup (n := 4) (k := 0) (ds := nats xs) fun d hd => by
    obtain ⟨i, hi, rfl⟩ := List.mem_map.mp hd
    exact rb_nat (h i hi)
  unfold nats at this
  rw [List.length_map] at this
  exact this
theorem rb_dic0 : RB 2 1 (.dic []) := ⟨rfl, rfl, by decide, by decide⟩
theorem rb_dic1 : RB 8 1 (.dic [(.inr (S [97]), .int 1)]) := ⟨by decide +kernel, rfl, by decide +kernel, by decide +kernel⟩
/-- a call of repr -/
theorem rep_call {d : D} {q : D → Prop} {n k : Nat} (h : RB n k d) (a : n ≤ 16777216) (b : k ≤ 60) (hq : q (.str (rep d))) : cRepr [d] q := ⟨d, rfl, h.ok a b, hq⟩
end DL
set_option Elab.async false
set_option linter.all false
set_option maxRecDepth 100000
set_option maxHeartbeats 1000000
namespace DL
open PySem L2
theorem jn_ones : ∀ xs : List Nat, jn [] (xs.map fun c => [c]) = xs
  | [] => rfl
  | [a] => rfl
  | a :: b :: r => by
    have := jn_ones (b :: r)
    show [a] ++ ([] ++ TL.joinL [] ((b :: r).map fun c => [c])) = _
    rw [show TL.joinL [] ((b :: r).map fun c => [c]) = b :: r from this]
    rfl
theorem ones_sum (xs : List Nat) : ((xs.map fun c => [c]).map (·.length)).sum = xs.length := by
  induction xs with
  | nil => rfl
  | cons a r ih => simp at ih ⊢; omega
/-- a letter as a text -/
def IsL (d : D) : Prop := ∃ c, d = .str [c] ∧ 97 ≤ c ∧ c < 123
theorem isL_all : ∀ {ys : List D}, (∀ d ∈ ys, IsL d) → ∃ cs : List Nat, ys = cs.map (fun c => D.str [c]) ∧ Lets cs ∧ cs.length = ys.length
  | [], _ => ⟨[], rfl, (fun _ h => by cases h), rfl⟩
  | y :: ys, h => by
    obtain ⟨cs, e, l, hl⟩ := isL_all fun d hd => h d (List.mem_cons_of_mem _ hd)
    obtain ⟨c, rfl, h1, h2⟩ := h y List.mem_cons_self
    refine ⟨c :: cs, by rw [e]; rfl, fun x hx => ?_, by rw [List.length_cons, List.length_cons, hl]⟩
    rcases List.mem_cons.mp hx with rfl | hx
    · exact ⟨h1, h2⟩
    · exact l x hx
theorem paired_all {α : Type} {P : D → Prop} : ∀ {xs : List α} {ys : List D}, Paired (fun _ d => P d) xs ys → (∀ d ∈ ys, P d) ∧ ys.length = xs.length
  | _, _, .nil => ⟨(fun _ h => by cases h), rfl⟩
  | _, _, .cons h t => by
    obtain ⟨h1, h2⟩ := paired_all t
    refine ⟨fun d hd => ?_, by rw [List.length_cons, List.length_cons, h2]⟩
    rcases List.mem_cons.mp hd with rfl | hd
    · exact h
    · exact h1 d hd
theorem join_letters {ys : List D} {q : D → Prop} (hy : ∀ d ∈ ys, IsL d) (hl : ys.length ≤ 1000) (h : ∀ cs : List Nat, Lets cs → cs.length = ys.length → q (.str cs)) : oJoin [] (.lst ys) q := by
  obtain ⟨cs, rfl, hL, hc⟩ := isL_all hy
  refine ⟨_, cs.map fun c => [c], .inl rfl, by rw [List.map_map]; rfl, by rw [ones_sum, List.length_nil, Nat.mul_zero]; omega, ?_⟩
  rw [jn_ones]
  exact h cs hL hc
theorem lets_take {w : List Nat} (h : Lets w) (n : Nat) : Lets (w.take n) := fun c hc => h c (List.mem_of_mem_take hc)
theorem lets_rep {w : List Nat} (h : Lets w) (n : Nat) : Lets (List.replicate n w).flatten := fun c hc => by
  obtain ⟨v, hv, hc⟩ := List.mem_flatten.mp hc
  rw [List.eq_of_mem_replicate hv] at hc
  exact h c hc
theorem rep_len {α : Type} (w : List α) (n : Nat) : (List.replicate n w).flatten.length = n * w.length := by
  induction n with
  | zero => simp
  | succ n ih => rw [List.replicate_succ, List.flatten_cons, List.length_append, ih, Nat.succ_mul]; omega
end DL
set_option Elab.async false
set_option linter.all false
set_option maxRecDepth 100000
set_option maxHeartbeats 1000000
namespace DL
open PySem L2
/-- may be compared: nested at most k levels -/
structure Sh (k : Nat) (d : D) : Prop where
  lay : (py d).canLay0 = true
  dep : (py d).depth ≤ k
  pl : pln d = true
theorem Sh.mono {k l : Nat} {d : D} (h : Sh k d) (a : k ≤ l) : Sh l d := ⟨h.1, Nat.le_trans h.2 a, h.3⟩
theorem Sh.ok {k : Nat} {d : D} (h : Sh k d) (a : k ≤ 64) : shp d = true := by
  unfold shp SeqAt.shaped
  rw [h.1, h.3, decide_eq_true (Nat.le_trans h.2 a)]
  rfl
mutual
def nb : D → Bool
  | .non => true
  | .int _ => true
  | .str _ => true
  | .lst ds => nbA ds
  | .tup ds => nbA ds
  | _ => false
def nbA : List D → Bool
  | [] => true
  | d :: ds => nb d && nbA ds
end
end DL
set_option Elab.async false
set_option linter.all false
set_option maxRecDepth 100000
set_option maxHeartbeats 1000000
namespace DL
open PySem L2
@[simp] theorem natD_int {i : Nat} : natD (.int i) = i := rfl
theorem ok_str {x : List Nat} : okD (.str x) := ⟨_, rfl⟩
/-- the odd values have types and can be shown -/
def fineD (v : D) : Prop := okD v ∧ RB 40 3 v
theorem fine_int {i : Int} (h : i.natAbs < 10 ^ 30) : fineD (.int i) := ⟨⟨_, rfl⟩, (rb_int (k := 30) (by decide) h (by decide)).mono (by decide) (by decide)⟩
theorem fine_bl {b : Bool} : fineD (.bl b) := ⟨⟨_, rfl⟩, (rb_bl b).mono (by decide) (by decide)⟩
theorem fine_non : fineD .non := ⟨⟨_, rfl⟩, rb_non.mono (by decide) (by decide)⟩
theorem fine_str {x : List Nat} (h : ∀ c ∈ x, c < 1114112) (hl : x.length ≤ 3) : fineD (.str x) := ⟨⟨_, rfl⟩, (rb_str h).mono (by omega) (by decide)⟩
theorem fine_tup0 : fineD (.tup []) := ⟨⟨_, rfl⟩, (rb_tup (n := 5) (k := 0) (ds := []) fun d hd => nomatch hd).mono (by decide) (by decide)⟩
theorem fine_lst0 : fineD (.lst []) := ⟨⟨_, rfl⟩, (rb_lst (n := 5) (k := 0) (ds := []) fun d hd => nomatch hd).mono (by decide) (by decide)⟩
theorem fine_tup1 {v : D} {n : Nat} (h : RB n 0 v) (hn : n ≤ 20) : fineD (.tup [v]) := ⟨⟨_, rfl⟩, (rb_tup (n := 20) (k := 0) (ds := [v]) fun d hd => by rw [List.mem_singleton.mp hd]; exact h.mono hn (Nat.le_refl _)).mono (by simp) (by decide)⟩
theorem fine_lst1 {v : D} {n : Nat} (h : RB n 0 v) (hn : n ≤ 20) : fineD (.lst [v]) := ⟨⟨_, rfl⟩, (rb_lst (n := 20) (k := 0) (ds := [v]) fun d hd => by rw [List.mem_singleton.mp hd]; exact h.mono hn (Nat.le_refl _)).mono (by simp) (by decide)⟩
theorem all_cons {α : Type} {P : α → Prop} {x : α} {xs : List α} (h : P x) (t : ∀ y ∈ xs, P y) : ∀ y ∈ x :: xs, P y := fun y hy => by
  rcases List.mem_cons.mp hy with rfl | hy
  · exact h
  · exact t y hy
theorem all_nil {α : Type} {P : α → Prop} : ∀ y ∈ ([] : List α), P y := fun y hy => nomatch hy
theorem all_app {α : Type} {P : α → Prop} {xs ys : List α} (h : ∀ y ∈ xs, P y) (t : ∀ y ∈ ys, P y) : ∀ y ∈ xs ++ ys, P y := fun y hy => by
  rcases List.mem_append.mp hy with hy | hy
  · exact h y hy
  · exact t y hy
theorem big29 : ((10 : Int) ^ 29).natAbs < 10 ^ 30 := by
  rw [Int.natAbs_pow]
  exact Nat.pow_lt_pow_right (by decide) (by decide)
theorem abc_mem {c : Nat} : c ∈ abcW ↔ 97 ≤ c ∧ c < 123 := by
  simp only [abcW, List.mem_cons, List.not_mem_nil, or_false]
  omega
theorem abc_in {c : Nat} : decide (c ∈ abcW) = isLt c := by
  rw [Bool.eq_iff_iff, decide_eq_true_iff, abc_mem]
  simp [isLt]
theorem wErr_str {x : List Nat} : wErr (.str x) = if x = [] ∨ 24 < x.length then .tup [.non, .str sWord] else match x.findIdx? (fun c => !isLt c) with
    | some i => .tup [.int (i : Int), .str sLetter]
    | none => .non := rfl
theorem wErr_bad {x : List Nat} (h : x = [] ∨ 24 < x.length) : wErr (.str x) = .tup [.non, .str sWord] := by rw [wErr_str, if_pos h]
theorem wErr_at {x : List Nat} (h : ¬ (x = [] ∨ 24 < x.length)) {i : Nat} (hi : i < x.length) (hb : isLt x[i] = false) (ha : ∀ j (hj : j < i), isLt (x[j]'(Nat.lt_trans hj hi)) = true) : wErr (.str x) = .tup [.int (i : Int), .str sLetter] := by
  have e : x.findIdx? (fun c => !isLt c) = some i := List.findIdx?_eq_some_iff_getElem.mpr ⟨hi, by rw [hb]; rfl, fun j hj => by rw [ha j hj]; exact Bool.false_ne_true⟩
  rw [wErr_str, if_neg h, e]
theorem wErr_ok {x : List Nat} (h : ¬ (x = [] ∨ 24 < x.length)) (ha : ∀ c ∈ x, isLt c = true) : wErr (.str x) = .non := by
  have e : x.findIdx? (fun c => !isLt c) = none := List.findIdx?_eq_none_iff.mpr fun c hc => by rw [ha c hc]; rfl
  rw [wErr_str, if_neg h, e]
end DL
set_option Elab.async false
set_option linter.all false
set_option maxRecDepth 100000
set_option maxHeartbeats 1000000
namespace DL
open PySem L2
end DL
set_option Elab.async false
set_option linter.all false
set_option maxRecDepth 100000
set_option maxHeartbeats 1000000
namespace DL
open PySem L2
end DL
set_option Elab.async false
set_option linter.all false
set_option maxRecDepth 100000
set_option maxHeartbeats 1000000
namespace DL
open PySem L2
abbrev tWord : List Nat := [119, 111, 114, 100]
abbrev tOrder : List Nat := [111, 114, 100, 101, 114]
/-- the words behind the first one, or the field of the error -/
def behW (n : List Nat) : D → Sum (List (List Nat)) D
  | .str x => match splL [32] x with
    | h :: t => if h = n then .inl t else .inr (.int 0)
    | [] => .inr (.int 0)
  | _ => .inr .non
/-- a text of no great length, or another value -/
def txV (v : D) : Prop := okD v ∧ ∀ x, v = .str x → x.length ≤ 9000
def d_words_behind : DSp stg := fun ds g q ex => ∃ (n : List Nat) (v : D), ds = [.str n, v] ∧ txV v ∧ match behW n v with
  | .inl t => q (.lst (txts t)) g
  | .inr d => ex ⟨"BadText", ["index"], [d]⟩ g
/-- the word that a text writes, or the field of the error -/
def pwW (v : D) : Sum (List Nat) D := match behW tWord v with
  | .inr d => .inr d
  | .inl [] => .inr (.int 1)
  | .inl (w :: t) => if isN (wErr (.str w)) = true then (if t = [] then .inl w else .inr (.int 2)) else .inr (.int 1)
def d_parse_word : DSp stg := fun ds g q ex => ∃ v : D, ds = [v] ∧ txV v ∧ match pwW v with
  | .inl w => q (.str w) g
  | .inr d => ex ⟨"BadText", ["index"], [d]⟩ g
def d_l_order_k65 : DSp stg := d_tail_order
end DL
set_option Elab.async false
set_option linter.all false
set_option maxRecDepth 100000
set_option maxHeartbeats 1000000
namespace DL
open PySem L2
def CLS : List Str := ["Desk", "SimpleDesk", "LoggedDesk", "LoggedSimpleDesk"]
def clsOk (c : Str) : Prop := c ∈ CLS
theorem cls_D : clsOk "Desk" := List.mem_cons_self ..
theorem cls_in {c : Str} (h : clsOk c) : c ∈ CLS := h
/-- each class's entry in a table -/
theorem tab_in {T : MTab} {sp : DSp stq} {c : Str} (hc : clsOk c) (h : T = CLS.map fun c => (c, sp) := by rfl) : (c, sp) ∈ T := by rw [h]; exact List.mem_map.mpr ⟨c, cls_in hc, rfl⟩
def smpC (c : Str) : Bool := c == "SimpleDesk" || c == "LoggedSimpleDesk"
def lgdC (c : Str) : Bool := c == "LoggedDesk" || c == "LoggedSimpleDesk"
/-- a desk's state -/
structure Dk where
  c : Str
  w : List Nat
  st : List (List Nat)
  dn : List D
  wt : D
  b : Bool
  rows : List D
def Dk.fs (d : Dk) : List (Str × D) := ("now", .str d.w) :: ("states", .tup (txts d.st)) :: ("done", .tup d.dn) :: ("wanted", d.wt) :: ("is_busy", .bl d.b) :: (if lgdC d.c = true then [("rows", .tup d.rows)] else [])
def Dk.ob (d : Dk) : Ob := .ins d.c d.fs
/-- an instance of the store that is a desk -/
def deskAt (g : Gq) (k : Nat) (d : Dk) : Prop := g.S[k]? = some d.ob ∧ clsOk d.c
structure Dk.small (d : Dk) : Prop where
  w : d.w.length ≤ 800
  st : d.st.length ≤ 900
  dn : d.dn.length ≤ 900
  rows : d.rows.length ≤ 10000
abbrev tChange : List Nat := [99, 104, 97, 110, 103, 101]
abbrev tGrow : List Nat := [103, 114, 111, 119]
abbrev tShrink : List Nat := [115, 104, 114, 105, 110, 107]
abbrev tUndo : List Nat := [117, 110, 100, 111]
inductive Ed where
  | change (p l : D) | grow (l : D) | shrink
def Ed.d : Ed → D
  | .change p l => .tup [.str tChange, p, l]
  | .grow l => .tup [.str tGrow, l]
  | .shrink => .tup [.str tShrink]
inductive Ac where
  | ed (e : Ed) | undo
def Ac.d : Ac → D
  | .ed e => e.d
  | .undo => .tup [.str tUndo]
/-- a value of any kind as an argument -/
structure argV (v : D) : Prop where
  ok : okD v
  sz : szD 100000 v
  ob : obsD v = true
def Ed.ok : Ed → Prop
  | .change p l => argV p ∧ argV l
  | .grow l => argV l
  | .shrink => True
def Ac.ok : Ac → Prop
  | .ed e => e.ok
  | .undo => True
def letX : D → List Nat
  | .str x => x
  | _ => []
abbrev xBadLetter (v : D) : Exn := ⟨"BadLetter", ["value"], [v]⟩
abbrev xNoPlace (v : D) : Exn := ⟨"NoPlace", ["value"], [v]⟩
abbrev xTooLong : Exn := ⟨"TooLong", ["limit"], [.int 24]⟩
abbrev xLastLetter : Exn := ⟨"LastLetter", [], []⟩
abbrev xTooMany : Exn := ⟨"TooManyEdits", [], []⟩
abbrev xBusy : Exn := ⟨"Busy", [], []⟩
abbrev xNothing : Exn := ⟨"NothingToUndo", [], []⟩
abbrev xBadWord (v : D) : Exn := ⟨"BadWord", ["error"], [v]⟩
abbrev xNotSimple (w : List Nat) : Exn := ⟨"NotSimple", ["place"], [.int ((tOrd w).headD 0 : Nat)]⟩
/-- the word after an edit -/
def chgX (w : List Nat) (p l : D) : Sum (List Nat) Exn := if isPl w.length p = true then if isLetD l = true then .inl (w.take (natD p) ++ letX l ++ w.drop (natD p + 1)) else .inr (xBadLetter l) else .inr (xNoPlace p)
def grwX (w : List Nat) (l : D) : Sum (List Nat) Exn := if isLetD l = true then if w.length = 24 then .inr xTooLong else .inl (letX l ++ w) else .inr (xBadLetter l)
def shkX (w : List Nat) : Sum (List Nat) Exn := if w.length = 1 then .inr xLastLetter else .inl (w.drop 1)
def edtX (w : List Nat) : Ed → Sum (List Nat) Exn
  | .change p l => chgX w p l
  | .grow l => grwX w l
  | .shrink => shkX w
/-- may it be held? -/
def accX (s : Bool) (w : List Nat) : Sum (List Nat) Exn := if s = true ∧ simpW w = false then .inr (xNotSimple w) else .inl w
/-- edited and accepted -/
def dueX (s : Bool) (w : List Nat) (e : Ed) : Sum (List Nat) Exn := match edtX w e with
  | .inl u => accX s u
  | .inr x => .inr x
def perX (s : Bool) (n : Nat) (w : List Nat) (e : Ed) : Sum (List Nat) Exn := if n = 60 then .inr xTooMany else dueX s w e
def Dk.did (d : Dk) (e : D) (u : List Nat) : Dk := { d with w := u, st := d.st ++ [u], dn := d.dn ++ [e] }
/-- an edit that is not part of a batch -/
def Dk.alone (d : Dk) (e : Ed) : Sum Dk Exn := if d.b = true then .inr xBusy else match perX (smpC d.c) d.dn.length d.w e with
  | .inl u => .inl (d.did e.d u)
  | .inr x => .inr x
def Dk.undone (d : Dk) : Dk := { d with st := d.st.dropLast, dn := d.dn.dropLast, w := d.st.dropLast.getLastD [] }
def Dk.undo (d : Dk) : Sum Dk Exn := if d.b = true then .inr xBusy else if d.dn = [] then .inr xNothing else .inl d.undone
def Dk.step (d : Dk) : Ac → Sum Dk Exn
  | .ed e => d.alone e
  | .undo => d.undo
def Ac.name : Ac → List Nat
  | .ed (.change _ _) => tChange
  | .ed (.grow _) => tGrow
  | .ed .shrink => tShrink
  | .undo => tUndo
def verD (d : Dk) : D := .int (d.dn.length : Nat)
def d_check_word : DSp stg := fun ds g q ex => ∃ v : D, ds = [v] ∧ argV v ∧ if isN (wErr v) = true then q .non g else ex (xBadWord (wErr v)) g
/-- a new desk -/
def newDk (c : Str) (w : List Nat) : Dk := ⟨c, w, [w], [], .non, false, []⟩
def d_Desk_init : DSp stq := fun ds g q ex => ∃ (k : Nat) (c : Str) (v : D), ds = [.ob k, v] ∧ g.S[k]? = some (.ins c []) ∧ clsOk c ∧ argV v ∧ if isN (wErr v) = true then match accX (smpC c) (letX v) with
    | .inl w => q .non ⟨g.n, g.S.set k (.ins c [("now", .str w), ("states", .tup [.str w]), ("done", .tup []), ("wanted", .non), ("is_busy", .bl false)])⟩
    | .inr x => ex x g
  else ex (xBadWord (wErr v)) g
def d_Desk_word : DSp stq := fun ds g q _ => ∃ (k : Nat) (d : Dk), ds = [.ob k] ∧ deskAt g k d ∧ q (.str d.w) g
def d_Desk_order : DSp stq := fun ds g q _ => ∃ (k : Nat) (d : Dk), ds = [.ob k] ∧ deskAt g k d ∧ d.w.length ≤ 1000 ∧ q (.tup (nats (tOrd d.w))) g
def d_Desk_version : DSp stq := fun ds g q _ => ∃ (k : Nat) (d : Dk), ds = [.ob k] ∧ deskAt g k d ∧ q (verD d) g
def d_Desk_edits : DSp stq := fun ds g q _ => ∃ (k : Nat) (d : Dk), ds = [.ob k] ∧ deskAt g k d ∧ q (.tup d.dn) g
def d_Desk_len : DSp stq := fun ds g q _ => ∃ (k : Nat) (d : Dk), ds = [.ob k] ∧ deskAt g k d ∧ d.w.length ≤ 1000 ∧ q (.int (d.w.length : Nat)) g
def strX (w n : Nat) : List Nat := dec w ++ [32, 108, 101, 116, 116, 101, 114, 115, 44, 32] ++ dec n ++ [32, 101, 100, 105, 116, 115]
def d_Desk_str : DSp stq := fun ds g q _ => ∃ (k : Nat) (d : Dk), ds = [.ob k] ∧ deskAt g k d ∧ d.small ∧ q (.str (strX d.w.length d.dn.length)) g
def d_Desk_accept : DSp stq := fun ds g q _ => ∃ (k : Nat) (w : List Nat), ds = [.ob k, .str w] ∧ q .non g
def d_l_simple : DSp stg := fun ds g q _ => ∃ w : List Nat, ds = [.str w] ∧ w.length ≤ 1000 ∧ q (.bl (simpW w)) g
def d_l_letter : DSp stg := d_is_letter
/-- the field of an error -/
def exF (x : Exn) : D := match x.ds with
  | [] => .non
  | v :: _ => v
def clsT (c : Str) : List Nat := c.cps.toList
/-- an error as a law tells it -/
def exD (x : Exn) : D := .lst [.str (clsT x.cls), exF x]
/-- an error of the package, with its field -/
def exOk (x : Exn) : Prop := (∃ v, x = xNoPlace v) ∨ (∃ v, x = xBadLetter v) ∨ x = xTooLong ∨ x = xLastLetter ∨ x = xTooMany ∨ x = xBusy ∨ x = xNothing ∨ (∃ v, x = xBadWord v) ∨ ∃ w, x = xNotSimple w
/-- what a desk shows -/
def seenD (w : List Nat) (dn : List D) : D := .lst [.str w, .tup (nats (tOrd w)), .int (dn.length : Nat), .tup dn, .int (w.length : Nat), .str (strX w.length dn.length)]
def d_l_seen : DSp stq := fun ds g q _ => ∃ (k : Nat) (d : Dk), ds = [.ob k] ∧ deskAt g k d ∧ d.small ∧ repOk (seenD d.w d.dn) ∧ q (.str (rep (seenD d.w d.dn))) g
/-- a value that can be shown -/
structure shV (v : D) : Prop where
  a : argV v
  r : RB 2000 20 v
def Ed.sh : Ed → Prop
  | .change p l => shV p ∧ shV l
  | .grow l => shV l
  | .shrink => True
def Ac.sh : Ac → Prop
  | .ed e => e.sh
  | .undo => True
/-- a pattern of a desk -/
def patV (v : D) : Prop := v = .non ∨ ∃ p : List Nat, v = .str p ∧ p.length ≤ 24 ∧ ∀ c ∈ p, isLt c = true
/-- a desk in order, not busy -/
structure Dk.V (d : Dk) : Prop where
  c : clsOk d.c
  last : d.st.getLast? = some d.w
  len : d.st.length = d.dn.length + 1
  few : d.dn.length ≤ 60
  ws : ∀ w ∈ d.st, 1 ≤ w.length ∧ w.length ≤ 24 ∧ ∀ c ∈ w, isLt c = true
  es : ∀ e ∈ d.dn, RB 10000 21 e ∧ obsD e = true
  idle : d.b = false
  pat : patV d.wt
/-- a desk and a law's model of it -/
structure modAt (g : Gq) (k i j : Nat) (d : Dk) : Prop where
  dk : g.S[k]? = some d.ob
  st : g.S[i]? = some (.lst (txts d.st))
  dn : g.S[j]? = some (.lst d.dn)
  ki : k ≠ i
  kj : k ≠ j
  ij : i ≠ j
def d_Desk_pattern : DSp stq := fun ds g q _ => ∃ (k : Nat) (d : Dk), ds = [.ob k] ∧ deskAt g k d ∧ q d.wt g
/-- accepting, by the class -/
def d_SimpleDesk_accept : DSp stq := fun ds g q ex => ∃ (k : Nat) (w : List Nat), ds = [.ob k, .str w] ∧ w.length ≤ 900 ∧ if simpW w = true then q .non g else ex (xNotSimple w) g
def accSp (c : Str) : DSp stq := if smpC c = true then d_SimpleDesk_accept else d_Desk_accept
theorem acc_run {c : Str} {k : Nat} {w : List Nat} {g : Gq} {q : D → Gq → Prop} {ex : Exn → Gq → Prop} (hl : w.length ≤ 900) (h : match accX (smpC c) w with | .inl _ => q .non g | .inr x => ex x g) : accSp c [.ob k, .str w] g q ex := by
  unfold accSp
  unfold accX at h
  by_cases hc : smpC c = true
  · rw [if_pos hc]
    refine ⟨k, w, rfl, hl, ?_⟩
    by_cases hs : simpW w = true
    · rw [if_pos hs]
      rw [if_neg (fun z => by rw [hs] at z; cases z.2)] at h
      exact h
    · rw [if_neg hs]
      rw [if_pos ⟨hc, by simpa using hs⟩] at h
      exact h
  · rw [if_neg hc]
    rw [if_neg (fun z => hc z.1)] at h
    exact ⟨k, w, rfl, h⟩
theorem acc_tab {T : MTab} {c : Str} (hc : clsOk c) (h : T = CLS.map fun c => (c, accSp c) := by rfl) : (c, accSp c) ∈ T := by rw [h]; exact List.mem_map.mpr ⟨c, cls_in hc, rfl⟩
def d_LoggedDesk_init : DSp stq := fun ds g q ex => ∃ (k : Nat) (c : Str) (v : D), ds = [.ob k, v] ∧ g.S[k]? = some (.ins c []) ∧ clsOk c ∧ lgdC c = true ∧ argV v ∧ if isN (wErr v) = true then match accX (smpC c) (letX v) with
    | .inl w => q .non ⟨g.n, g.S.set k (newDk c w).ob⟩
    | .inr x => ex x g
  else ex (xBadWord (wErr v)) g
def d_LoggedDesk_log : DSp stq := fun ds g q _ => ∃ (k : Nat) (d : Dk), ds = [.ob k] ∧ deskAt g k d ∧ lgdC d.c = true ∧ q (.tup d.rows) g
def iniSp (c : Str) : DSp stq := if lgdC c = true then d_LoggedDesk_init else d_Desk_init
theorem sp_tab {T : MTab} {sp : Str → DSp stq} {c : Str} (hc : clsOk c) (h : T = CLS.map fun c => (c, sp c)) : (c, sp c) ∈ T := by rw [h]; exact List.mem_map.mpr ⟨c, cls_in hc, rfl⟩
/-- the four classes by their number -/
def kCls : Nat → Str
  | 0 => "Desk"
  | 1 => "SimpleDesk"
  | 2 => "LoggedDesk"
  | _ => "LoggedSimpleDesk"
def d_l_start : DSp stg := fun ds (g : Nat) q _ => ∃ n m : Nat, ds = [.ob 0, .int (n : Int), .int (m : Int)] ∧ n < 4 ∧ 1 ≤ m ∧ m ≤ 24 ∧ g + 100 ≤ 2 ^ 60 ∧ ∀ (w : List Nat) (g' : Nat), 1 ≤ w.length → w.length ≤ m → (∀ c ∈ w, isLt c = true) → accX (smpC (kCls n)) w = .inl w → g' ≤ g + 100 → q (.str w) g'
theorem acc_ex {c : Str} {u : List Nat} {x : Exn} (hc : clsOk c) (h : accX (smpC c) u = .inr x) : exOk x ∧ obsA x.ds = true := by
  unfold accX at h
  split at h
  · cases h
    exact ⟨.inr (.inr (.inr (.inr (.inr (.inr (.inr (.inr ⟨u, rfl⟩))))))), rfl⟩
  · cases h
section
variable {d : Dk}
theorem fs_now : fldD? "now" d.fs = some (.str d.w) := by unfold Dk.fs; simp only [fldD?]; rw [if_pos trivial]
theorem fs_states : fldD? "states" d.fs = some (.tup (txts d.st)) := by unfold Dk.fs; simp only [fldD?]; rw [if_neg (by decide), if_pos trivial]
theorem fs_done : fldD? "done" d.fs = some (.tup d.dn) := by unfold Dk.fs; simp only [fldD?]; rw [if_neg (by decide), if_neg (by decide), if_pos trivial]
theorem fs_wanted : fldD? "wanted" d.fs = some d.wt := by unfold Dk.fs; simp only [fldD?]; rw [if_neg (by decide), if_neg (by decide), if_neg (by decide), if_pos trivial]
theorem fs_rows (h : lgdC d.c = true) : fldD? "rows" d.fs = some (.tup d.rows) := by unfold Dk.fs; simp only [fldD?]; rw [if_neg (by decide), if_neg (by decide), if_neg (by decide), if_neg (by decide), if_neg (by decide), if_pos h]; rfl
theorem fs_none {m : Str} (h : m ∉ (["now", "states", "done", "wanted", "is_busy", "rows"] : List Str)) : fldD? m d.fs = none := by
  simp only [List.mem_cons, not_or] at h
  obtain ⟨h1, h2, h3, h4, h5, h6, _⟩ := h
  unfold Dk.fs
  simp only [fldD?]
  rw [if_neg h1, if_neg h2, if_neg h3, if_neg h4, if_neg h5]
  split
  · simp only [fldD?]
    rw [if_neg h6]
  · rfl
end
/-- the store, written at a place -/
theorem set_at {S : List Ob} {k : Nat} {o u : Ob} (h : S[k]? = some o) : (S.set k u)[k]? = some u := List.getElem?_set_self (List.getElem?_eq_some_iff.mp h).1
end DL
set_option Elab.async false
set_option linter.all false
set_option maxRecDepth 100000
set_option maxHeartbeats 1000000
namespace DL
open PySem L2
abbrev tLook : List Nat := [108, 111, 111, 107]
abbrev tFound : List Nat := [102, 111, 117, 110, 100]
abbrev tRank : List Nat := [114, 97, 110, 107]
abbrev tParts : List Nat := [112, 97, 114, 116, 115]
abbrev tFactors : List Nat := [102, 97, 99, 116, 111, 114, 115]
inductive Qy where
  | look (v : List Nat) | found | rank (n : Nat) | parts | factors | word | order
def Qy.nm : Qy → List Nat
  | .look _ => tLook
  | .found => tFound
  | .rank _ => tRank
  | .parts => tParts
  | .factors => tFactors
  | .word => tWord
  | .order => tOrder
def Qy.vals : Qy → List D
  | .look v => [.str v]
  | .rank n => [.int (n : Int)]
  | _ => []
def Qy.ok : Qy → Prop
  | .look v => v.length ≤ 90000
  | .rank n => n < 1000
  | _ => True
def Ac.vals : Ac → List D
  | .ed (.change p l) => [p, l]
  | .ed (.grow l) => [l]
  | _ => []
inductive Cm where
  | ed (a : Ac) | qy (y : Qy)
end DL
set_option Elab.async false
set_option linter.all false
set_option maxRecDepth 100000
set_option maxHeartbeats 1000000
namespace DL
open PySem L2
end DL
set_option Elab.async false
set_option linter.all false
set_option maxRecDepth 100000
set_option maxHeartbeats 1000000
namespace DL
open PySem L2
theorem spl_ne : ∀ (x acc : List Nat), TL.spl [32] 0 acc x ≠ []
  | [], acc => by
    unfold TL.spl
    simp
  | c :: x, acc => by
    unfold TL.spl
    split
    · simp
    · exact spl_ne x _
theorem spl_len : ∀ (x acc : List Nat), (TL.spl [32] 0 acc x).length ≤ x.length + 1 ∧ ∀ y ∈ TL.spl [32] 0 acc x, y.length ≤ acc.length + x.length
  | [], acc => by
    unfold TL.spl
    exact ⟨Nat.le_refl _, fun y hy => by rw [List.mem_singleton.mp hy]; exact Nat.le_refl _⟩
  | c :: x, acc => by
    unfold TL.spl
    split
    · obtain ⟨h1, h2⟩ := spl_len x []
      refine ⟨by rw [List.length_cons, List.length_cons]; exact Nat.succ_le_succ h1, all_cons (by rw [List.length_cons]; omega) fun y hy => ?_⟩
      have := h2 y hy
      simp only [List.length_nil, List.length_cons] at this ⊢
      omega
    · obtain ⟨h1, h2⟩ := spl_len x (acc ++ [c])
      refine ⟨by rw [List.length_cons]; omega, fun y hy => ?_⟩
      have := h2 y hy
      simp only [List.length_append, List.length_cons, List.length_nil] at this ⊢
      omega
theorem log_small {n : Nat} (h : n < 1000) : (n : Int).natAbs.log2 < 1920 := by
  rw [Int.natAbs_natCast]
  by_cases c : n = 0
  · subst c
    decide
  · exact Nat.lt_trans ((Nat.log2_lt c).mpr (Nat.lt_of_lt_of_le h (by decide : 1000 ≤ 2 ^ 10))) (by decide)
theorem beh_len {n : List Nat} {v : D} {t : List (List Nat)} (hx : txV v) (h : behW n v = .inl t) : t.length ≤ 9000 ∧ ∀ y ∈ t, y.length ≤ 9000 := by
  cases v with
  | str x =>
    have lx := hx.2 x rfl
    obtain ⟨sl, sm⟩ := spl_len x []
    have sl : (splL [32] x).length ≤ x.length + 1 := sl
    have sm : ∀ y ∈ splL [32] x, y.length ≤ ([] : List Nat).length + x.length := sm
    have h : (match splL [32] x with | h :: t => if h = n then Sum.inl t else Sum.inr (D.int 0) | [] => Sum.inr (D.int 0)) = Sum.inl t := h
    cases hs : splL [32] x with
    | nil => rw [hs] at h; cases h
    | cons c r =>
      rw [hs] at h sl sm
      simp only at h
      split at h
      · cases h
        rw [List.length_cons] at sl
        refine ⟨by omega, fun y hy => ?_⟩
        have := sm y (List.mem_cons_of_mem _ hy)
        simp at this
        omega
      · cases h
  | _ => cases h
theorem jn_cons (x y : List Nat) (ys : List (List Nat)) : jn [32] (x :: y :: ys) = x ++ 32 :: jn [32] (y :: ys) := rfl
theorem jn_len : ∀ xs : List (List Nat), (jn [32] xs).length ≤ (xs.map fun x : List Nat => x.length).sum + xs.length
  | [] => Nat.le_refl _
  | [x] => by
    show x.length ≤ _
    simp
  | x :: y :: ys => by
    have := jn_len (y :: ys)
    rw [jn_cons, List.length_append, List.length_cons, List.map_cons, List.sum_cons, List.length_cons]
    omega
theorem jn_mem : ∀ (xs : List (List Nat)) (c : Nat), c ∈ jn [32] xs → c = 32 ∨ ∃ x ∈ xs, c ∈ x
  | [], c, h => by cases h
  | [x], c, h => .inr ⟨x, List.mem_cons_self .., h⟩
  | x :: y :: ys, c, h => by
    rw [jn_cons] at h
    rcases List.mem_append.mp h with h | h
    · exact .inr ⟨x, List.mem_cons_self .., h⟩
    · rcases List.mem_cons.mp h with h | h
      · exact .inl h
      · rcases jn_mem (y :: ys) c h with h | ⟨z, hz, hc⟩
        · exact .inl h
        · exact .inr ⟨z, List.mem_cons_of_mem _ hz, hc⟩
end DL
set_option Elab.async false
set_option linter.all false
set_option maxRecDepth 100000
set_option maxHeartbeats 1000000
namespace DL
open PySem L2
end DL
set_option Elab.async false
set_option linter.all false
set_option maxRecDepth 100000
set_option maxHeartbeats 1000000
namespace DL
open PySem L2
end DL
set_option Elab.async false
set_option linter.all false
set_option maxRecDepth 100000
set_option maxHeartbeats 1000000
namespace DL
open PySem L2
def fineF (v : D) : Prop := okD v ∧ RB 260 3 v
theorem fineD.F {v : D} (h : fineD v) : fineF v := ⟨h.1, h.2.mono (by decide) (Nat.le_refl _)⟩
theorem oddF_fine : ∀ v ∈ oddF, fineF v :=
  all_cons fine_non.F (all_cons fine_bl.F (all_cons fine_bl.F (all_cons (fine_int (by decide)).F (all_cons (fine_int (by decide)).F (all_cons (fine_int (by decide)).F (all_cons (fine_int (by decide)).F (all_cons (fine_int (by decide)).F (all_cons (fine_int big29).F
  (all_cons (fine_str (by simp) (by decide)).F (all_cons (fine_str (by simp) (by decide)).F (all_cons (fine_str (by simp) (by decide)).F (all_cons (fine_str (by simp) (by decide)).F (all_cons (fine_str (by simp) (by decide)).F (all_cons (fine_str (by simp) (by decide)).F
  (all_cons fine_tup0.F (all_cons fine_lst0.F (all_cons ⟨⟨_, rfl⟩, rb_dic0.mono (by decide) (by decide)⟩ (all_cons (fine_tup1 (rb_nat (i := 0) (by decide)) (by decide)).F (all_cons (fine_lst1 (rb_str (x := [97]) (by simp)) (by decide)).F
  (all_cons (fine_tup1 (rb_str (x := [97]) (by simp)) (by decide)).F (all_cons ⟨⟨_, rfl⟩, rb_dic1.mono (by decide) (by decide)⟩ (all_cons (fine_str (by simp) (by decide)).F (all_cons ⟨⟨_, rfl⟩, (rb_str (x := List.replicate 25 122) (by simp)).mono (by simp) (by decide)⟩ all_nil)))))))))))))))))))))))
end DL
set_option Elab.async false
set_option linter.all false
set_option maxRecDepth 100000
set_option maxHeartbeats 1000000
namespace DL
open PySem L2
theorem dec_len {n : Nat} (h : n ≤ 1000) : (dec (n : Int)).length ≤ 4 := by
  have key : ∀ n < 1001, (dec ((n : Nat) : Int)).length ≤ 4 := by decide +kernel
  exact key n (by omega)
/-- a word, as a value -/
theorem wErr_word {v : D} (h : isN (wErr v) = true) : ∃ x, v = .str x ∧ 1 ≤ x.length ∧ x.length ≤ 24 ∧ ∀ c ∈ x, isLt c = true := by
  cases v with
  | str x =>
    refine ⟨x, rfl, ?_⟩
    by_cases c1 : x = [] ∨ 24 < x.length
    · rw [wErr_str, if_pos c1] at h
      cases h
    · have h1 : 1 ≤ x.length ∧ x.length ≤ 24 := by
        have : x ≠ [] := fun z => c1 (.inl z)
        have := List.length_pos_iff.mpr this
        omega
      refine ⟨h1.1, h1.2, fun c hc => ?_⟩
      rw [wErr_str, if_neg c1] at h
      cases e : x.findIdx? (fun c => !isLt c) with
      | none =>
        have := List.findIdx?_eq_none_iff.mp e c hc
        simpa using this
      | some i => rw [e] at h; cases h
  | _ => cases h
theorem acc_inl {s : Bool} {u v : List Nat} (h : accX s u = .inl v) : v = u := by
  unfold accX at h
  split at h
  · cases h
  · cases h; rfl
end DL
set_option Elab.async false
set_option linter.all false
set_option maxRecDepth 100000
set_option maxHeartbeats 1000000
namespace DL
open PySem L2
theorem lt_small {c : Nat} (h : isLt c = true) : c < 1114112 := by
  unfold isLt at h
  simp at h
  omega
section
variable {d : Dk}
theorem Dk.V.w (hv : d.V) : 1 ≤ d.w.length ∧ d.w.length ≤ 24 ∧ ∀ c ∈ d.w, isLt c = true := hv.ws _ (List.mem_of_getLast? hv.last)
theorem Dk.V.small (hv : d.V) (hr : d.rows.length ≤ 10000) : d.small := ⟨by have := hv.w.2.1; omega, by have := hv.len; have := hv.few; omega, by have := hv.few; omega, by omega⟩
theorem Dk.V.two (hv : d.V) (h : d.dn ≠ []) : 2 ≤ d.st.length := by
  have := hv.len
  have := List.length_pos_iff.mpr h
  omega
theorem dec_chars {n : Nat} (h : n ≤ 1000) : ∀ c ∈ dec (n : Int), c < 1114112 := by
  have key : ∀ n < 1001, ∀ c ∈ dec ((n : Nat) : Int), c < 1114112 := by decide +kernel
  exact key n (by omega)
theorem rb_strX {w n : Nat} (hw : w ≤ 1000) (hn : n ≤ 1000) : RB 300 0 (.str (strX w n)) := by
  refine (rb_str (x := strX w n) fun c hc => ?_).mono (by unfold strX; simp; have := dec_len hw; have := dec_len hn; omega) (Nat.le_refl _)
  unfold strX at hc
  simp only [List.mem_append] at hc
  rcases hc with (((h | h) | h) | h)
  · exact dec_chars hw c h
  · revert c; decide
  · exact dec_chars hn c h
  · revert c; decide
theorem seen_ok (hv : d.V) : repOk (seenD d.w d.dn) := by
  have hw := hv.w
  have hf := hv.few
  refine (rb_lst (n := 700000) (k := 22) fun x hx => ?_).ok (by simp) (by decide)
  simp only [List.mem_cons, List.not_mem_nil, or_false] at hx
  rcases hx with rfl | rfl | rfl | rfl | rfl | rfl
  · exact (rb_str fun c hc => lt_small (hw.2.2 c hc)).mono (by omega) (by omega)
  · refine (rb_nats fun i hi => ?_).mono ?_ (by omega)
    · have := (tOrd_lt hi)
      omega
    · have : (tOrd d.w).length = d.w.length := by unfold tOrd; simp
      omega
  · exact (rb_nat (by omega)).mono (by omega) (by omega)
  · exact (rb_tup (fun e he => (hv.es e he).1)).mono (by omega) (by omega)
  · exact (rb_nat (by omega)).mono (by omega) (by omega)
  · exact (rb_strX (by omega) (by omega)).mono (by omega) (by omega)
end
theorem lets_lt {w : List Nat} (h : Lets w) : ∀ c ∈ w, isLt c = true := fun c hc => by
  have := h c hc
  unfold isLt
  simp
  omega
theorem new_V {c : Str} {w : List Nat} (hc : clsOk c) (h1 : 1 ≤ w.length) (h2 : w.length ≤ 24) (h3 : ∀ c ∈ w, isLt c = true) : (newDk c w).V :=
  ⟨hc, rfl, rfl, Nat.zero_le _, fun x hx => by rw [List.mem_singleton.mp hx]; exact ⟨h1, h2, h3⟩, fun e he => (by cases he), rfl, .inl rfl⟩
theorem word_arg {w : List Nat} (h : w.length ≤ 1000) : argV (.str w) := ⟨⟨_, rfl⟩, by show w.length ≤ _; omega, rfl⟩
theorem modAt.n {g g' : Gq} {k i j : Nat} {d : Dk} (h : modAt g k i j d) (e : g'.S = g.S) : modAt g' k i j d := ⟨by rw [e]; exact h.dk, by rw [e]; exact h.st, by rw [e]; exact h.dn, h.ki, h.kj, h.ij⟩
theorem modAt.set {g : Gq} {k i j m n : Nat} {d : Dk} {o : Ob} (h : modAt g k i j d) (hk : m ≠ k) (hi : m ≠ i) (hj : m ≠ j) : modAt ⟨n, g.S.set m o⟩ k i j d :=
  ⟨by show (g.S.set m o)[k]? = _; rw [List.getElem?_set_ne hk]; exact h.dk, by show (g.S.set m o)[i]? = _; rw [List.getElem?_set_ne hi]; exact h.st, by show (g.S.set m o)[j]? = _; rw [List.getElem?_set_ne hj]; exact h.dn, h.ki, h.kj, h.ij⟩
theorem modAt.put {g : Gq} {k i j n : Nat} {d d' : Dk} (h : modAt g k i j d) (e1 : d'.st = d.st) (e2 : d'.dn = d.dn) : modAt ⟨n, g.S.set k d'.ob⟩ k i j d' :=
  ⟨set_at h.dk, by show (g.S.set k _)[i]? = _; rw [List.getElem?_set_ne h.ki, e1]; exact h.st, by show (g.S.set k _)[j]? = _; rw [List.getElem?_set_ne h.kj, e2]; exact h.dn, h.ki, h.kj, h.ij⟩
/-- what stands between two statements -/
theorem seq_mid {M : Ghost} {A B : SW M} {k : K3 M} {ρ : DEnv} {g : M.G} (Mid : DEnv → M.G → Prop) (hB : ∀ ρ g, Mid ρ g → B k ρ g) (hA : ∀ X : DEnv → M.G → Prop, (∀ ρ g, Mid ρ g → X ρ g) → A { k with nx := X } ρ g) : wSeq A B k ρ g := hA _ hB

end DL
set_option Elab.async false
set_option linter.all false
set_option maxRecDepth 100000
set_option maxHeartbeats 1000000
namespace DL
open PySem L2
theorem lg_mem {c : Str} (hl : lgdC c = true) : c ∈ (["LoggedDesk", "LoggedSimpleDesk"] : List Str) := by
  unfold lgdC at hl
  rw [Bool.or_eq_true] at hl
  rcases hl with h | h
  · rw [beq_iff_eq.mp h]; exact List.mem_cons_self ..
  · rw [beq_iff_eq.mp h]; exact List.mem_cons_of_mem _ (List.mem_cons_self ..)
theorem lg_tab {T : MTab} {sp : DSp stq} {c : Str} (hl : lgdC c = true) (h : T = (["LoggedDesk", "LoggedSimpleDesk"] : List Str).map fun c => (c, sp) := by rfl) : (c, sp) ∈ T := by rw [h]; exact List.mem_map.mpr ⟨c, lg_mem hl, rfl⟩
theorem new_fs {c : Str} {w : List Nat} (hl : lgdC c = true) : putFd "rows" (.tup []) [("now", .str w), ("states", .tup [.str w]), ("done", .tup []), ("wanted", .non), ("is_busy", .bl false)] = (newDk c w).fs := by
  unfold Dk.fs newDk
  simp only [putFd]
  rw [if_neg (by decide), if_neg (by decide), if_neg (by decide), if_neg (by decide), if_neg (by decide), if_pos hl]
  rfl
theorem ab_simp {m : Nat} (h : m < 24) : simpW (List.replicate m 97 ++ [98]) = true := (by decide +kernel : ∀ m < 24, simpW (List.replicate m 97 ++ [98]) = true) m h
theorem acc_simp {s : Bool} {w : List Nat} (h : simpW w = true) : accX s w = .inl w := by
  unfold accX
  rw [if_neg (fun z => by rw [h] at z; cases z.2)]
theorem set_set {S : List Ob} {k : Nat} {a b : Ob} : (S.set k a).set k b = S.set k b := List.set_set ..
end DL
set_option Elab.async false
set_option linter.all false
set_option maxRecDepth 100000
set_option maxHeartbeats 1000000
namespace DL
open PySem L2
end DL
set_option Elab.async false
set_option linter.all false
set_option maxRecDepth 100000
set_option maxHeartbeats 1000000
namespace DL
open PySem L2
end DL
set_option Elab.async false
set_option linter.all false
set_option maxRecDepth 100000
set_option maxHeartbeats 1000000
namespace DL
open PySem L2
end DL
set_option Elab.async false
set_option linter.all false
set_option maxRecDepth 100000
set_option maxHeartbeats 1000000
namespace DL
open PySem L2
structure IsNl (r : List Nat) (p E : Nat) : Prop where
  lo : p < E
  hi : E ≤ r.length
  no : ∀ j, p < j → j < E → ¬ r.getD j 0 < r.getD p 0
  at_ : E < r.length → r.getD E 0 < r.getD p 0
theorem IsNl.uniq {r : List Nat} {p E F : Nat} (h : IsNl r p E) (k : IsNl r p F) : E = F := by
  by_cases c : E < F
  · exact absurd (h.at_ (by have := k.hi; omega)) (k.no E h.lo c)
  · by_cases c2 : F < E
    · exact absurd (k.at_ (by have := h.hi; omega)) (h.no F k.lo c2)
    · omega
end DL
set_option Elab.async false
set_option linter.all false
set_option maxRecDepth 100000
set_option maxHeartbeats 1000000
namespace DL
open PySem L2
end DL
set_option Elab.async false
set_option linter.all false
set_option maxRecDepth 100000
set_option maxHeartbeats 2000000
namespace DL
open PySem L2
def Ac.okS : Ac → Prop
  | .ed (.change p l) => (∃ n : Nat, n < 1000 ∧ p = .int (n : Int)) ∧ ∃ w : List Nat, w.length ≤ 5000 ∧ l = .str w
  | .ed (.grow l) => ∃ w : List Nat, w.length ≤ 5000 ∧ l = .str w
  | _ => True
/-- a command and its words -/
def Cm.is (nm : List Nat) (vs : List D) : Cm → Prop
  | .ed a => nm = a.name ∧ vs = a.vals ∧ a.okS
  | .qy y => nm = y.nm ∧ vs = y.vals ∧ (match y with | .look v => v.length ≤ 5000 | .rank n => n < 1000 | _ => True)
end DL
set_option Elab.async false
set_option linter.all false
set_option maxRecDepth 100000
set_option maxHeartbeats 1000000
namespace DL
open PySem L2
end DL
set_option Elab.async false
set_option linter.all false
set_option maxRecDepth 100000
set_option maxHeartbeats 1000000
namespace DL
open PySem L2
/-- a text of plain signs, changed -/
def d_l_spoilt_k66 : DSp stg := fun ds (g : Nat) q _ => ∃ t : List Nat, ds = [.ob 0, .str t] ∧ t.length ≤ 1000 ∧ (∀ c ∈ t, c < 128) ∧ g + 5 ≤ 2 ^ 60 ∧ ∀ (u : List Nat) (g' : Nat), u.length ≤ 2 * t.length + 40 → (∀ c ∈ u, c < 128) → g' ≤ g + 5 → q (.str u) g'
end DL
set_option Elab.async false
set_option linter.all false
set_option maxRecDepth 100000
set_option maxHeartbeats 1000000
namespace DL
open PySem L2
theorem spl_sum : ∀ (x acc : List Nat), ((TL.spl [32] 0 acc x).map fun y : List Nat => y.length).sum + (TL.spl [32] 0 acc x).length = acc.length + x.length + 1
  | [], acc => by
    unfold TL.spl
    simp
  | c :: x, acc => by
    unfold TL.spl
    split
    · have := spl_sum x []
      rw [List.map_cons, List.sum_cons, List.length_cons, List.length_cons]
      simp only [List.length_nil] at this
      show acc.length + ((TL.spl [32] 0 [] x).map fun y : List Nat => y.length).sum + ((TL.spl [32] 0 [] x).length + 1) = acc.length + (x.length + 1) + 1
      omega
    · have := spl_sum x (acc ++ [c])
      rw [List.length_append] at this
      simp only [List.length_cons, List.length_nil] at this ⊢
      omega
theorem spl_mem : ∀ (x acc y : List Nat) (c : Nat), y ∈ TL.spl [32] 0 acc x → c ∈ y → c ∈ acc ∨ c ∈ x
  | [], acc, y, c, h, hc => by
    unfold TL.spl at h
    rw [List.mem_singleton.mp h] at hc
    exact .inl hc
  | d :: x, acc, y, c, h, hc => by
    unfold TL.spl at h
    split at h
    · rcases List.mem_cons.mp h with rfl | h
      · exact .inl hc
      · rcases spl_mem x [] y c h hc with z | z
        · cases z
        · exact .inr (List.mem_cons_of_mem _ z)
    · rcases spl_mem x (acc ++ [d]) y c h hc with z | z
      · rcases List.mem_append.mp z with z | z
        · exact .inl z
        · rw [List.mem_singleton.mp z]
          exact .inr (List.mem_cons_self ..)
      · exact .inr (List.mem_cons_of_mem _ z)
theorem sum_sub {a b : List Nat} (h : List.Sublist a b) : a.sum ≤ b.sum := by
  induction h with
  | slnil => exact Nat.le_refl _
  | cons x _ ih => rw [List.sum_cons]; omega
  | cons_cons x _ ih => rw [List.sum_cons, List.sum_cons]; omega
/-- what words joined weigh -/
def wgt (xs : List (List Nat)) : Nat := (xs.map fun y : List Nat => y.length).sum + xs.length
theorem wgt_app (a b : List (List Nat)) : wgt (a ++ b) = wgt a + wgt b := by
  unfold wgt
  rw [List.map_append, List.sum_append, List.length_append]
  omega
theorem wgt_sub {a b : List (List Nat)} (h : List.Sublist a b) : wgt a ≤ wgt b := by
  unfold wgt
  have h1 := sum_sub (h.map fun y : List Nat => y.length)
  have h2 := h.length_le
  omega
theorem wgt_spl (x : List Nat) : wgt (splL [32] x) = x.length + 1 := by
  have := spl_sum x []
  unfold wgt
  rw [this]
  simp
theorem jn_wgt (xs : List (List Nat)) : (jn [32] xs).length ≤ wgt xs := jn_len xs
theorem wErr_non {w : List Nat} : isN (wErr (.str w)) = true ↔ (1 ≤ w.length ∧ w.length ≤ 24) ∧ ∀ c ∈ w, isLt c = true := by
  constructor
  · intro h
    by_cases c1 : w = [] ∨ 24 < w.length
    · rw [wErr_str, if_pos c1] at h
      cases h
    · have h1 : 1 ≤ w.length ∧ w.length ≤ 24 := by
        have : w ≠ [] := fun z => c1 (.inl z)
        have := List.length_pos_iff.mpr this
        omega
      refine ⟨h1, fun c hc => ?_⟩
      rw [wErr_str, if_neg c1] at h
      cases e : w.findIdx? (fun c => !isLt c) with
      | none =>
        have := List.findIdx?_eq_none_iff.mp e c hc
        simpa using this
      | some i => rw [e] at h; cases h
  · rintro ⟨h1, h2⟩
    rw [wErr_ok (fun z => by
      rcases z with z | z
      · rw [z] at h1
        exact absurd h1.1 (by decide)
      · omega) h2]
    rfl
theorem beh_err {n : List Nat} {v d : D} (h : behW n v = .inr d) : d = .non ∨ d = .int 0 := by
  cases v with
  | str x =>
    have h : (match splL [32] x with | h :: t => if h = n then Sum.inl t else Sum.inr (D.int 0) | [] => Sum.inr (D.int 0)) = Sum.inr d := h
    split at h
    · split at h
      · cases h
      · cases h
        exact .inr rfl
    · cases h
      exact .inr rfl
  | _ => cases h; exact .inl rfl
theorem pw_out (v : D) : (∃ w, pwW v = .inl w ∧ w.length ≤ 24 ∧ ∀ c ∈ w, isLt c = true) ∨ ∃ d, pwW v = .inr d ∧ (d = .non ∨ ∃ i : Nat, i < 3 ∧ d = .int (i : Int)) := by
  unfold pwW
  cases hb : behW tWord v with
  | inr d =>
    right
    refine ⟨d, rfl, ?_⟩
    rcases beh_err hb with h | h
    · exact .inl h
    · exact .inr ⟨0, by decide, h⟩
  | inl t =>
    cases t with
    | nil => exact .inr ⟨_, rfl, .inr ⟨1, by decide, rfl⟩⟩
    | cons w t =>
      by_cases c : isN (wErr (.str w)) = true
      · by_cases c2 : t = []
        · left
          refine ⟨w, ?_, (wErr_non.mp c).1.2, (wErr_non.mp c).2⟩
          show (if isN (wErr (.str w)) = true then (if t = [] then Sum.inl w else Sum.inr (D.int 2)) else Sum.inr (D.int 1)) = _
          rw [if_pos c, if_pos c2]
        · right
          refine ⟨.int 2, ?_, .inr ⟨2, by decide, rfl⟩⟩
          show (if isN (wErr (.str w)) = true then (if t = [] then Sum.inl w else Sum.inr (D.int 2)) else Sum.inr (D.int 1)) = _
          rw [if_pos c, if_neg c2]
      · right
        refine ⟨.int 1, ?_, .inr ⟨1, by decide, rfl⟩⟩
        show (if isN (wErr (.str w)) = true then (if t = [] then Sum.inl w else Sum.inr (D.int 2)) else Sum.inr (D.int 1)) = _
        rw [if_neg c]
/-- a value to be read as a text, whose shown text is not too long -/
def txO (v : D) : Prop := txV v ∧ RB 100000 3 v
theorem txO_str {x : List Nat} (h : ∀ c ∈ x, c < 128) (hl : x.length ≤ 9000) : txO (.str x) :=
  ⟨⟨⟨_, rfl⟩, fun y e => by cases e; exact hl⟩, (rb_str fun c hc => Nat.lt_trans (h c hc) (by decide)).mono (by omega) (by decide)⟩
theorem txO_lst {x : List Nat} (h : ∀ c ∈ x, c < 128) (hl : x.length ≤ 9000) : txO (.lst [.str x]) :=
  ⟨⟨⟨_, rfl⟩, fun y e => by cases e⟩, (rb_lst (n := 10 * x.length + 2) (k := 0) (ds := [.str x]) (all_cons (rb_str fun c hc => Nat.lt_trans (h c hc) (by decide)) all_nil)).mono (by simp; omega) (by decide)⟩
theorem oddF_short : ∀ v ∈ oddF, ∀ x, v = .str x → x.length ≤ 9000 := by
  unfold oddF
  simp
theorem txO_odd {v : D} (h : v ∈ oddF) : txO v := ⟨⟨(oddF_fine v h).1, oddF_short v h⟩, (oddF_fine v h).2.mono (by decide) (by decide)⟩
end DL
set_option Elab.async false
set_option linter.all false
set_option maxRecDepth 100000
set_option maxHeartbeats 4000000
namespace DL
open PySem L2
/-- a command that may be run -/
def Cm.fit : Cm → Prop
  | .ed a => a.sh ∧ a.okS
  | .qy y => match y with | .look v => v.length ≤ 190 | .rank n => n < 1000 | _ => True
end DL
set_option Elab.async false
set_option linter.all false
set_option maxRecDepth 100000
set_option maxHeartbeats 1000000
namespace DL
open PySem L2
/-- what is said of a row of simple words that never rises -/
structure Fall (xs : List (List Nat)) : Prop where
  ne : ∀ x ∈ xs, x ≠ []
  sim : ∀ x ∈ xs, simpW x = true
  fal : xs.Pairwise fun a b => ¬ a < b
theorem Fall.tail {x : List Nat} {xs : List (List Nat)} (h : Fall (x :: xs)) : Fall xs :=
  ⟨fun y hy => h.ne y (List.mem_cons_of_mem _ hy), fun y hy => h.sim y (List.mem_cons_of_mem _ hy), (List.pairwise_cons.mp h.fal).2⟩
end DL
set_option Elab.async false
set_option linter.all false
set_option maxRecDepth 100000
set_option maxHeartbeats 1000000
namespace DL
end DL
set_option Elab.async false
set_option linter.all false
set_option maxRecDepth 100000
set_option maxHeartbeats 1000000
namespace DL
end DL
set_option Elab.async false
set_option linter.all false
set_option maxRecDepth 100000
set_option maxHeartbeats 1000000
namespace DL
end DL
set_option Elab.async false
set_option linter.all false
set_option maxRecDepth 100000
set_option maxHeartbeats 1000000
namespace DL
open PySem L2
end DL
set_option Elab.async false
set_option linter.all false
set_option maxRecDepth 100000
set_option maxHeartbeats 1000000
namespace DL
open PySem L2
abbrev xBadText (d : D) : Exn := ⟨"BadText", ["index"], [d]⟩
def nameR : List Str := ["BadText", "NotSimple"]
def exOkR (x : Exn) : Prop := (∃ d, x = xBadText d) ∨ ∃ w, x = xNotSimple w
def d_l_nameR : DSp stg := fun ds g q _ => ∃ x : Exn, ds = [.exn x.cls x.ns x.ds] ∧ x.cls ∈ nameR ∧ q (.str (clsT x.cls)) g
def d_l_fieldR : DSp stg := fun ds g q _ => ∃ x : Exn, ds = [.exn x.cls x.ns x.ds] ∧ exOkR x ∧ q (exF x) g
/-- a desk of class c, read from a text -/
def readG (c : Str) (v : D) (q : D → Gq → Prop) (ex : Exn → Gq → Prop) (g : Gq) : Prop := match pwW v with
  | .inr d => ex (xBadText d) g
  | .inl w => match accX (smpC c) w with
    | .inl u => q (.ob g.S.length) ⟨g.n, g.S ++ [(newDk c u).ob, .aux]⟩
    | .inr x => ex x ⟨g.n, g.S ++ [.ins c [], .aux]⟩
theorem readG_mono {c : Str} {v : D} {q q' : D → Gq → Prop} {ex ex' : Exn → Gq → Prop} {g : Gq} (hq : ∀ d g, q d g → q' d g) (hx : ∀ x g, ex x g → ex' x g) (h : readG c v q ex g) : readG c v q' ex' g := by
  unfold readG at h ⊢
  cases e : pwW v with
  | inr d =>
    rw [e] at h
    exact hx _ _ h
  | inl w =>
    rw [e] at h
    dsimp only at h ⊢
    cases e2 : accX (smpC c) w with
    | inl u =>
      rw [e2] at h
      exact hq _ _ h
    | inr x =>
      rw [e2] at h
      exact hx _ _ h
def d_Desk_read : DSp stq := fun ds g q ex => ∃ (c : Str) (v : D), ds = [.cl c, v] ∧ clsOk c ∧ txV v ∧ obsD v = true ∧ readG c v q ex g
def d_l_read : DSp stq := fun ds g q ex => ∃ (n : Nat) (v : D), ds = [.int (n : Int), v] ∧ n < 4 ∧ txV v ∧ obsD v = true ∧ readG (kCls n) v q ex g
/-- versions and words -/
def walkD (st : List (List Nat)) : List D := enL 0 (txts st)
def d_Desk_walk : GSpD stq := fun ds g q => ∃ (k : Nat) (d : Dk), ds = [.ob k] ∧ deskAt g k d ∧ d.st.length ≤ 1000 ∧ q (walkD d.st) g
def mod1 (w : List Nat) : D := .lst [.lst [.str w], .lst [], .bl false]
def d_l_due_seenV : DSp stg := fun ds g q _ => ∃ w : List Nat, ds = [mod1 w] ∧ w.length ≤ 1000 ∧ repOk (seenD w []) ∧ q (.str (rep (seenD w []))) g
/-- what is told of a reading -/
def toldR (n : Nat) (v : D) : D := match pwW v with
  | .inr d => exD (xBadText d)
  | .inl w => match accX (smpC (kCls n)) w with
    | .inr x => exD x
    | .inl u => .lst [.str (rep (seenD u [])), .non, .lst [.tup [.int 0, .str u]], .lst [.bl true, .bl (n == 1 || n == 3), .bl (n == 2 || n == 3)], .tup []]
def d_l_expected : DSp stg := fun ds g q _ => ∃ (n : Nat) (v : D), ds = [.int (n : Int), v] ∧ n < 4 ∧ txV v ∧ q (toldR n v) g
def d_l_toldR : DSp stq := fun ds g q _ => ∃ (n : Nat) (v : D), ds = [.int (n : Int), v] ∧ n < 4 ∧ txV v ∧ obsD v = true ∧ ∀ T, q (toldR n v) ⟨g.n, g.S ++ T⟩
end DL
set_option Elab.async false
set_option linter.all false
set_option maxRecDepth 100000
set_option maxHeartbeats 1000000
namespace DL
open PySem L2
def chS (s : Str) : Prop := ∀ c ∈ s.cps.toList, c < 1114112
theorem chr_lt (c : Char) : c.toNat < 1114112 := by
  rcases c.valid with h | ⟨_, h⟩
  · exact Nat.lt_of_lt_of_le h (by decide)
  · exact h
theorem chS_of (s : String) : chS (Str.ofString s) := by
  rw [Str.ofString_eq_toList]
  intro c hc
  simp only [List.mem_map] at hc
  obtain ⟨d, _, rfl⟩ := hc
  exact chr_lt d
theorem chS_app {a b : Str} (ha : chS a) (hb : chS b) : chS (a ++ b) := by
  intro c hc
  have hc : c ∈ (a.cps ++ b.cps).toList := hc
  rw [Array.toList_append] at hc
  rcases List.mem_append.mp hc with h | h
  · exact ha c h
  · exact hb c h
theorem chS_rc {q c : Nat} (hq : q < 1114112) (hc : c < 1114112) : ∀ x ∈ Builtin.Str.reprChar q c, x < 1114112 := by
  have hx : ∀ w, ∀ x ∈ (List.replicate (w - ((Nat.toDigits 16 c).map Char.toNat).length) 48 ++ (Nat.toDigits 16 c).map Char.toNat), x < 1114112 := fun w x h => by
    rcases List.mem_append.mp h with h | h
    · rw [(List.mem_replicate.mp h).2]; decide
    · obtain ⟨d, _, rfl⟩ := List.mem_map.mp h
      exact chr_lt d
  have two : ∀ {a b : Nat}, a < 1114112 → b < 1114112 → ∀ x ∈ [a, b], x < 1114112 := fun ha hb x h => by
    simp only [List.mem_cons, List.not_mem_nil, or_false] at h
    rcases h with rfl | rfl <;> assumption
  have both : ∀ {w : Nat} {a b : Nat}, a < 1114112 → b < 1114112 → ∀ x ∈ [a, b] ++ (List.replicate (w - ((Nat.toDigits 16 c).map Char.toNat).length) 48 ++ (Nat.toDigits 16 c).map Char.toNat), x < 1114112 := fun {w a b} ha hb x h => by
    rcases List.mem_append.mp h with h | h
    · exact two ha hb x h
    · exact hx w x h
  unfold Builtin.Str.reprChar
  dsimp only
  repeat' split
  · exact two (by decide) hc
  · exact two (by decide) (by decide)
  · exact two (by decide) (by decide)
  · exact two (by decide) (by decide)
  · intro x h
    rw [List.mem_singleton.mp h]; exact hc
  · exact both (by decide) (by decide)
  · exact both (by decide) (by decide)
  · exact both (by decide) (by decide)
theorem chS_repr {x : Str} (h : chS x) : chS (reprText x) := by
  have hq : reprQuote x < 1114112 := by unfold reprQuote; split <;> decide
  have key : ∀ (l : List Nat) (acc : Array Nat), (∀ c ∈ l, c < 1114112) → (∀ c ∈ acc.toList, c < 1114112) → ∀ c ∈ (l.foldl (fun out c => out ++ (Builtin.Str.reprChar (reprQuote x) c).toArray) acc).toList, c < 1114112 := by
    intro l
    induction l with
    | nil => intro acc _ ha c hc; exact ha c hc
    | cons d r ih =>
      intro acc hl ha
      rw [List.foldl_cons]
      refine ih _ (fun c hc => hl c (List.mem_cons_of_mem _ hc)) fun c hc => ?_
      rw [Array.toList_append] at hc
      rcases List.mem_append.mp hc with z | z
      · exact ha c z
      · exact chS_rc hq (hl d List.mem_cons_self) c z
  intro c hc
  have hc : c ∈ ((x.cps.foldl (fun out c => out ++ (Builtin.Str.reprChar (reprQuote x) c).toArray) #[reprQuote x]).push (reprQuote x)).toList := hc
  rw [Array.toList_push, ← Array.foldl_toList] at hc
  rcases List.mem_append.mp hc with z | z
  · exact key x.cps.toList #[reprQuote x] h (fun c hc => by rw [List.mem_singleton.mp hc]; exact hq) c z
  · rw [List.mem_singleton.mp z]; exact hq
theorem chS_from : ∀ (ts : List Str) (k : Nat) (acc : Str), chS acc → (∀ t ∈ ts, chS t) → chS (textFrom k acc ts)
  | [], k, acc, h, _ => h
  | t :: r, k, acc, h, ht => by
    refine chS_from r (k + 1) _ (chS_app (chS_app h ?_) (ht t List.mem_cons_self)) fun u hu => ht u (List.mem_cons_of_mem _ hu)
    exact chS_of _
theorem chS_list {ts : List Str} (h : ∀ t ∈ ts, chS t) : chS (listText ts) := chS_app (chS_from ts 0 _ (chS_of _) h) (chS_of _)
theorem chS_join {sep : Str} (hs : chS sep) : ∀ {ts : List Str}, (∀ t ∈ ts, chS t) → chS (Str.join sep ts)
  | [], _ => fun c hc => by cases hc
  | [x], h => h x List.mem_cons_self
  | x :: y :: r, h => chS_app (chS_app (h x List.mem_cons_self) hs) (chS_join hs fun t ht => h t (List.mem_cons_of_mem _ ht))
theorem chS_tup {ts : List Str} (h : ∀ t ∈ ts, chS t) : chS (tupleText ts) := chS_app (chS_app (chS_of _) (chS_join (chS_of _) h)) (chS_of _)
/-- a datum whose shown text has signs alone -/
def chD (d : D) : Prop := chS (py d).shown
theorem chD_rep {d : D} (h : chD d) : ∀ c ∈ rep d, c < 1114112 := h
theorem chA : ∀ {ds : List D}, (∀ d ∈ ds, chD d) → ∀ t ∈ PyData.shownAll (pyA ds), chS t
  | [], _, t, h => by cases h
  | d :: ds, hd, t, h => by
    have h : t ∈ (py d).shown :: PyData.shownAll (pyA ds) := h
    rcases List.mem_cons.mp h with rfl | h
    · exact hd d List.mem_cons_self
    · exact chA (fun x hx => hd x (List.mem_cons_of_mem _ hx)) t h
theorem chD_int (i : Int) : chD (.int i) := chS_of _
theorem chD_str {x : List Nat} (h : ∀ c ∈ x, c < 1114112) : chD (.str x) := chS_repr (x := S x) (by
  intro c hc
  rw [S_list] at hc
  exact h c hc)
theorem chD_lst {ds : List D} (h : ∀ d ∈ ds, chD d) : chD (.lst ds) := by
  unfold chD
  simp only [py, PyData.shown]
  exact chS_list (chA h)
theorem chD_tup {ds : List D} (h : ∀ d ∈ ds, chD d) : chD (.tup ds) := by
  unfold chD
  simp only [py, PyData.shown]
  exact chS_tup (chA h)
theorem chD_nats (o : List Nat) : chD (.tup (nats o)) := chD_tup fun d hd => by
  obtain ⟨i, _, rfl⟩ := List.mem_map.mp hd
  exact chD_int _
end DL
set_option Elab.async false
set_option linter.all false
set_option maxRecDepth 100000
set_option maxHeartbeats 4000000
namespace LW
open PySem L2 DL
def topS (i : Nat) : Stmt := PySem.Challenge.pw_tailranks_k83_desks_read.main.body.getD i (.Pass ⟨0, 0, 0, 0⟩)
abbrev sStream : Stmt := topS 48
abbrev sDraw : Stmt := topS 49
theorem scStream : FnScope ["_law_script", "_law_cells", "_law_cell"] ["_law_script"] (defScope sStream) := ⟨rfl, rfl, rfl, by decide +kernel, rfl, by decide +kernel, by decide +kernel⟩
section
variable {P : Program} {w : World} {K : PySem.W.Frag} {mg : Str → Option Value} {base : Heap}
theorem ok_stream {f : Addr} {fd : FuncData} (F : Fun K "_law_stream" "_law_stream" sStream f fd) (ml : mg "len" = none) (ma : mg "abs" = none) : FnG P w K mg base 1 f fd ["_law_script"] (spStream K) := by
  refine fng_of F scStream (fun vs H Q E h => ?_) (fun cdv A outer s H vs Q E hr hgd h => ?_)
  · obtain ⟨a, ns, rfl, _⟩ := h
    rfl
  · obtain ⟨a, ns, rfl, hS, hlen, hQ⟩ := h
    refine ⟨_, PSs.nox (pss_cons (ps_setLc (i := 1) (own := [("_law_cell", 2)]) (g := gName 2) (tt := tYes) rfl scStream.nd rfl rfl (sw_true rfl rfl rfl (by decide +kernel)) (pi_list (pv 0))
        (blkOk_by (own := [("_law_cell", 2)]) (N := ["_law_script", "_law_cells", "_law_cell"]) (sc := defScope sStream) (by decide +kernel)) (fun _ _ _ _ _ => pg_name (i := 2) scStream.nd rfl (Or.inl rfl)) (fun _ _ _ _ _ => pts_nil)
        (fun _ _ _ _ _ => pe_callB call_abs (by rfl) ma (by decide +kernel) (pa_cons (pv 2) pa_nil)))
      (pss_one (ps_ret (pe_lst (pa_cons (pe_lc (own := [("_law_cell", 2)]) (g := gName 2) (tt := _) rfl scStream.nd (pi_list (pv 1))
          (blkOk_by (own := [("_law_cell", 2)]) (N := ["_law_script", "_law_cells", "_law_cell"]) (sc := defScope sStream) (by decide +kernel)) (fun _ _ _ _ _ => pg_name (i := 2) scStream.nd rfl (Or.inl rfl))
          (fun _ _ _ _ _ => pts_one (pt_cmpR op_ge (pv 2) (pe_op op_pow pe_int pe_int) (nomark _))) (fun _ _ _ _ _ => pv 2))
        (pa_cons (pe_op op_cat (pv 1) (pe_lst (pa_cons (pe_op op_add (pe_callB call_len_seq (by rfl) ml PySem.boot_len (pa_cons (pv 1) pa_nil)) pe_int) pa_nil))) (pa_cons pe_int pa_nil))))))), ?_⟩
    -- _law_cells
    refine ⟨.ref a, rfl, a, rfl, ⟨_, hS⟩, fun D hD => ?_⟩
    have hAD : ∀ o, H a = some o → a ≠ D := fun o e => ne_of_none e hD
    refine lc_list (K := K) (a := a) (xs := ns.map V.int) (fun i H1 => Same H H1 ∧ H1 D = some (.lst ((ns.take i).map fun n => V.int (if n < 0 then -n else n)))) ⟨same_new hD, upd_same⟩ (fun i H1 _ h => h.1.seq hS) (fun i x H1 hx h => ?_) (fun H1 h => ?_)
    · obtain ⟨j, rfl, hj⟩ := map_int_get hx
      refine ⟨rfl, iteT (B := Same H H1 ∧ H1 D = some (.lst ((ns.take (i + 1)).map fun n => V.int (if n < 0 then -n else n)))) ?_⟩
      refine ⟨.int j, rfl, j, rfl, _, h.2, ?_, ?_, ?_⟩
      · rw [List.length_map, List.length_take]
        exact Nat.lt_of_le_of_lt (Nat.min_le_right _ _) (small1000 (by omega))
      · intro b o e
        rw [upd_ne (show b ≠ D from ne_of_none e hD)]
        exact h.1 _ _ e
      · rw [upd_same, List.take_add_one, hj, List.map_append]
        rfl
    · obtain ⟨sm, hD1⟩ := h
      rw [List.length_map, List.take_length] at hD1
      generalize hcl : ns.map (fun n => if n < 0 then -n else n) = cells at hD1
      have hD2 : H1 D = some (.lst (cells.map V.int)) := by rw [hD1, ← hcl, List.map_map]; rfl
      have clen : cells.length = ns.length := by rw [← hcl, List.length_map]
      -- the large cells
      refine ⟨.ref D, rfl, D, rfl, ⟨_, .of hD2⟩, fun D2 hD3 => ?_⟩
      have dne : D ≠ D2 := ne_of_none hD2 hD3
      refine lc_list (K := K) (a := D) (xs := cells.map V.int) (fun i H2 => Same H1 H2 ∧ ∃ L : List Int, L.length ≤ i ∧ H2 D2 = some (.lst (L.map V.int))) ⟨same_new hD3, [], Nat.le_refl _, upd_same⟩ (fun i H2 _ h => .of (h.1 _ _ hD2)) (fun i x H2 hx h => ?_) (fun H2 h => ?_)
      · obtain ⟨sm2, L, hl, hL⟩ := h
        obtain ⟨j, rfl, hj⟩ := map_int_get hx
        have hi : i < cells.length := (List.getElem?_eq_some_iff.mp hj).1
        refine ⟨rfl, .int j, rfl, 10, 18, rfl, rfl, ⟨by decide, by decide, by decide⟩, j, _, rfl, rfl, _, rfl, ite2 (fun _ => ?_) (fun _ => ?_)⟩
        · refine ⟨.int j, rfl, _, hL, ?_, ?_, L ++ [j], ?_, ?_⟩
          · rw [List.length_map]
            exact small1000 (by omega)
          · intro b o e
            rw [upd_ne (show b ≠ D2 from ne_of_none e hD3)]
            exact sm2 _ _ e
          · rw [List.length_append, List.length_singleton]
            omega
          · rw [upd_same, List.map_append]
            rfl
        · exact ⟨sm2, L, by omega, hL⟩
      · obtain ⟨sm2, L, hl, hL⟩ := h
        have hD4 := sm2 _ _ hD2
        -- all cells
        refine ⟨.ref D, rfl, .ref D, rfl, D, _, rfl, .inl (.of hD4), _, 23, rfl, rfl, by show 1 ≤ sizeLine; decide, fun p np => ?_⟩
        have pD : D ≠ p := ne_of_none hD4 np
        have pD2 : D2 ≠ p := ne_of_none hL np
        refine ⟨D, p, _, _, rfl, rfl, (upd_ne pD).trans hD4, upd_same, ?_, fun c nc => ?_⟩
        · rw [List.length_map, clen]
          exact Nat.le_of_lt (small1000 (by show ns.length + 1 ≤ 1000; omega))
        have cD : D ≠ c := ne_of_none ((upd_ne pD).trans hD4) nc
        have cD2 : D2 ≠ c := ne_of_none ((upd_ne pD2).trans hL) nc
        have cp : p ≠ c := ne_of_none (o := .lst [V.int (((cells.map V.int).length : Nat) + 23)]) upd_same nc
        refine ⟨by show 3 ≤ sizeLine; decide, fun q nq => ?_⟩
        have sm3 := ((sm.trans sm2).trans (same_new (o := .lst [V.int (((cells.map V.int).length : Nat) + 23)]) np)).trans (same_new (o := .lst (cells.map V.int ++ [V.int (((cells.map V.int).length : Nat) + 23)])) nc)
        have hLc := (upd_ne (o := .lst (cells.map V.int ++ [V.int (((cells.map V.int).length : Nat) + 23)])) cD2).trans ((upd_ne (o := .lst [V.int (((cells.map V.int).length : Nat) + 23)]) pD2).trans hL)
        have q2 : D2 ≠ q := ne_of_none hLc nq
        have qc : c ≠ q := ne_of_none (o := .lst (cells.map V.int ++ [V.int (((cells.map V.int).length : Nat) + 23)])) upd_same nq
        refine hQ _ q D2 c L (cells ++ [(((cells.map V.int).length : Nat) : Int) + 23]) (sm3.trans (same_new nq)) (sm3.free nq) (sm.free hD3) ((sm.trans sm2).free ((same_new np).free nc)) (Ne.symm q2) (Ne.symm qc) cD2 upd_same ((upd_ne q2).trans hLc) ((upd_ne qc).trans ?_) (by simp)
        rw [upd_same, List.map_append]
        rfl
end
theorem scDraw : FnScope ["_law_stream_here", "_law_many", "_law_rest", "_law_turn", "_law_cell", "_law_mixed"] ["_law_stream_here", "_law_many"] (defScope sDraw) := ⟨rfl, rfl, rfl, by decide +kernel, rfl, by decide +kernel, by decide +kernel⟩
section
variable {P : Program} {w : World} {K : PySem.W.Frag} {mg : Str → Option Value} {base : Heap}
theorem ok_draw {f : Addr} {fd : FuncData} (F : Fun K "_law_draw" "_law_draw" sDraw f fd) (ml : mg "len" = none) : FnG P w K mg base 1 f fd ["_law_stream_here", "_law_many"] (liftSp K mg 2 dDraw) := by
  refine fng_of F scDraw (fun vs H Q E h => ?_) (fun cdv A outer s H vs Q E hr hgd h => ?_)
  · obtain ⟨W, ds, q, ex, _, _, r, hl, _⟩ := h
    rw [r.length, hl]
    rfl
  · obtain ⟨W, ds, q, ex, rfl, ok, r, hl, ⟨many, rfl, hm0, hm1, hg, hq⟩, hQ, hE⟩ := h
    have hml : many.natAbs.log2 < 9000 := Nat.lt_of_lt_of_le ((Nat.log2_lt (k := 60) (by omega)).mpr (by omega)) (by decide)
    have hu : (A.deeper (PyProof.Rows.envOfC "_law_draw" (defScope sDraw) s.heap.objs.size f cdv)).units + 64 < cLine := hr.units
    refine ⟨_, PSs.nox (pss_cons (ps_while PassesOwn.never (pt_cmpR (op_neD hu) (pe_ix ix_list (pv 0) pe_int (fun _ _ => rfl)) (pe_lst pa_nil) (nomark _))
        (pss_cons (ps_set (i := 2) scDraw.nd rfl (.inl rfl) (pe_ix ix_list (pe_ix ix_list (pv 0) pe_int (fun _ _ => rfl)) pe_int (fun _ _ => rfl)))
        (pss_cons (ps_if (pt_cmpR op_gt (pv 2) pe_int (nomark _))
          (pss_cons (ps_asg (pe_op op_fdivW (pv 2) (pv 1)) (pg_sub (pe_ix ix_list (pv 0) pe_int (fun _ _ => rfl)) pe_int set_list)) (pss_one (ps_ret (pe_op op_mod (pv 2) (pv 1))))) pss_nil)
        (pss_one (ps_expr (pe_bm PySem.F.plainAttrs_list PySem.F.slot_list_pop PySem.F.type_list_pop mt_popAt (pe_ix ix_list (pv 0) pe_int (fun _ _ => rfl)) (pa_cons pe_int pa_nil)))))))
      (pss_cons (ps_set (i := 3) scDraw.nd rfl (.inl rfl) (pe_op op_add (pe_ix ix_list (pv 0) pe_int (fun _ _ => rfl)) pe_int))
      (pss_cons (ps_asg (pv 3) (pg_sub (pv 0) pe_int set_list))
      (pss_cons (ps_set (i := 4) scDraw.nd rfl (.inl rfl) (pe_op op_mod (pe_ix ix_list (pe_ix ix_list (pv 0) pe_int (fun _ _ => rfl)) (pe_op op_mod (pv 3) (pe_callB call_len_seq (by rfl) ml PySem.boot_len (pa_cons (pe_ix ix_list (pv 0) pe_int (fun _ _ => rfl)) pa_nil))) (fun _ _ => rfl)) pe_int))
      (pss_cons (ps_set (i := 5) scDraw.nd rfl (.inl rfl) (pe_op op_mod (pe_op op_add (pe_op op_add (pe_op op_mul (pv 4) (pe_op op_add pe_int (pe_op op_mul pe_int (pv 3)))) (pe_op op_mul (pe_op op_mul pe_int (pv 3)) (pv 3))) pe_int) pe_int))
      (pss_one (ps_ret (pe_op op_mod (pe_op op_fdiv (pe_op op_mod (pe_op op_mul (pv 5) (pv 5)) pe_int) pe_int) (pv 1))))))))), ?_⟩
    obtain ⟨a, b, c, L, cs, m, h1, h2, h3, h4, h5, h6, h7, h8, h9⟩ := ok.gh.2 (Nat.le_trans (Nat.le_succ _) hg)
    obtain ⟨va, vm, rfl, ra, rm⟩ : ∃ va vm, vs = [va, vm] ∧ Rp K W.F W.R va (.ob 0) ∧ Rp K W.F W.R vm (.int many) := by
      cases r with
      | cons x t =>
        cases t with
        | cons y t =>
          cases t
          exact ⟨_, _, rfl, x, y⟩
    cases rm
    obtain rfl : va = .ref a := by
      cases ra with
      | ob e => rw [h1] at e; cases e; rfl
    have d0 : DrawAt K W W a b c L cs m := ⟨Go.refl W, ok, rfl, h1, h2, h3, h4, h5, h6, h7, h8, h9⟩
    refine ⟨fun n σ H => ∃ (W1 : Wd stg) (L : List Int) (y : Option V), W1.H = H ∧ n = L.length ∧ σ = [some (.ref a), some (.int many), y, none, none, none] ∧ DrawAt K W W1 a b c L cs m, ⟨_, W, L, none, rfl, rfl, rfl, d0⟩, ?_⟩
    rintro n σ H ⟨W1, L1, y, rfl, rfl, rfl, d⟩
    -- _law_stream_here[0] != []
    refine ⟨.ref a, rfl, a, _, 0, .ref b, rfl, rfl, .of d.ha, atI_nat (j := 0) rfl, Nat.zero_le _, fun p np => ?_⟩
    have d1 := d.new (o := .lst []) np
    have e1 : Dp K (upd W1.H p (.lst [])) (.ref b) (.list (L1.map PyData.int)) := .lst (.of d1.hb) (by
      clear d1 d
      induction L1 with
      | nil => exact .nil
      | cons x r ih => exact .cons (.int x) ih)
    have sh : SeqAt.shaped (.list (L1.map PyData.int)) = true := by
      have c1 : ∀ L : List Int, PyData.canLayAll0 (L.map PyData.int) = true := fun L => by
        induction L with
        | nil => rfl
        | cons x r ih => simp [PyData.canLayAll0, PyData.canLay0, ih]
      have c2 : ∀ L : List Int, PyData.depthAll (L.map PyData.int) = 0 := fun L => by
        induction L with
        | nil => rfl
        | cons x r ih => simp [PyData.depthAll, PyData.depth, ih]
      simp [SeqAt.shaped, PyData.canLay0, PyData.depth, c1, c2]
    refine ⟨.list (L1.map PyData.int), .list [], e1, .lst (.of upd_same) .nil, sh, by decide, _, rfl, ?_⟩
    cases L1 with
    | nil =>
      refine iteF ?_
      -- _law_turn = _law_stream_here[2] + 1
      refine ⟨.ref a, rfl, a, _, 2, .int m, rfl, rfl, .of d1.ha, atI_nat (j := 2) rfl, m, 1, rfl, rfl, ?_⟩
      -- _law_stream_here[2] = _law_turn
      refine ⟨.int (m + 1), rfl, .ref a, rfl, a, _, 2, 2, rfl, rfl, d1.ha, rfl, ?_⟩
      have hra : a ∈ (W1.new p (.lst [])).R := List.mem_of_getElem? d1.r0
      have hcn : c ≠ a := fun z => by
        have := d1.ok.rf a hra
        rw [← z, d1.hc] at this
        cases this
      have hc1 := d1.ok.sub _ _ d1.hc
      have go2 : Go W ((W1.new p (.lst [])).reg a (.lst [.ref b, .ref c, .int (m + 1)]) (W.g + 1)) := d1.go.trans (Go.reg' hra)
      have ok2 : Wok K ((W1.new p (.lst [])).reg a (.lst [.ref b, .ref c, .int (m + 1)]) (W.g + 1)) := by
        refine d1.ok.reg hra ⟨d1.ok.gh.1, fun hn => ⟨a, b, c, [], cs, m + 1, d1.r0, d1.r1, d1.ne, upd_same, (upd_ne d1.ne.symm).trans d1.hb, d1.hc, by have := d1.m0; omega, ?_, d1.cs0⟩⟩
        show m + 1 ≤ ((W.g : Nat) : Int) + 1
        have := d1.mn
        exact Int.add_le_add_right this 1
      have hA : (upd (upd W1.H p (.lst [])) a (.lst [.ref b, .ref c, .int (m + 1)])) a = some (.lst [.ref b, .ref c, .int (m + 1)]) := upd_same
      have hC : (upd (upd W1.H p (.lst [])) a (.lst [.ref b, .ref c, .int (m + 1)])) c = some (.lst (cs.map V.int)) := (upd_ne hcn).trans hc1
      have hm : m + 1 ≤ 2 ^ 60 := by
        have h1 := d1.mn
        have h2 : ((W.g : Nat) : Int) + 1 ≤ 2 ^ 60 := by
          have : ((W.g + 1 : Nat) : Int) ≤ ((2 ^ 60 : Nat) : Int) := Int.ofNat_le.mpr hg
          exact this
        omega
      have hm0' := d1.m0
      have clen : 0 < ((cs.map V.int).length : Int) := by
        rw [List.length_map]
        cases cs with
        | nil => exact absurd rfl d1.cs0
        | cons x r => rw [List.length_cons]; omega
      have ilt := Int.emod_lt_of_pos (m + 1) clen
      have ige := Int.emod_nonneg (m + 1) (show ((cs.map V.int).length : Int) ≠ 0 by omega)
      obtain ⟨j, hj⟩ := Int.eq_ofNat_of_zero_le ige
      have jlt : j < cs.length := by
        rw [List.length_map] at ilt
        rw [List.length_map] at hj
        omega
      have c0 := Int.emod_nonneg cs[j] (show (2147483587 : Int) ≠ 0 by decide)
      have c1 := Int.emod_lt_of_pos cs[j] (show (0 : Int) < 2147483587 by decide)
      have e64 : (2 : Int) ^ 64 = 18446744073709551616 := by decide
      have e60 : (2 : Int) ^ 60 = 1152921504606846976 := by decide
      have hix : atI (cs.map V.int) ((m + 1) % ((cs.map V.int).length : Int)) = some (.int cs[j]) := by
        rw [hj]
        exact atI_nat (by rw [List.getElem?_map, List.getElem?_eq_getElem jlt]; rfl)
      have c2 : -(2 ^ 64) < cs[j] % 2147483587 ∧ cs[j] % 2147483587 < 2 ^ 64 := ⟨by omega, by omega⟩
      have c3 : -(2 ^ 64) < m + 1 ∧ m + 1 < 2 ^ 64 := ⟨by omega, by omega⟩
      have d64 : ∀ y : Int, -(2 ^ 64) < y % 2147483647 ∧ y % 2147483647 < 2 ^ 64 := fun y => by
        have a1 := Int.emod_nonneg y (show (2147483647 : Int) ≠ 0 by decide)
        have a2 := Int.emod_lt_of_pos y (show (0 : Int) < 2147483647 by decide)
        exact ⟨by omega, by omega⟩
      -- _law_cell
      refine ⟨.ref a, rfl, a, _, 1, .ref c, rfl, rfl, .of hA, atI_nat (j := 1) rfl, .int (m + 1), rfl, .ref a, rfl, a, _, 1, .ref c, rfl, rfl, .of hA, atI_nat (j := 1) rfl, c, cs.map V.int, rfl, .inl (.of hC), ?_⟩
      refine ⟨m + 1, _, rfl, rfl, clen, c, cs.map V.int, _, .int cs[j], rfl, rfl, .of hC, hix, ?_⟩
      refine ⟨cs[j], 2147483587, rfl, rfl, (by decide : (0 : Int) < 2147483587), ?_⟩
      -- _law_mixed
      refine ⟨.int (cs[j] % 2147483587), rfl, .int (m + 1), rfl, _, m + 1, rfl, rfl, .inl ⟨by decide, by decide⟩, _, _, rfl, rfl, cs[j] % 2147483587, _, rfl, rfl, .inl c2, ?_⟩
      refine ⟨.int (m + 1), rfl, _, m + 1, rfl, rfl, .inl ⟨by decide, by decide⟩, .int (m + 1), rfl, _, m + 1, rfl, rfl, .inr c3, _, _, rfl, rfl, _, _, rfl, rfl, _, 2147483647, rfl, rfl, (by decide : (0 : Int) < 2147483647), ?_⟩
      refine ⟨_, rfl, _, rfl, _, _, rfl, rfl, .inl (d64 _), _, 2147483629, rfl, rfl, (by decide : (0 : Int) < 2147483629), _, 16, rfl, rfl, ⟨by decide, by decide⟩, .int many, rfl, _, many, rfl, rfl, hm0, ?_⟩
      exact hQ (.int _) (.int _) _ go2 ok2 (.int _) (hq _ (Int.emod_nonneg _ (by omega)) (Int.emod_lt_of_pos _ hm0))
    | cons x L1 =>
      refine iteT ⟨fun σ H => ∃ (W1 : Wd stg) (y : Option V), W1.H = H ∧ σ = [some (.ref a), some (.int many), y, none, none, none] ∧ DrawAt K W W1 a b c L1 cs m, ?_, ?_⟩
      · rintro σ' H' ⟨W3, y3, e1, e2, e3⟩
        exact ⟨L1.length, by rw [List.length_cons]; omega, W3, L1, y3, e1, rfl, e2, e3⟩
      have ix0 : ixN ((x :: L1).map V.int).length 0 = some 0 := by
        unfold ixN
        rw [if_pos (by decide), if_pos (by rw [List.length_map, List.length_cons]; omega)]
        rfl
      have sx0 := (ixN_seq ix0).1
      -- _law_rest = _law_stream_here[0][0]
      refine ⟨.ref a, rfl, a, _, 0, .ref b, rfl, rfl, .of d1.ha, atI_nat (j := 0) rfl, b, _, 0, .int x, rfl, rfl, .of d1.hb, atI_nat (j := 0) rfl, ?_⟩
      refine ⟨.int x, rfl, x, 0, rfl, rfl, _, rfl, ite2 (fun hx => ?_) (fun hx => ?_)⟩
      · -- _law_stream_here[0][0] = _law_rest // _law_many
        refine ⟨.int x, rfl, .int many, rfl, x, many, rfl, rfl, ⟨hm0, hml⟩, .ref a, rfl, a, _, 0, .ref b, rfl, rfl, .of d1.ha, atI_nat (j := 0) rfl, b, _, 0, 0, rfl, rfl, d1.hb, ix0, ?_⟩
        refine ⟨.int x, rfl, .int many, rfl, x, many, rfl, rfl, hm0, ?_⟩
        have d2 := d1.setB (x / many :: L1)
        have le1 : ((W1.new p (.lst [])).reg b (.lst ((x / many :: L1).map V.int)) (W1.new p (.lst [])).g).g ≤ W.g + 1 := by
          show W1.g ≤ W.g + 1
          rw [show W1.g = W.g from d.g]
          exact Nat.le_succ _
        exact hQ (.int (x % many)) (.int (x % many)) _ (d2.go.trans (go_more (n := W.g + 1))) (wok_more d2.ok le1) (.int _) (hq _ (Int.emod_nonneg _ (by omega)) (Int.emod_lt_of_pos _ hm0))
      · -- _law_stream_here[0].pop(0)
        refine ⟨.ref a, rfl, a, _, 0, .ref b, rfl, rfl, .of d1.ha, atI_nat (j := 0) rfl, .inl ⟨rfl, _, .of d1.hb⟩, b, _, 0, 0, .int x, rfl, rfl, d1.hb, by decide, by decide, sx0, rfl, ?_⟩
        exact ⟨_, some (.int x), rfl, rfl, d1.setB L1⟩
end
abbrev s_is_letter : Stmt := topS 23
abbrev s_word_error : Stmt := topS 24
abbrev s_is_word : Stmt := topS 25
abbrev s_tail_order : Stmt := topS 27
abbrev s_is_simple : Stmt := topS 29
abbrev s_words_behind : Stmt := topS 34
abbrev s_parse_word : Stmt := topS 35
abbrev s_check_word : Stmt := topS 38
abbrev s_l_pick : Stmt := topS 50
abbrev s_l_odd : Stmt := topS 51
abbrev s_l_word : Stmt := topS 52
abbrev s_l_order : Stmt := topS 53
abbrev s_l_is_letter : Stmt := topS 54
abbrev s_l_is_simple : Stmt := topS 55
abbrev s_l_name : Stmt := topS 56
abbrev s_l_field : Stmt := topS 57
abbrev s_l_seen : Stmt := topS 58
abbrev s_l_due_seen : Stmt := topS 59
abbrev s_l_start : Stmt := topS 60
abbrev s_l_spoilt : Stmt := topS 61
abbrev s_l_read : Stmt := topS 62
abbrev s_l_told : Stmt := topS 63
abbrev s_l_expected : Stmt := topS 64
abbrev s_law : Stmt := topS 65
abbrev s_Desk_init : Stmt := (clsBody (topS 43)).getD 2 (.Pass ⟨0, 0, 0, 0⟩)
abbrev s_Desk_read : Stmt := (clsBody (topS 43)).getD 3 (.Pass ⟨0, 0, 0, 0⟩)
abbrev s_Desk_word : Stmt := (clsBody (topS 43)).getD 5 (.Pass ⟨0, 0, 0, 0⟩)
abbrev s_Desk_order : Stmt := (clsBody (topS 43)).getD 6 (.Pass ⟨0, 0, 0, 0⟩)
abbrev s_Desk_version : Stmt := (clsBody (topS 43)).getD 7 (.Pass ⟨0, 0, 0, 0⟩)
abbrev s_Desk_pattern : Stmt := (clsBody (topS 43)).getD 8 (.Pass ⟨0, 0, 0, 0⟩)
abbrev s_Desk_accept : Stmt := (clsBody (topS 43)).getD 12 (.Pass ⟨0, 0, 0, 0⟩)
abbrev s_Desk_edits : Stmt := (clsBody (topS 43)).getD 24 (.Pass ⟨0, 0, 0, 0⟩)
abbrev s_Desk_walk : Stmt := (clsBody (topS 43)).getD 25 (.Pass ⟨0, 0, 0, 0⟩)
abbrev s_Desk_len : Stmt := (clsBody (topS 43)).getD 28 (.Pass ⟨0, 0, 0, 0⟩)
abbrev s_Desk_str : Stmt := (clsBody (topS 43)).getD 29 (.Pass ⟨0, 0, 0, 0⟩)
abbrev s_SimpleDesk_accept : Stmt := (clsBody (topS 44)).getD 0 (.Pass ⟨0, 0, 0, 0⟩)
abbrev s_LoggedDesk_init : Stmt := (clsBody (topS 45)).getD 0 (.Pass ⟨0, 0, 0, 0⟩)
abbrev s_LoggedDesk_log : Stmt := (clsBody (topS 45)).getD 1 (.Pass ⟨0, 0, 0, 0⟩)
def T_str : MTab := [("Desk", d_Desk_str), ("SimpleDesk", d_Desk_str), ("LoggedDesk", d_Desk_str), ("LoggedSimpleDesk", d_Desk_str)]
def T_len : MTab := [("Desk", d_Desk_len), ("SimpleDesk", d_Desk_len), ("LoggedDesk", d_Desk_len), ("LoggedSimpleDesk", d_Desk_len)]
def T_edits : MTab := [("Desk", d_Desk_edits), ("SimpleDesk", d_Desk_edits), ("LoggedDesk", d_Desk_edits), ("LoggedSimpleDesk", d_Desk_edits)]
def T_version : MTab := [("Desk", d_Desk_version), ("SimpleDesk", d_Desk_version), ("LoggedDesk", d_Desk_version), ("LoggedSimpleDesk", d_Desk_version)]
def T_order : MTab := [("Desk", d_Desk_order), ("SimpleDesk", d_Desk_order), ("LoggedDesk", d_Desk_order), ("LoggedSimpleDesk", d_Desk_order)]
def T_word : MTab := [("Desk", d_Desk_word), ("SimpleDesk", d_Desk_word), ("LoggedDesk", d_Desk_word), ("LoggedSimpleDesk", d_Desk_word)]
def TC_read : MTab := [("Desk", d_Desk_read), ("SimpleDesk", d_Desk_read), ("LoggedDesk", d_Desk_read), ("LoggedSimpleDesk", d_Desk_read)]
def T_log : MTab := [("LoggedDesk", d_LoggedDesk_log), ("LoggedSimpleDesk", d_LoggedDesk_log)]
def TG_walk : GTab := [("Desk", d_Desk_walk), ("SimpleDesk", d_Desk_walk), ("LoggedDesk", d_Desk_walk), ("LoggedSimpleDesk", d_Desk_walk)]
def T_pattern : MTab := [("Desk", d_Desk_pattern), ("SimpleDesk", d_Desk_pattern), ("LoggedDesk", d_Desk_pattern), ("LoggedSimpleDesk", d_Desk_pattern)]
def T_accept : MTab := [("Desk", d_Desk_accept), ("SimpleDesk", d_SimpleDesk_accept), ("LoggedDesk", d_Desk_accept), ("LoggedSimpleDesk", d_SimpleDesk_accept)]
def TV_init : MTab := [("Desk", d_Desk_init), ("SimpleDesk", d_Desk_init), ("LoggedDesk", d_LoggedDesk_init), ("LoggedSimpleDesk", d_LoggedDesk_init)]
def TU_LoggedDesk_init : MTab := [("LoggedDesk", d_Desk_init), ("LoggedSimpleDesk", d_Desk_init)]
theorem sc_is_letter : FnScope ["value"] ["value"] (defScope s_is_letter) := ⟨rfl, rfl, rfl, by decide +kernel, rfl, by decide +kernel, by decide +kernel⟩
def w_is_letter (ex : Exn → stg.G → Prop) : SW stg :=
  (wRet (wAndV (wIsi "str" (wVar 0)) (wAndV (wBin oEq (wCB cLen (wACons (wVar 0) wANil)) (wC (.int 1))) (wBin oIn (wVar 0) (wC (.str [97, 98, 99, 100, 101, 102, 103, 104, 105, 106, 107, 108, 109, 110, 111, 112, 113, 114, 115, 116, 117, 118, 119, 120, 121, 122]))))))
theorem ok_is_letter {P : Program} {w : World} {K : PySem.W.Frag} {mg : Str → Option Value} {base : Heap} {f : Addr} {fd : FuncData} (F : Fun K "is_letter" "is_letter" s_is_letter f fd) (g : mg "is_letter" = some (.ref f)) (m_isinstance : mg "isinstance" = none) (m_len : mg "len" = none) (m_str : mg "str" = none) (c_LETTERS : GlS (mg "LETTERS") [97, 98, 99, 100, 101, 102, 103, 104, 105, 106, 107, 108, 109, 110, 111, 112, 113, 114, 115, 116, 117, 118, 119, 120, 121, 122])
    (hp : ∀ (ds : List D) (g : Nat) (q : D → Nat → Prop) (ex : Exn → Nat → Prop), ds.length = 1 → d_is_letter ds g q ex → w_is_letter ex (kEndS q) (startD ["value"] ds) g) : FnB P w K mg base 1 "is_letter" ["value"] (liftSp K mg 1 d_is_letter) :=
  fnB_of F g (fnS_of (wb := w_is_letter) F sc_is_letter (fun cdv A outer s H E W0 ex hr hgd tk => (dss_one (ds_ret (de_and (de_isi kit_str (DE.p (de_var (pv 0))) m_isinstance m_str (by decide +kernel)) (de_and (de_cmp (opd_eq hr.units) (DE.p (de_callB calld_len (by rfl) m_len (by decide +kernel) (dap_cons (DE.p (de_var (pv 0))) dap_nil))) (DE.p de_int) (nomark _)) (de_one (de_cmp opd_in (DE.p (de_var (pv 0))) (DE.p (de_glS c_LETTERS)) rfl))))))) hp) (F.binds (ps := ["value"]) fun _ _ _ _ _ _ us hl => match us, hl with | [_], _ => rfl)
theorem sc_word_error : FnScope ["value", "place", "sign"] ["value"] (defScope s_word_error) := ⟨rfl, rfl, rfl, by decide +kernel, rfl, by decide +kernel, by decide +kernel⟩
def w_word_error (ex : Exn → stg.G → Prop) : SW stg :=
  (wSeq (wIfS (wOr (wNot (wB (wIsi "str" (wVar 0)))) (wNot (wB (wChain oLe oLe (wC (.int 1)) (wCB cLen (wACons (wVar 0) wANil)) (wC (.int 24)))))) (wRet (wTup (wACons (wC .non) (wACons (wC (.str [119, 111, 114, 100])) wANil)))) wNext)
    (wSeq (wFor (wEnum (wVar 0)) (gwT 2 (gwCons (gwN 1) (gwCons (gwN 2) gwNil))) (wIfS (wNot (wB (wCallB 1 d_is_letter (wACons (wVar 2) wANil) (xk ex)))) (wRet (wTup (wACons (wVar 1) (wACons (wC (.str [108, 101, 116, 116, 101, 114])) wANil)))) wNext))
    (wRet (wC .non))))
theorem ok_word_error {P : Program} {w : World} {K : PySem.W.Frag} {mg : Str → Option Value} {base : Heap} {f : Addr} {fd : FuncData} (F : Fun K "word_error" "word_error" s_word_error f fd) (g : mg "word_error" = some (.ref f)) (F_is_letter : FnB P w K mg base 1 "is_letter" ["value"] (liftSp K mg 1 d_is_letter)) (m_enumerate : mg "enumerate" = none) (m_isinstance : mg "isinstance" = none) (m_len : mg "len" = none) (m_str : mg "str" = none) (c_MAX_WORD : GlI (mg "MAX_WORD") (24))
    (hp : ∀ (ds : List D) (g : Nat) (q : D → Nat → Prop) (ex : Exn → Nat → Prop), ds.length = 1 → d_word_error ds g q ex → w_word_error ex (kEndS q) (startD ["value", "place", "sign"] ds) g) : FnB P w K mg base 2 "word_error" ["value"] (liftSp K mg 1 d_word_error) :=
  fnB_of F g (fnS_of (wb := w_word_error) F sc_word_error (fun cdv A outer s H E W0 ex hr hgd tk => (dss_cons (ds_if (DW.t (dw_or (dt_not (dt_val (de_isi kit_str (DE.p (de_var (pv 0))) m_isinstance m_str (by decide +kernel)))) (dw_or1 (dt_not (dt_chain opd_le opd_le (DE.p de_int) (DE.p (de_callB calld_len (by rfl) m_len (by decide +kernel) (dap_cons (DE.p (de_var (pv 0))) dap_nil))) (DE.p (de_glI c_MAX_WORD))))))) (dss_one (ds_ret (de_tup (da_cons de_non (da_cons (de_str [119, 111, 114, 100]) da_nil))))) dss_nil)
      (dss_cons (ds_for (passes_of rfl) rfl (di_enum m_enumerate (de_var (pv 0))) (dg_tup rfl (dgs_cons (dg_name (pg_name (i := 1) sc_word_error.nd rfl (Or.inl rfl))) (dgs_cons (dg_name (pg_name (i := 2) sc_word_error.nd rfl (Or.inl rfl))) dgs_nil))) (dss_one (ds_if (dt_not (dt_val (de_callF F_is_letter hgd hr tk (da_cons (de_var (pv 2)) da_nil)))) (dss_one (ds_ret (de_tup (da_cons (de_var (pv 1)) (da_cons (de_str [108, 101, 116, 116, 101, 114]) da_nil))))) dss_nil)))
      (dss_one (ds_ret de_non))))) hp) (F.binds (ps := ["value"]) fun _ _ _ _ _ _ us hl => match us, hl with | [_], _ => rfl)
theorem sc_is_word : FnScope ["value"] ["value"] (defScope s_is_word) := ⟨rfl, rfl, rfl, by decide +kernel, rfl, by decide +kernel, by decide +kernel⟩
def w_is_word (ex : Exn → stg.G → Prop) : SW stg :=
  (wRet (wBin oIsN (wCallB 1 d_word_error (wACons (wVar 0) wANil) (xk ex)) (wC .non)))
theorem ok_is_word {P : Program} {w : World} {K : PySem.W.Frag} {mg : Str → Option Value} {base : Heap} {f : Addr} {fd : FuncData} (F : Fun K "is_word" "is_word" s_is_word f fd) (g : mg "is_word" = some (.ref f)) (F_word_error : FnB P w K mg base 2 "word_error" ["value"] (liftSp K mg 1 d_word_error))
    (hp : ∀ (ds : List D) (g : Nat) (q : D → Nat → Prop) (ex : Exn → Nat → Prop), ds.length = 1 → d_is_word ds g q ex → w_is_word ex (kEndS q) (startD ["value"] ds) g) : FnB P w K mg base 3 "is_word" ["value"] (liftSp K mg 1 d_is_word) :=
  fnB_of F g (fnS_of (wb := w_is_word) F sc_is_word (fun cdv A outer s H E W0 ex hr hgd tk => (dss_one (ds_ret (de_cmp opd_isN (DE.p (de_callF F_word_error hgd hr tk (da_cons (de_var (pv 0)) da_nil))) (DE.p de_non) (nomark _))))) hp) (F.binds (ps := ["value"]) fun _ _ _ _ _ _ us hl => match us, hl with | [_], _ => rfl)
theorem sc_tail_order : FnScope ["word", "tail", "place"] ["word"] (defScope s_tail_order) := ⟨rfl, rfl, rfl, by decide +kernel, rfl, by decide +kernel, by decide +kernel⟩
def w_tail_order (ex : Exn → stg.G → Prop) : SW stg :=
  (wRet (wCB cTuple (wACons (wL (wLc (wItems (wL (wCN cSortedTI (wACons (wL (wLc (wRng1 (wCB cLen (wACons (wVar 0) wANil))) (gwN 2) wYes (wTup (wACons (wSl (wVar 0) (wOSome (wVar 2)) wONone) (wACons (wVar 2) wANil))) [2])) wANil)))) (gwT 2 (gwCons (gwN 1) (gwCons (gwN 2) gwNil))) wYes (wVar 2) [1, 2])) wANil)))
theorem ok_tail_order {P : Program} {w : World} {K : PySem.W.Frag} {mg : Str → Option Value} {base : Heap} {f : Addr} {fd : FuncData} (F : Fun K "tail_order" "tail_order" s_tail_order f fd) (g : mg "tail_order" = some (.ref f)) (m_len : mg "len" = none) (m_range : mg "range" = none) (m_sorted : mg "sorted" = none) (m_tuple : mg "tuple" = none)
    (hp : ∀ (ds : List D) (g : Nat) (q : D → Nat → Prop) (ex : Exn → Nat → Prop), ds.length = 1 → d_tail_order ds g q ex → w_tail_order ex (kEndS q) (startD ["word", "tail", "place"] ds) g) : FnB P w K mg base 1 "tail_order" ["word"] (liftSp K mg 1 d_tail_order) :=
  fnB_of F g (fnS_of (wb := w_tail_order) F sc_tail_order (fun cdv A outer s H E W0 ex hr hgd tk => (dss_one (ds_ret (de_callTy calld_tuple (by rfl) m_tuple (by decide +kernel) (dap_cons (DN.p (dn_lc (own := [("tail", 1), ("place", 2)]) rfl sc_tail_order.nd (di_seq (DN.fr (dn_callB calln_sortedTI (by rfl) m_sorted (by decide +kernel) (dap_cons (DN.p (dn_lc (own := [("place", 2)]) rfl sc_tail_order.nd (di_range1 m_range (de_callB calld_len (by rfl) m_len (by decide +kernel) (dap_cons (DE.p (de_var (pv 0))) dap_nil))) (blkOk_by (own := [("place", 2)]) (N := ["word", "tail", "place"]) (sc := defScope s_tail_order) (by decide +kernel)) (by decide) (fun _ _ _ _ _ => (dg_name (pg_name (i := 2) sc_tail_order.nd rfl (Or.inl rfl)))) (fun _ _ _ _ _ => dts_nil) (fun _ _ _ _ _ => (de_tup (da_cons (de_slice (DE.p (de_var (pv 0))) (do_some (de_var (pv 2))) do_none) (da_cons (de_var (pv 2)) da_nil)))))) dap_nil)))) (blkOk_by (own := [("tail", 1), ("place", 2)]) (N := ["word", "tail", "place"]) (sc := defScope s_tail_order) (by decide +kernel)) (by decide) (fun _ _ _ _ _ => (dg_tup rfl (dgs_cons (dg_name (pg_name (i := 1) sc_tail_order.nd rfl (Or.inl rfl))) (dgs_cons (dg_name (pg_name (i := 2) sc_tail_order.nd rfl (Or.inl rfl))) dgs_nil)))) (fun _ _ _ _ _ => dts_nil) (fun _ _ _ _ _ => (de_var (pv 2))))) dap_nil))))) hp) (F.binds (ps := ["word"]) fun _ _ _ _ _ _ us hl => match us, hl with | [_], _ => rfl)
theorem sc_is_simple : FnScope ["word", "place"] ["word"] (defScope s_is_simple) := ⟨rfl, rfl, rfl, by decide +kernel, rfl, by decide +kernel, by decide +kernel⟩
def w_is_simple (ex : Exn → stg.G → Prop) : SW stg :=
  (wRet (wCB cAll (wACons (wL (wLc (wRng2 (wC (.int 1)) (wCB cLen (wACons (wVar 0) wANil))) (gwN 1) wYes (wBin oLt (wVar 0) (wSl (wVar 0) (wOSome (wVar 1)) wONone)) [1])) wANil)))
theorem ok_is_simple {P : Program} {w : World} {K : PySem.W.Frag} {mg : Str → Option Value} {base : Heap} {f : Addr} {fd : FuncData} (F : Fun K "is_simple" "is_simple" s_is_simple f fd) (g : mg "is_simple" = some (.ref f)) (m_all : mg "all" = none) (m_len : mg "len" = none) (m_range : mg "range" = none)
    (hp : ∀ (ds : List D) (g : Nat) (q : D → Nat → Prop) (ex : Exn → Nat → Prop), ds.length = 1 → d_is_simple ds g q ex → w_is_simple ex (kEndS q) (startD ["word", "place"] ds) g) : FnB P w K mg base 1 "is_simple" ["word"] (liftSp K mg 1 d_is_simple) :=
  fnB_of F g (fnS_of (wb := w_is_simple) F sc_is_simple (fun cdv A outer s H E W0 ex hr hgd tk => (dss_one (ds_ret (de_callB (calld_all rfl) (by rfl) m_all (by decide +kernel) (dap_cons (DN.p (dn_lc (own := [("place", 1)]) rfl sc_is_simple.nd (di_range2 m_range de_int (de_callB calld_len (by rfl) m_len (by decide +kernel) (dap_cons (DE.p (de_var (pv 0))) dap_nil))) (blkOk_by (own := [("place", 1)]) (N := ["word", "place"]) (sc := defScope s_is_simple) (by decide +kernel)) (by decide) (fun _ _ _ _ _ => (dg_name (pg_name (i := 1) sc_is_simple.nd rfl (Or.inl rfl)))) (fun _ _ _ _ _ => dts_nil) (fun _ _ _ _ _ => (de_cmp opd_lt (DE.p (de_var (pv 0))) (DE.p (de_slice (DE.p (de_var (pv 0))) (do_some (de_var (pv 1))) do_none)) (nomark _))))) dap_nil))))) hp) (F.binds (ps := ["word"]) fun _ _ _ _ _ _ us hl => match us, hl with | [_], _ => rfl)
theorem sc_words_behind : FnScope ["name", "text", "head", "words"] ["name", "text"] (defScope s_words_behind) := ⟨rfl, rfl, rfl, by decide +kernel, rfl, by decide +kernel, by decide +kernel⟩
def w_words_behind (ex : Exn → stg.G → Prop) : SW stg :=
  (wSeq (wIfS (wNot (wB (wIsi "str" (wVar 1)))) (wRaise "BadText" "index" (wC .non) (xk ex)) wNext)
    (wSeq (wHeadL 2 3 (wL (wSplit (wVar 1) (wC (.str [32])))))
    (wSeq (wIfS (wB (wBin oNe (wVar 2) (wVar 0))) (wRaise "BadText" "index" (wC (.int 0)) (xk ex)) wNext)
    (wRet (wVar 3)))))
theorem ok_words_behind {P : Program} {w : World} {K : PySem.W.Frag} {mg : Str → Option Value} {base : Heap} {f : Addr} {fd : FuncData} (F : Fun K "words_behind" "words_behind" s_words_behind f fd) (g : mg "words_behind" = some (.ref f)) (m_isinstance : mg "isinstance" = none) (m_str : mg "str" = none) (xr_BadText : RaisesF K "BadText" "index")
    (hp : ∀ (ds : List D) (g : Nat) (q : D → Nat → Prop) (ex : Exn → Nat → Prop), ds.length = 2 → d_words_behind ds g q ex → w_words_behind ex (kEndS q) (startD ["name", "text", "head", "words"] ds) g) : FnB P w K mg base 1 "words_behind" ["name", "text"] (liftSp K mg 2 d_words_behind) :=
  fnB_of F g (fnS_of (wb := w_words_behind) F sc_words_behind (fun cdv A outer s H E W0 ex hr hgd tk => (dss_cons (ds_if (dt_not (dt_val (de_isi kit_str (DE.p (de_var (pv 1))) m_isinstance m_str (by decide +kernel)))) (dss_one (ds_raise xr_BadText rfl hr tk de_non)) dss_nil)
      (dss_cons (ds_headL rfl (pg_name (i := 2) sc_words_behind.nd rfl (Or.inl rfl)) (pg_name (i := 3) sc_words_behind.nd rfl (Or.inl rfl)) (DN.fr (dn_split (de_var (pv 1)) (de_str [32]))))
      (dss_cons (ds_if (dt_cmp (opd_ne hr.units) (DE.p (de_var (pv 2))) (DE.p (de_var (pv 0))) (nomark _)) (dss_one (ds_raise xr_BadText rfl hr tk de_int)) dss_nil)
      (dss_one (ds_ret (de_var (pv 3)))))))) hp) (F.binds (ps := ["name", "text"]) fun _ _ _ _ _ _ us hl => match us, hl with | [_, _], _ => rfl)
theorem sc_parse_word : FnScope ["text", "words"] ["text"] (defScope s_parse_word) := ⟨rfl, rfl, rfl, by decide +kernel, rfl, by decide +kernel, by decide +kernel⟩
def w_parse_word (ex : Exn → stg.G → Prop) : SW stg :=
  (wSeq (wSet 1 (wI (wCallB 2 d_words_behind (wACons (wC (.str [119, 111, 114, 100])) (wACons (wVar 0) wANil)) (xk ex))))
    (wSeq (wIfS (wOr (wB (wBin (oNil id) (wVar 1) (wL (wLst wANil)))) (wNot (wB (wCallB 1 d_is_word (wACons (wBin oIx (wVar 1) (wC (.int 0))) wANil) (xk ex))))) (wRaise "BadText" "index" (wC (.int 1)) (xk ex)) wNext)
    (wSeq (wIfS (wB (wBin oGt (wCB cLen (wACons (wVar 1) wANil)) (wC (.int 1)))) (wRaise "BadText" "index" (wC (.int 2)) (xk ex)) wNext)
    (wRet (wBin oIx (wVar 1) (wC (.int 0)))))))
theorem ok_parse_word {P : Program} {w : World} {K : PySem.W.Frag} {mg : Str → Option Value} {base : Heap} {f : Addr} {fd : FuncData} (F : Fun K "parse_word" "parse_word" s_parse_word f fd) (g : mg "parse_word" = some (.ref f)) (F_words_behind : FnB P w K mg base 1 "words_behind" ["name", "text"] (liftSp K mg 2 d_words_behind)) (F_is_word : FnB P w K mg base 3 "is_word" ["value"] (liftSp K mg 1 d_is_word)) (m_len : mg "len" = none) (c_WORD : GlS (mg "WORD") [119, 111, 114, 100]) (xr_BadText : RaisesF K "BadText" "index")
    (hp : ∀ (ds : List D) (g : Nat) (q : D → Nat → Prop) (ex : Exn → Nat → Prop), ds.length = 1 → d_parse_word ds g q ex → w_parse_word ex (kEndS q) (startD ["text", "words"] ds) g) : FnB P w K mg base 4 "parse_word" ["text"] (liftSp K mg 1 d_parse_word) :=
  fnB_of F g (fnS_of (wb := w_parse_word) F sc_parse_word (fun cdv A outer s H E W0 ex hr hgd tk => (dss_cons (ds_set (i := 1) sc_parse_word.nd rfl (.inl rfl) (DE.v (de_callF F_words_behind hgd (hr.mono (by decide)) tk (da_cons (de_glS c_WORD) (da_cons (de_var (pv 0)) da_nil)))))
      (dss_cons (ds_if (DW.t (dw_or (dt_cmp (opd_eqNil hr.units) (DE.p (de_var (pv 1))) (DN.p (dn_lst da_nil)) (nomark _)) (dw_or1 (dt_not (dt_val (de_callF F_is_word hgd hr tk (da_cons (de_ix (DE.p (de_var (pv 1))) (DE.p de_int) (fun _ _ => rfl)) da_nil))))))) (dss_one (ds_raise xr_BadText rfl hr tk de_int)) dss_nil)
      (dss_cons (ds_if (dt_cmp opd_gt (DE.p (de_callB calld_len (by rfl) m_len (by decide +kernel) (dap_cons (DE.p (de_var (pv 1))) dap_nil))) (DE.p de_int) (nomark _)) (dss_one (ds_raise xr_BadText rfl hr tk de_int)) dss_nil)
      (dss_one (ds_ret (de_ix (DE.p (de_var (pv 1))) (DE.p de_int) (fun _ _ => rfl)))))))) hp) (F.binds (ps := ["text"]) fun _ _ _ _ _ _ us hl => match us, hl with | [_], _ => rfl)
theorem sc_check_word : FnScope ["value", "error"] ["value"] (defScope s_check_word) := ⟨rfl, rfl, rfl, by decide +kernel, rfl, by decide +kernel, by decide +kernel⟩
def w_check_word (ex : Exn → stg.G → Prop) : SW stg :=
  (wSeq (wSet 1 (wI (wCallB 1 d_word_error (wACons (wVar 0) wANil) (xk ex))))
    (wIfS (wB (wBin oNotN (wVar 1) (wC .non))) (wRaise "BadWord" "error" (wVar 1) (xk ex)) wNext))
theorem ok_check_word {P : Program} {w : World} {K : PySem.W.Frag} {mg : Str → Option Value} {base : Heap} {f : Addr} {fd : FuncData} (F : Fun K "check_word" "check_word" s_check_word f fd) (g : mg "check_word" = some (.ref f)) (F_word_error : FnB P w K mg base 2 "word_error" ["value"] (liftSp K mg 1 d_word_error)) (xr_BadWord : RaisesF K "BadWord" "error")
    (hp : ∀ (ds : List D) (g : Nat) (q : D → Nat → Prop) (ex : Exn → Nat → Prop), ds.length = 1 → d_check_word ds g q ex → w_check_word ex (kEndS q) (startD ["value", "error"] ds) g) : FnB P w K mg base 3 "check_word" ["value"] (liftSp K mg 1 d_check_word) :=
  fnB_of F g (fnS_of (wb := w_check_word) F sc_check_word (fun cdv A outer s H E W0 ex hr hgd tk => (dss_cons (ds_set (i := 1) sc_check_word.nd rfl (.inl rfl) (DE.v (de_callF F_word_error hgd hr tk (da_cons (de_var (pv 0)) da_nil))))
      (dss_one (ds_if (dt_cmp opd_notN (DE.p (de_var (pv 1))) (DE.p de_non) (nomark _)) (dss_one (ds_raise xr_BadWord rfl hr tk (de_var (pv 1)))) dss_nil)))) hp) (F.binds (ps := ["value"]) fun _ _ _ _ _ _ us hl => match us, hl with | [_], _ => rfl)
theorem sc_l_pick : FnScope ["_law_stream_here", "_law_items"] ["_law_stream_here", "_law_items"] (defScope s_l_pick) := ⟨rfl, rfl, rfl, by decide +kernel, rfl, by decide +kernel, by decide +kernel⟩
def w_l_pick (ex : Exn → stg.G → Prop) : SW stg :=
  (wRet (wBin oIx (wVar 1) (wCallB 2 d_l_draw (wACons (wVar 0) (wACons (wCB cLen (wACons (wVar 1) wANil)) wANil)) (xk ex))))
theorem ok_l_pick {P : Program} {w : World} {K : PySem.W.Frag} {mg : Str → Option Value} {base : Heap} {f : Addr} {fd : FuncData} (F : Fun K "_law_pick" "_law_pick" s_l_pick f fd) (g : mg "_law_pick" = some (.ref f)) (F_l_draw : FnB P w K mg base 1 "_law_draw" ["_law_stream_here", "_law_many"] (liftSp K mg 2 d_l_draw)) (m_len : mg "len" = none)
    (hp : ∀ (ds : List D) (g : Nat) (q : D → Nat → Prop) (ex : Exn → Nat → Prop), ds.length = 2 → d_l_pick ds g q ex → w_l_pick ex (kEndS q) (startD ["_law_stream_here", "_law_items"] ds) g) : FnB P w K mg base 2 "_law_pick" ["_law_stream_here", "_law_items"] (liftSp K mg 2 d_l_pick) :=
  fnB_of F g (fnS_of (wb := w_l_pick) F sc_l_pick (fun cdv A outer s H E W0 ex hr hgd tk => (dss_one (ds_ret (de_ix (DE.p (de_var (pv 1))) (DE.p (de_callF F_l_draw hgd hr tk (da_cons (de_var (pv 0)) (da_cons (de_callB calld_len (by rfl) m_len (by decide +kernel) (dap_cons (DE.p (de_var (pv 1))) dap_nil)) da_nil)))) (fun _ _ => rfl))))) hp) (F.binds (ps := ["_law_stream_here", "_law_items"]) fun _ _ _ _ _ _ us hl => match us, hl with | [_, _], _ => rfl)
theorem sc_l_odd : FnScope ["_law_stream_here", "_law_some"] ["_law_stream_here"] (defScope s_l_odd) := ⟨rfl, rfl, rfl, by decide +kernel, rfl, by decide +kernel, by decide +kernel⟩
def w_l_odd (ex : Exn → stg.G → Prop) : SW stg :=
  (wSeq (wSet 1 (wI (wL (wLst (wACons (wC .non) (wACons (wC (.bl true)) (wACons (wC (.bl false)) (wACons (wNeg (wC (.int 1))) (wACons (wC (.int 0)) (wACons (wC (.int 1)) (wACons (wC (.int 23)) (wACons (wC (.int 24)) (wACons (wBin oPow (wC (.int 10)) (wC (.int 29))) (wACons (wC (.str [])) (wACons (wC (.str [97])) (wACons (wC (.str [65])) (wACons (wC (.str [97, 98])) (wACons (wC (.str [48])) (wACons (wC (.str [32])) (wACons (wTup wANil) (wACons (wL (wLst wANil)) (wACons (wC (.dic [])) (wACons (wTup (wACons (wC (.int 0)) wANil)) (wACons (wL (wLst (wACons (wC (.str [97])) wANil))) wANil))))))))))))))))))))))))
    (wRet (wBin oIx (wL (wBinN oCat (wVar 1) (wL (wLst (wACons (wTup (wACons (wC (.str [97])) wANil)) (wACons (wC (.dic [(.inr (S [97]), .int 1)])) (wACons (wC (.str [97, 66])) (wACons (wBin oMul (wC (.str [122])) (wC (.int 25))) wANil)))))))) (wCallB 2 d_l_draw (wACons (wVar 0) (wACons (wC (.int 24)) wANil)) (xk ex)))))
theorem ok_l_odd {P : Program} {w : World} {K : PySem.W.Frag} {mg : Str → Option Value} {base : Heap} {f : Addr} {fd : FuncData} (F : Fun K "_law_odd" "_law_odd" s_l_odd f fd) (g : mg "_law_odd" = some (.ref f)) (F_l_draw : FnB P w K mg base 1 "_law_draw" ["_law_stream_here", "_law_many"] (liftSp K mg 2 d_l_draw))
    (hp : ∀ (ds : List D) (g : Nat) (q : D → Nat → Prop) (ex : Exn → Nat → Prop), ds.length = 1 → d_l_oddF ds g q ex → w_l_odd ex (kEndS q) (startD ["_law_stream_here", "_law_some"] ds) g) : FnB P w K mg base 2 "_law_odd" ["_law_stream_here"] (liftSp K mg 1 d_l_oddF) :=
  fnB_of F g (fnS_of (wb := w_l_odd) F sc_l_odd (fun cdv A outer s H E W0 ex hr hgd tk => (dss_cons (ds_set (i := 1) sc_l_odd.nd rfl (.inl rfl) (DE.v (DN.fr (dn_lst (da_cons de_non (da_cons de_bl (da_cons de_bl (da_cons (de_neg de_int) (da_cons de_int (da_cons de_int (da_cons de_int (da_cons de_int (da_cons (de_op opd_pow (DE.p de_int) (DE.p de_int)) (da_cons (de_str []) (da_cons (de_str [97]) (da_cons (de_str [65]) (da_cons (de_str [97, 98]) (da_cons (de_str [48]) (da_cons (de_str [32]) (da_cons (de_tup da_nil) (da_cons (DN.fr (dn_lst da_nil)) (da_cons de_dic0 (da_cons (de_tup (da_cons de_int da_nil)) (da_cons (DN.fr (dn_lst (da_cons (de_str [97]) da_nil))) da_nil))))))))))))))))))))))))
      (dss_one (ds_ret (de_ix (DN.p (dn_op opn_cat (DE.p (de_var (pv 1))) (DN.p (dn_lst (da_cons (de_tup (da_cons (de_str [97]) da_nil)) (da_cons (de_dic1 [97]) (da_cons (de_str [97, 66]) (da_cons (de_op opd_mul (DE.p (de_str [122])) (DE.p de_int)) da_nil)))))))) (DE.p (de_callF F_l_draw hgd hr tk (da_cons (de_var (pv 0)) (da_cons de_int da_nil)))) (fun _ _ => rfl)))))) hp) (F.binds (ps := ["_law_stream_here"]) fun _ _ _ _ _ _ us hl => match us, hl with | [_], _ => rfl)
theorem sc_l_word : FnScope ["_law_stream_here", "_law_most", "_law_size", "_law_way", "_law_letters", "_law_word_here", "_law_k"] ["_law_stream_here", "_law_most"] (defScope s_l_word) := ⟨rfl, rfl, rfl, by decide +kernel, rfl, by decide +kernel, by decide +kernel⟩
def w_l_word (ex : Exn → stg.G → Prop) : SW stg :=
  (wSeq (wPar 2 3 (wI (wBin oAdd (wC (.int 1)) (wCallB 2 d_l_draw (wACons (wVar 0) (wACons (wVar 1) wANil)) (xk ex)))) (wI (wCallB 2 d_l_draw (wACons (wVar 0) (wACons (wC (.int 6)) wANil)) (xk ex))))
    (wSeq (wSet 4 (wI (wBin oIx (wL (wLst (wACons (wC (.str [97, 98])) (wACons (wC (.str [97, 98, 99])) (wACons (wC (.str [97])) (wACons (wC (.str [97, 122])) (wACons (wC (.str [97, 98, 99, 100, 101, 102, 103, 104, 105, 106, 107, 108, 109, 110, 111, 112, 113, 114, 115, 116, 117, 118, 119, 120, 121, 122])) (wACons (wC (.str [97, 98])) wANil)))))))) (wVar 3))))
    (wSeq (wSet 5 (wI (wJoin (wC (.str [])) (wL (wLc (wRng1 (wVar 2)) (gwN 6) wYes (wCallB 2 d_l_pick (wACons (wVar 0) (wACons (wVar 4) wANil)) xno) [6])))))
    (wSeq (wIfS (wAnd (wB (wBin oGt (wVar 3) (wC (.int 3)))) (wB (wBin oEq (wCallB 2 d_l_draw (wACons (wVar 0) (wACons (wC (.int 2)) wANil)) (xk ex)) (wC (.int 0))))) (wSet 5 (wI (wSl (wBin oMul (wSl (wVar 5) wONone (wOSome (wBin oAdd (wC (.int 1)) (wCallB 2 d_l_draw (wACons (wVar 0) (wACons (wC (.int 4)) wANil)) (xk ex))))) (wVar 2)) wONone (wOSome (wVar 2))))) wNext)
    (wRet (wVar 5))))))
theorem ok_l_word {P : Program} {w : World} {K : PySem.W.Frag} {mg : Str → Option Value} {base : Heap} {f : Addr} {fd : FuncData} (F : Fun K "_law_word" "_law_word" s_l_word f fd) (g : mg "_law_word" = some (.ref f)) (F_l_draw : FnB P w K mg base 1 "_law_draw" ["_law_stream_here", "_law_many"] (liftSp K mg 2 d_l_draw)) (F_l_pick : FnB P w K mg base 2 "_law_pick" ["_law_stream_here", "_law_items"] (liftSp K mg 2 d_l_pick)) (m_range : mg "range" = none)
    (hp : ∀ (ds : List D) (g : Nat) (q : D → Nat → Prop) (ex : Exn → Nat → Prop), ds.length = 2 → d_l_word ds g q ex → w_l_word ex (kEndS q) (startD ["_law_stream_here", "_law_most", "_law_size", "_law_way", "_law_letters", "_law_word_here", "_law_k"] ds) g) : FnB P w K mg base 3 "_law_word" ["_law_stream_here", "_law_most"] (liftSp K mg 2 d_l_word) :=
  fnB_of F g (fnS_of (wb := w_l_word) F sc_l_word (fun cdv A outer s H E W0 ex hr hgd tk => (dss_cons (ds_par (i := 2) (j := 3) rfl sc_l_word.nd rfl rfl (by decide) rfl rfl (DE.v (de_op opd_add (DE.p de_int) (DE.p (de_callF F_l_draw hgd (hr.mono (by decide)) tk (da_cons (de_var (pv 0)) (da_cons (de_var (pv 1)) da_nil)))))) (DE.v (de_callF F_l_draw hgd (hr.mono (by decide)) tk (da_cons (de_var (pv 0)) (da_cons de_int da_nil)))))
      (dss_cons (ds_set (i := 4) sc_l_word.nd rfl (.inr rfl) (DE.v (de_ix (DN.p (dn_lst (da_cons (de_str [97, 98]) (da_cons (de_str [97, 98, 99]) (da_cons (de_str [97]) (da_cons (de_str [97, 122]) (da_cons (de_str [97, 98, 99, 100, 101, 102, 103, 104, 105, 106, 107, 108, 109, 110, 111, 112, 113, 114, 115, 116, 117, 118, 119, 120, 121, 122]) (da_cons (de_str [97, 98]) da_nil)))))))) (DE.p (de_var (pv 3))) (fun _ _ => rfl))))
      (dss_cons (ds_set (i := 5) sc_l_word.nd rfl (.inl rfl) (DE.v (de_join (de_str []) (DN.p (dn_lc (own := [("_law_k", 6)]) rfl sc_l_word.nd (di_range1 m_range (de_var (pv 2))) (blkOk_by (own := [("_law_k", 6)]) (N := ["_law_stream_here", "_law_most", "_law_size", "_law_way", "_law_letters", "_law_word_here", "_law_k"]) (sc := defScope s_l_word) (by decide +kernel)) (by decide) (fun _ _ _ _ _ => (dg_name (pg_name (i := 6) sc_l_word.nd rfl (Or.inl rfl)))) (fun _ _ _ _ _ => dts_nil) (fun _ _ _ _ _ => (de_callF F_l_pick hgd hr takesD_blk (da_cons (de_var (pv 0)) (da_cons (de_var (pv 4)) da_nil)))))))))
      (dss_cons (ds_if (DW.t (dw_and (dt_cmp opd_gt (DE.p (de_var (pv 3))) (DE.p de_int) (nomark _)) (dw_and1 (dt_cmp (opd_eq hr.units) (DE.p (de_callF F_l_draw hgd (hr.mono (by decide)) tk (da_cons (de_var (pv 0)) (da_cons de_int da_nil)))) (DE.p de_int) (nomark _))))) (dss_one (ds_set (i := 5) sc_l_word.nd rfl (.inl rfl) (DE.v (de_slice (DE.p (de_op opd_mul (DE.p (de_slice (DE.p (de_var (pv 5))) do_none (do_some (de_op opd_add (DE.p de_int) (DE.p (de_callF F_l_draw hgd (hr.mono (by decide)) tk (da_cons (de_var (pv 0)) (da_cons de_int da_nil)))))))) (DE.p (de_var (pv 2))))) do_none (do_some (de_var (pv 2))))))) dss_nil)
      (dss_one (ds_ret (de_var (pv 5))))))))) hp) (F.binds (ps := ["_law_stream_here", "_law_most"]) fun _ _ _ _ _ _ us hl => match us, hl with | [_, _], _ => rfl)
theorem sc_l_order : FnScope ["_law_word_here", "_law_tails", "_law_place", "_law_tail"] ["_law_word_here"] (defScope s_l_order) := ⟨rfl, rfl, rfl, by decide +kernel, rfl, by decide +kernel, by decide +kernel⟩
def w_l_order (ex : Exn → stg.G → Prop) : SW stg :=
  (wSeq (wSet 1 (wI (wL (wCN cSortedTI (wACons (wL (wLc (wRng1 (wCB cLen (wACons (wVar 0) wANil))) (gwN 2) wYes (wTup (wACons (wSl (wVar 0) (wOSome (wVar 2)) wONone) (wACons (wVar 2) wANil))) [2])) wANil)))))
    (wRet (wCB cTuple (wACons (wL (wLc (wItems (wVar 1)) (gwT 2 (gwCons (gwN 3) (gwCons (gwN 2) gwNil))) wYes (wVar 2) [3, 2])) wANil))))
theorem ok_l_order {P : Program} {w : World} {K : PySem.W.Frag} {mg : Str → Option Value} {base : Heap} {f : Addr} {fd : FuncData} (F : Fun K "_law_order" "_law_order" s_l_order f fd) (g : mg "_law_order" = some (.ref f)) (m_len : mg "len" = none) (m_range : mg "range" = none) (m_sorted : mg "sorted" = none) (m_tuple : mg "tuple" = none)
    (hp : ∀ (ds : List D) (g : Nat) (q : D → Nat → Prop) (ex : Exn → Nat → Prop), ds.length = 1 → d_l_order_k65 ds g q ex → w_l_order ex (kEndS q) (startD ["_law_word_here", "_law_tails", "_law_place", "_law_tail"] ds) g) : FnB P w K mg base 1 "_law_order" ["_law_word_here"] (liftSp K mg 1 d_l_order_k65) :=
  fnB_of F g (fnS_of (wb := w_l_order) F sc_l_order (fun cdv A outer s H E W0 ex hr hgd tk => (dss_cons (ds_set (i := 1) sc_l_order.nd rfl (.inl rfl) (DE.v (DN.fr (dn_callB calln_sortedTI (by rfl) m_sorted (by decide +kernel) (dap_cons (DN.p (dn_lc (own := [("_law_place", 2)]) rfl sc_l_order.nd (di_range1 m_range (de_callB calld_len (by rfl) m_len (by decide +kernel) (dap_cons (DE.p (de_var (pv 0))) dap_nil))) (blkOk_by (own := [("_law_place", 2)]) (N := ["_law_word_here", "_law_tails", "_law_place", "_law_tail"]) (sc := defScope s_l_order) (by decide +kernel)) (by decide) (fun _ _ _ _ _ => (dg_name (pg_name (i := 2) sc_l_order.nd rfl (Or.inl rfl)))) (fun _ _ _ _ _ => dts_nil) (fun _ _ _ _ _ => (de_tup (da_cons (de_slice (DE.p (de_var (pv 0))) (do_some (de_var (pv 2))) do_none) (da_cons (de_var (pv 2)) da_nil)))))) dap_nil)))))
      (dss_one (ds_ret (de_callTy calld_tuple (by rfl) m_tuple (by decide +kernel) (dap_cons (DN.p (dn_lc (own := [("_law_tail", 3), ("_law_place", 2)]) rfl sc_l_order.nd (di_seq (de_var (pv 1))) (blkOk_by (own := [("_law_tail", 3), ("_law_place", 2)]) (N := ["_law_word_here", "_law_tails", "_law_place", "_law_tail"]) (sc := defScope s_l_order) (by decide +kernel)) (by decide) (fun _ _ _ _ _ => (dg_tup rfl (dgs_cons (dg_name (pg_name (i := 3) sc_l_order.nd rfl (Or.inl rfl))) (dgs_cons (dg_name (pg_name (i := 2) sc_l_order.nd rfl (Or.inl rfl))) dgs_nil)))) (fun _ _ _ _ _ => dts_nil) (fun _ _ _ _ _ => (de_var (pv 2))))) dap_nil)))))) hp) (F.binds (ps := ["_law_word_here"]) fun _ _ _ _ _ _ us hl => match us, hl with | [_], _ => rfl)
theorem sc_l_is_letter : FnScope ["_law_value"] ["_law_value"] (defScope s_l_is_letter) := ⟨rfl, rfl, rfl, by decide +kernel, rfl, by decide +kernel, by decide +kernel⟩
def w_l_is_letter (ex : Exn → stg.G → Prop) : SW stg :=
  (wRet (wAndV (wIsi "str" (wVar 0)) (wAndV (wBin oEq (wCB cLen (wACons (wVar 0) wANil)) (wC (.int 1))) (wBin oIn (wVar 0) (wC (.str [97, 98, 99, 100, 101, 102, 103, 104, 105, 106, 107, 108, 109, 110, 111, 112, 113, 114, 115, 116, 117, 118, 119, 120, 121, 122]))))))
theorem ok_l_is_letter {P : Program} {w : World} {K : PySem.W.Frag} {mg : Str → Option Value} {base : Heap} {f : Addr} {fd : FuncData} (F : Fun K "_law_is_letter" "_law_is_letter" s_l_is_letter f fd) (g : mg "_law_is_letter" = some (.ref f)) (m_isinstance : mg "isinstance" = none) (m_len : mg "len" = none) (m_str : mg "str" = none)
    (hp : ∀ (ds : List D) (g : Nat) (q : D → Nat → Prop) (ex : Exn → Nat → Prop), ds.length = 1 → d_l_letter ds g q ex → w_l_is_letter ex (kEndS q) (startD ["_law_value"] ds) g) : FnB P w K mg base 1 "_law_is_letter" ["_law_value"] (liftSp K mg 1 d_l_letter) :=
  fnB_of F g (fnS_of (wb := w_l_is_letter) F sc_l_is_letter (fun cdv A outer s H E W0 ex hr hgd tk => (dss_one (ds_ret (de_and (de_isi kit_str (DE.p (de_var (pv 0))) m_isinstance m_str (by decide +kernel)) (de_and (de_cmp (opd_eq hr.units) (DE.p (de_callB calld_len (by rfl) m_len (by decide +kernel) (dap_cons (DE.p (de_var (pv 0))) dap_nil))) (DE.p de_int) (nomark _)) (de_one (de_cmp opd_in (DE.p (de_var (pv 0))) (DE.p (de_str [97, 98, 99, 100, 101, 102, 103, 104, 105, 106, 107, 108, 109, 110, 111, 112, 113, 114, 115, 116, 117, 118, 119, 120, 121, 122])) rfl))))))) hp) (F.binds (ps := ["_law_value"]) fun _ _ _ _ _ _ us hl => match us, hl with | [_], _ => rfl)
theorem sc_l_is_simple : FnScope ["_law_word_here", "_law_place"] ["_law_word_here"] (defScope s_l_is_simple) := ⟨rfl, rfl, rfl, by decide +kernel, rfl, by decide +kernel, by decide +kernel⟩
def w_l_is_simple (ex : Exn → stg.G → Prop) : SW stg :=
  (wRet (wBin (oNil id) (wL (wLc (wRng2 (wC (.int 1)) (wCB cLen (wACons (wVar 0) wANil))) (gwN 1) (wB (wBin oLt (wSl (wVar 0) (wOSome (wVar 1)) wONone) (wVar 0))) (wVar 1) [1])) (wL (wLst wANil))))
theorem ok_l_is_simple {P : Program} {w : World} {K : PySem.W.Frag} {mg : Str → Option Value} {base : Heap} {f : Addr} {fd : FuncData} (F : Fun K "_law_is_simple" "_law_is_simple" s_l_is_simple f fd) (g : mg "_law_is_simple" = some (.ref f)) (m_len : mg "len" = none) (m_range : mg "range" = none)
    (hp : ∀ (ds : List D) (g : Nat) (q : D → Nat → Prop) (ex : Exn → Nat → Prop), ds.length = 1 → d_l_simple ds g q ex → w_l_is_simple ex (kEndS q) (startD ["_law_word_here", "_law_place"] ds) g) : FnB P w K mg base 1 "_law_is_simple" ["_law_word_here"] (liftSp K mg 1 d_l_simple) :=
  fnB_of F g (fnS_of (wb := w_l_is_simple) F sc_l_is_simple (fun cdv A outer s H E W0 ex hr hgd tk => (dss_one (ds_ret (de_cmp (opd_eqNil hr.units) (DN.p (dn_lc (own := [("_law_place", 1)]) rfl sc_l_is_simple.nd (di_range2 m_range de_int (de_callB calld_len (by rfl) m_len (by decide +kernel) (dap_cons (DE.p (de_var (pv 0))) dap_nil))) (blkOk_by (own := [("_law_place", 1)]) (N := ["_law_word_here", "_law_place"]) (sc := defScope s_l_is_simple) (by decide +kernel)) (by decide) (fun _ _ _ _ _ => (dg_name (pg_name (i := 1) sc_l_is_simple.nd rfl (Or.inl rfl)))) (fun _ _ _ _ _ => (dts_one (dt_cmp opd_lt (DE.p (de_slice (DE.p (de_var (pv 0))) (do_some (de_var (pv 1))) do_none)) (DE.p (de_var (pv 0))) (nomark _)))) (fun _ _ _ _ _ => (de_var (pv 1))))) (DN.p (dn_lst da_nil)) (nomark _))))) hp) (F.binds (ps := ["_law_word_here"]) fun _ _ _ _ _ _ us hl => match us, hl with | [_], _ => rfl)
theorem sc_l_name : FnScope ["_law_error", "_law_names", "_law_flags", "_law_bases"] ["_law_error"] (defScope s_l_name) := ⟨rfl, rfl, rfl, by decide +kernel, rfl, by decide +kernel, by decide +kernel⟩
def w_l_name (ex : Exn → stg.G → Prop) : SW stg :=
  (wSeq (wSet 1 (wI (wL (wLst (wACons (wC (.str [66, 97, 100, 69, 100, 105, 116])) (wACons (wC (.str [66, 97, 100, 69, 100, 105, 116, 115])) (wACons (wC (.str [66, 97, 100, 76, 101, 116, 116, 101, 114])) (wACons (wC (.str [66, 97, 100, 84, 101, 120, 116])) (wACons (wC (.str [66, 97, 100, 87, 111, 114, 100])) (wACons (wC (.str [66, 117, 115, 121])) (wACons (wC (.str [76, 97, 115, 116, 76, 101, 116, 116, 101, 114])) (wACons (wC (.str [78, 111, 116, 83, 105, 109, 112, 108, 101])) wANil))))))))))))
    (wSeq (wSet 1 (wI (wL (wBinN oCat (wVar 1) (wL (wLst (wACons (wC (.str [78, 111, 116, 104, 105, 110, 103, 84, 111, 85, 110, 100, 111])) (wACons (wC (.str [82, 101, 106, 101, 99, 116, 101, 100])) (wACons (wC (.str [84, 111, 111, 76, 111, 110, 103])) (wACons (wC (.str [84, 111, 111, 77, 97, 110, 121, 69, 100, 105, 116, 115])) (wACons (wC (.str [78, 111, 73, 110, 100, 101, 120])) (wACons (wC (.str [78, 111, 80, 108, 97, 99, 101])) (wACons (wC (.str [78, 111, 86, 101, 114, 115, 105, 111, 110])) wANil)))))))))))))
    (wSeq (wSet 2 (wI (wL (wLst (wACons (wIsX [("NoPlace", false), ("BadText", false), ("BadLetter", false), ("BadWord", false), ("TooLong", false), ("LastLetter", false), ("Busy", false), ("TooManyEdits", false), ("NotSimple", false)] (wVar 0)) (wACons (wIsX [("NoPlace", false), ("BadText", false), ("BadLetter", false), ("BadWord", false), ("TooLong", false), ("LastLetter", false), ("Busy", false), ("TooManyEdits", false), ("NotSimple", false)] (wVar 0)) (wACons (wIsX [("NoPlace", false), ("BadText", false), ("BadLetter", true), ("BadWord", false), ("TooLong", false), ("LastLetter", false), ("Busy", false), ("TooManyEdits", false), ("NotSimple", false)] (wVar 0)) wANil)))))))
    (wSeq (wSet 2 (wI (wL (wBinN oCat (wVar 2) (wL (wLst (wACons (wIsX [("NoPlace", false), ("BadText", true), ("BadLetter", false), ("BadWord", false), ("TooLong", false), ("LastLetter", false), ("Busy", false), ("TooManyEdits", false), ("NotSimple", false)] (wVar 0)) (wACons (wIsX [("NoPlace", false), ("BadText", false), ("BadLetter", false), ("BadWord", true), ("TooLong", false), ("LastLetter", false), ("Busy", false), ("TooManyEdits", false), ("NotSimple", false)] (wVar 0)) (wACons (wIsX [("NoPlace", false), ("BadText", false), ("BadLetter", false), ("BadWord", false), ("TooLong", false), ("LastLetter", false), ("Busy", true), ("TooManyEdits", false), ("NotSimple", false)] (wVar 0)) wANil)))))))))
    (wSeq (wSet 2 (wI (wL (wBinN oCat (wVar 2) (wL (wLst (wACons (wIsX [("NoPlace", false), ("BadText", false), ("BadLetter", false), ("BadWord", false), ("TooLong", false), ("LastLetter", true), ("Busy", false), ("TooManyEdits", false), ("NotSimple", false)] (wVar 0)) (wACons (wIsX [("NoPlace", false), ("BadText", false), ("BadLetter", false), ("BadWord", false), ("TooLong", false), ("LastLetter", false), ("Busy", false), ("TooManyEdits", false), ("NotSimple", true)] (wVar 0)) (wACons (wIsX [("NoPlace", false), ("BadText", false), ("BadLetter", false), ("BadWord", false), ("TooLong", false), ("LastLetter", false), ("Busy", false), ("TooManyEdits", false), ("NotSimple", false)] (wVar 0)) wANil)))))))))
    (wSeq (wSet 2 (wI (wL (wBinN oCat (wVar 2) (wL (wLst (wACons (wIsX [("NoPlace", false), ("BadText", false), ("BadLetter", false), ("BadWord", false), ("TooLong", false), ("LastLetter", false), ("Busy", false), ("TooManyEdits", false), ("NotSimple", false)] (wVar 0)) (wACons (wIsX [("NoPlace", false), ("BadText", false), ("BadLetter", false), ("BadWord", false), ("TooLong", true), ("LastLetter", false), ("Busy", false), ("TooManyEdits", false), ("NotSimple", false)] (wVar 0)) (wACons (wIsX [("NoPlace", false), ("BadText", false), ("BadLetter", false), ("BadWord", false), ("TooLong", false), ("LastLetter", false), ("Busy", false), ("TooManyEdits", true), ("NotSimple", false)] (wVar 0)) wANil)))))))))
    (wSeq (wSet 2 (wI (wL (wBinN oCat (wVar 2) (wL (wLst (wACons (wIsX [("NoPlace", false), ("BadText", false), ("BadLetter", false), ("BadWord", false), ("TooLong", false), ("LastLetter", false), ("Busy", false), ("TooManyEdits", false), ("NotSimple", false)] (wVar 0)) (wACons (wIsX [("NoPlace", true), ("BadText", false), ("BadLetter", false), ("BadWord", false), ("TooLong", false), ("LastLetter", false), ("Busy", false), ("TooManyEdits", false), ("NotSimple", false)] (wVar 0)) (wACons (wIsX [("NoPlace", false), ("BadText", false), ("BadLetter", false), ("BadWord", false), ("TooLong", false), ("LastLetter", false), ("Busy", false), ("TooManyEdits", false), ("NotSimple", false)] (wVar 0)) wANil)))))))))
    (wSeq (wSet 3 (wI (wL (wLst (wACons (wIsX [("NoPlace", false), ("BadText", true), ("BadLetter", true), ("BadWord", true), ("TooLong", true), ("LastLetter", true), ("Busy", true), ("TooManyEdits", true), ("NotSimple", true)] (wVar 0)) (wACons (wIsX [("NoPlace", false), ("BadText", true), ("BadLetter", true), ("BadWord", true), ("TooLong", true), ("LastLetter", true), ("Busy", true), ("TooManyEdits", true), ("NotSimple", true)] (wVar 0)) (wACons (wIsX [("NoPlace", true), ("BadText", false), ("BadLetter", false), ("BadWord", false), ("TooLong", false), ("LastLetter", false), ("Busy", false), ("TooManyEdits", false), ("NotSimple", false)] (wVar 0)) wANil)))))))
    (wSeq (wIfS (wOr (wB (wBin oNe (wCount (wVar 2) (wC (.bl true))) (wC (.int 1)))) (wB (wBin oNe (wVar 3) (wBin oIx (wL (wLst (wACons (wL (wLst (wACons (wC (.bl true)) (wACons (wC (.bl true)) (wACons (wC (.bl false)) wANil))))) (wACons (wL (wLst (wACons (wC (.bl false)) (wACons (wC (.bl false)) (wACons (wC (.bl true)) wANil))))) wANil)))) (wCB cInt (wACons (wBin oGt (wIndex (wVar 2) (wC (.bl true))) (wC (.int 11))) wANil)))))) (wRet (wC (.str [115, 101, 118, 101, 114, 97, 108]))) wNext)
    (wRet (wBin oIx (wVar 1) (wIndex (wVar 2) (wC (.bl true))))))))))))))
theorem ok_l_name {P : Program} {w : World} {K : PySem.W.Frag} {mg : Str → Option Value} {base : Heap} {f : Addr} {fd : FuncData} (F : Fun K "_law_name" "_law_name" s_l_name f fd) (g : mg "_law_name" = some (.ref f)) (m_int : mg "int" = none) (m_isinstance : mg "isinstance" = none) (xs_NotSimple_BadLetter : SubT K "NotSimple" "BadLetter" false) (xs_TooManyEdits_BadLetter : SubT K "TooManyEdits" "BadLetter" false) (xs_Busy_BadLetter : SubT K "Busy" "BadLetter" false) (xs_LastLetter_BadLetter : SubT K "LastLetter" "BadLetter" false) (xs_TooLong_BadLetter : SubT K "TooLong" "BadLetter" false) (xs_BadWord_BadLetter : SubT K "BadWord" "BadLetter" false) (xs_BadLetter_BadLetter : SubT K "BadLetter" "BadLetter" true) (xs_BadText_BadLetter : SubT K "BadText" "BadLetter" false) (xs_NoPlace_BadLetter : SubT K "NoPlace" "BadLetter" false) (xs_NotSimple_BadEdits : SubT K "NotSimple" "BadEdits" false) (xs_TooManyEdits_BadEdits : SubT K "TooManyEdits" "BadEdits" false) (xs_Busy_BadEdits : SubT K "Busy" "BadEdits" false) (xs_LastLetter_BadEdits : SubT K "LastLetter" "BadEdits" false) (xs_TooLong_BadEdits : SubT K "TooLong" "BadEdits" false) (xs_BadWord_BadEdits : SubT K "BadWord" "BadEdits" false) (xs_BadLetter_BadEdits : SubT K "BadLetter" "BadEdits" false) (xs_BadText_BadEdits : SubT K "BadText" "BadEdits" false) (xs_NoPlace_BadEdits : SubT K "NoPlace" "BadEdits" false) (xs_NotSimple_BadEdit : SubT K "NotSimple" "BadEdit" false) (xs_TooManyEdits_BadEdit : SubT K "TooManyEdits" "BadEdit" false) (xs_Busy_BadEdit : SubT K "Busy" "BadEdit" false) (xs_LastLetter_BadEdit : SubT K "LastLetter" "BadEdit" false) (xs_TooLong_BadEdit : SubT K "TooLong" "BadEdit" false) (xs_BadWord_BadEdit : SubT K "BadWord" "BadEdit" false) (xs_BadLetter_BadEdit : SubT K "BadLetter" "BadEdit" false) (xs_BadText_BadEdit : SubT K "BadText" "BadEdit" false) (xs_NoPlace_BadEdit : SubT K "NoPlace" "BadEdit" false) (xs_NotSimple_Busy : SubT K "NotSimple" "Busy" false) (xs_TooManyEdits_Busy : SubT K "TooManyEdits" "Busy" false) (xs_Busy_Busy : SubT K "Busy" "Busy" true) (xs_LastLetter_Busy : SubT K "LastLetter" "Busy" false) (xs_TooLong_Busy : SubT K "TooLong" "Busy" false) (xs_BadWord_Busy : SubT K "BadWord" "Busy" false) (xs_BadLetter_Busy : SubT K "BadLetter" "Busy" false) (xs_BadText_Busy : SubT K "BadText" "Busy" false) (xs_NoPlace_Busy : SubT K "NoPlace" "Busy" false) (xs_NotSimple_BadWord : SubT K "NotSimple" "BadWord" false) (xs_TooManyEdits_BadWord : SubT K "TooManyEdits" "BadWord" false) (xs_Busy_BadWord : SubT K "Busy" "BadWord" false) (xs_LastLetter_BadWord : SubT K "LastLetter" "BadWord" false) (xs_TooLong_BadWord : SubT K "TooLong" "BadWord" false) (xs_BadWord_BadWord : SubT K "BadWord" "BadWord" true) (xs_BadLetter_BadWord : SubT K "BadLetter" "BadWord" false) (xs_BadText_BadWord : SubT K "BadText" "BadWord" false) (xs_NoPlace_BadWord : SubT K "NoPlace" "BadWord" false) (xs_NotSimple_BadText : SubT K "NotSimple" "BadText" false) (xs_TooManyEdits_BadText : SubT K "TooManyEdits" "BadText" false) (xs_Busy_BadText : SubT K "Busy" "BadText" false) (xs_LastLetter_BadText : SubT K "LastLetter" "BadText" false) (xs_TooLong_BadText : SubT K "TooLong" "BadText" false) (xs_BadWord_BadText : SubT K "BadWord" "BadText" false) (xs_BadLetter_BadText : SubT K "BadLetter" "BadText" false) (xs_BadText_BadText : SubT K "BadText" "BadText" true) (xs_NoPlace_BadText : SubT K "NoPlace" "BadText" false) (xs_NotSimple_NothingToUndo : SubT K "NotSimple" "NothingToUndo" false) (xs_TooManyEdits_NothingToUndo : SubT K "TooManyEdits" "NothingToUndo" false) (xs_Busy_NothingToUndo : SubT K "Busy" "NothingToUndo" false) (xs_LastLetter_NothingToUndo : SubT K "LastLetter" "NothingToUndo" false) (xs_TooLong_NothingToUndo : SubT K "TooLong" "NothingToUndo" false) (xs_BadWord_NothingToUndo : SubT K "BadWord" "NothingToUndo" false) (xs_BadLetter_NothingToUndo : SubT K "BadLetter" "NothingToUndo" false) (xs_BadText_NothingToUndo : SubT K "BadText" "NothingToUndo" false) (xs_NoPlace_NothingToUndo : SubT K "NoPlace" "NothingToUndo" false) (xs_NotSimple_NotSimple : SubT K "NotSimple" "NotSimple" true) (xs_TooManyEdits_NotSimple : SubT K "TooManyEdits" "NotSimple" false) (xs_Busy_NotSimple : SubT K "Busy" "NotSimple" false) (xs_LastLetter_NotSimple : SubT K "LastLetter" "NotSimple" false) (xs_TooLong_NotSimple : SubT K "TooLong" "NotSimple" false) (xs_BadWord_NotSimple : SubT K "BadWord" "NotSimple" false) (xs_BadLetter_NotSimple : SubT K "BadLetter" "NotSimple" false) (xs_BadText_NotSimple : SubT K "BadText" "NotSimple" false) (xs_NoPlace_NotSimple : SubT K "NoPlace" "NotSimple" false) (xs_NotSimple_LastLetter : SubT K "NotSimple" "LastLetter" false) (xs_TooManyEdits_LastLetter : SubT K "TooManyEdits" "LastLetter" false) (xs_Busy_LastLetter : SubT K "Busy" "LastLetter" false) (xs_LastLetter_LastLetter : SubT K "LastLetter" "LastLetter" true) (xs_TooLong_LastLetter : SubT K "TooLong" "LastLetter" false) (xs_BadWord_LastLetter : SubT K "BadWord" "LastLetter" false) (xs_BadLetter_LastLetter : SubT K "BadLetter" "LastLetter" false) (xs_BadText_LastLetter : SubT K "BadText" "LastLetter" false) (xs_NoPlace_LastLetter : SubT K "NoPlace" "LastLetter" false) (xs_NotSimple_TooManyEdits : SubT K "NotSimple" "TooManyEdits" false) (xs_TooManyEdits_TooManyEdits : SubT K "TooManyEdits" "TooManyEdits" true) (xs_Busy_TooManyEdits : SubT K "Busy" "TooManyEdits" false) (xs_LastLetter_TooManyEdits : SubT K "LastLetter" "TooManyEdits" false) (xs_TooLong_TooManyEdits : SubT K "TooLong" "TooManyEdits" false) (xs_BadWord_TooManyEdits : SubT K "BadWord" "TooManyEdits" false) (xs_BadLetter_TooManyEdits : SubT K "BadLetter" "TooManyEdits" false) (xs_BadText_TooManyEdits : SubT K "BadText" "TooManyEdits" false) (xs_NoPlace_TooManyEdits : SubT K "NoPlace" "TooManyEdits" false) (xs_NotSimple_TooLong : SubT K "NotSimple" "TooLong" false) (xs_TooManyEdits_TooLong : SubT K "TooManyEdits" "TooLong" false) (xs_Busy_TooLong : SubT K "Busy" "TooLong" false) (xs_LastLetter_TooLong : SubT K "LastLetter" "TooLong" false) (xs_TooLong_TooLong : SubT K "TooLong" "TooLong" true) (xs_BadWord_TooLong : SubT K "BadWord" "TooLong" false) (xs_BadLetter_TooLong : SubT K "BadLetter" "TooLong" false) (xs_BadText_TooLong : SubT K "BadText" "TooLong" false) (xs_NoPlace_TooLong : SubT K "NoPlace" "TooLong" false) (xs_NotSimple_Rejected : SubT K "NotSimple" "Rejected" false) (xs_TooManyEdits_Rejected : SubT K "TooManyEdits" "Rejected" false) (xs_Busy_Rejected : SubT K "Busy" "Rejected" false) (xs_LastLetter_Rejected : SubT K "LastLetter" "Rejected" false) (xs_TooLong_Rejected : SubT K "TooLong" "Rejected" false) (xs_BadWord_Rejected : SubT K "BadWord" "Rejected" false) (xs_BadLetter_Rejected : SubT K "BadLetter" "Rejected" false) (xs_BadText_Rejected : SubT K "BadText" "Rejected" false) (xs_NoPlace_Rejected : SubT K "NoPlace" "Rejected" false) (xs_NotSimple_NoVersion : SubT K "NotSimple" "NoVersion" false) (xs_TooManyEdits_NoVersion : SubT K "TooManyEdits" "NoVersion" false) (xs_Busy_NoVersion : SubT K "Busy" "NoVersion" false) (xs_LastLetter_NoVersion : SubT K "LastLetter" "NoVersion" false) (xs_TooLong_NoVersion : SubT K "TooLong" "NoVersion" false) (xs_BadWord_NoVersion : SubT K "BadWord" "NoVersion" false) (xs_BadLetter_NoVersion : SubT K "BadLetter" "NoVersion" false) (xs_BadText_NoVersion : SubT K "BadText" "NoVersion" false) (xs_NoPlace_NoVersion : SubT K "NoPlace" "NoVersion" false) (xs_NotSimple_NoPlace : SubT K "NotSimple" "NoPlace" false) (xs_TooManyEdits_NoPlace : SubT K "TooManyEdits" "NoPlace" false) (xs_Busy_NoPlace : SubT K "Busy" "NoPlace" false) (xs_LastLetter_NoPlace : SubT K "LastLetter" "NoPlace" false) (xs_TooLong_NoPlace : SubT K "TooLong" "NoPlace" false) (xs_BadWord_NoPlace : SubT K "BadWord" "NoPlace" false) (xs_BadLetter_NoPlace : SubT K "BadLetter" "NoPlace" false) (xs_BadText_NoPlace : SubT K "BadText" "NoPlace" false) (xs_NoPlace_NoPlace : SubT K "NoPlace" "NoPlace" true) (xs_NotSimple_NoIndex : SubT K "NotSimple" "NoIndex" false) (xs_TooManyEdits_NoIndex : SubT K "TooManyEdits" "NoIndex" false) (xs_Busy_NoIndex : SubT K "Busy" "NoIndex" false) (xs_LastLetter_NoIndex : SubT K "LastLetter" "NoIndex" false) (xs_TooLong_NoIndex : SubT K "TooLong" "NoIndex" false) (xs_BadWord_NoIndex : SubT K "BadWord" "NoIndex" false) (xs_BadLetter_NoIndex : SubT K "BadLetter" "NoIndex" false) (xs_BadText_NoIndex : SubT K "BadText" "NoIndex" false) (xs_NoPlace_NoIndex : SubT K "NoPlace" "NoIndex" false) (xs_NotSimple_LookupError : SubT K "NotSimple" "LookupError" false) (xs_TooManyEdits_LookupError : SubT K "TooManyEdits" "LookupError" false) (xs_Busy_LookupError : SubT K "Busy" "LookupError" false) (xs_LastLetter_LookupError : SubT K "LastLetter" "LookupError" false) (xs_TooLong_LookupError : SubT K "TooLong" "LookupError" false) (xs_BadWord_LookupError : SubT K "BadWord" "LookupError" false) (xs_BadLetter_LookupError : SubT K "BadLetter" "LookupError" false) (xs_BadText_LookupError : SubT K "BadText" "LookupError" false) (xs_NoPlace_LookupError : SubT K "NoPlace" "LookupError" true) (xs_NotSimple_ValueError : SubT K "NotSimple" "ValueError" true) (xs_TooManyEdits_ValueError : SubT K "TooManyEdits" "ValueError" true) (xs_Busy_ValueError : SubT K "Busy" "ValueError" true) (xs_LastLetter_ValueError : SubT K "LastLetter" "ValueError" true) (xs_TooLong_ValueError : SubT K "TooLong" "ValueError" true) (xs_BadWord_ValueError : SubT K "BadWord" "ValueError" true) (xs_BadLetter_ValueError : SubT K "BadLetter" "ValueError" true) (xs_BadText_ValueError : SubT K "BadText" "ValueError" true) (xs_NoPlace_ValueError : SubT K "NoPlace" "ValueError" false) (xs_NotSimple_TailError : SubT K "NotSimple" "TailError" true) (xs_TooManyEdits_TailError : SubT K "TooManyEdits" "TailError" true) (xs_Busy_TailError : SubT K "Busy" "TailError" true) (xs_LastLetter_TailError : SubT K "LastLetter" "TailError" true) (xs_TooLong_TailError : SubT K "TooLong" "TailError" true) (xs_BadWord_TailError : SubT K "BadWord" "TailError" true) (xs_BadLetter_TailError : SubT K "BadLetter" "TailError" true) (xs_BadText_TailError : SubT K "BadText" "TailError" true) (xs_NoPlace_TailError : SubT K "NoPlace" "TailError" false)
    (hp : ∀ (ds : List D) (g : Nat) (q : D → Nat → Prop) (ex : Exn → Nat → Prop), ds.length = 1 → d_l_nameR ds g q ex → w_l_name ex (kEndS q) (startD ["_law_error", "_law_names", "_law_flags", "_law_bases"] ds) g) : FnQB P w K mg base 1 "_law_name" ["_law_error"] (liftSpH K mg 1 d_l_nameR) :=
  fnQB_of F g (fnQS_of (wb := w_l_name) F sc_l_name (fun cdv A outer s H E p W0 ex hr hgd hot tk => (dss_cons (ds_set (i := 1) sc_l_name.nd rfl (.inl rfl) (DE.v (DN.fr (dn_lst (da_cons (de_str [66, 97, 100, 69, 100, 105, 116]) (da_cons (de_str [66, 97, 100, 69, 100, 105, 116, 115]) (da_cons (de_str [66, 97, 100, 76, 101, 116, 116, 101, 114]) (da_cons (de_str [66, 97, 100, 84, 101, 120, 116]) (da_cons (de_str [66, 97, 100, 87, 111, 114, 100]) (da_cons (de_str [66, 117, 115, 121]) (da_cons (de_str [76, 97, 115, 116, 76, 101, 116, 116, 101, 114]) (da_cons (de_str [78, 111, 116, 83, 105, 109, 112, 108, 101]) da_nil))))))))))))
      (dss_cons (ds_set (i := 1) sc_l_name.nd rfl (.inl rfl) (DE.v (DN.fr (dn_op opn_cat (DE.p (de_var (pv 1))) (DN.p (dn_lst (da_cons (de_str [78, 111, 116, 104, 105, 110, 103, 84, 111, 85, 110, 100, 111]) (da_cons (de_str [82, 101, 106, 101, 99, 116, 101, 100]) (da_cons (de_str [84, 111, 111, 76, 111, 110, 103]) (da_cons (de_str [84, 111, 111, 77, 97, 110, 121, 69, 100, 105, 116, 115]) (da_cons (de_str [78, 111, 73, 110, 100, 101, 120]) (da_cons (de_str [78, 111, 80, 108, 97, 99, 101]) (da_cons (de_str [78, 111, 86, 101, 114, 115, 105, 111, 110]) da_nil)))))))))))))
      (dss_cons (ds_set (i := 2) sc_l_name.nd rfl (.inl rfl) (DE.v (DN.fr (dn_lst (da_cons (de_isX (tbS_cons xs_NoPlace_BadEdit (tbS_cons xs_BadText_BadEdit (tbS_cons xs_BadLetter_BadEdit (tbS_cons xs_BadWord_BadEdit (tbS_cons xs_TooLong_BadEdit (tbS_cons xs_LastLetter_BadEdit (tbS_cons xs_Busy_BadEdit (tbS_cons xs_TooManyEdits_BadEdit (tbS_cons xs_NotSimple_BadEdit tbS_nil))))))))) (by simp) (DE.p (de_var (pv 0))) m_isinstance) (da_cons (de_isX (tbS_cons xs_NoPlace_BadEdits (tbS_cons xs_BadText_BadEdits (tbS_cons xs_BadLetter_BadEdits (tbS_cons xs_BadWord_BadEdits (tbS_cons xs_TooLong_BadEdits (tbS_cons xs_LastLetter_BadEdits (tbS_cons xs_Busy_BadEdits (tbS_cons xs_TooManyEdits_BadEdits (tbS_cons xs_NotSimple_BadEdits tbS_nil))))))))) (by simp) (DE.p (de_var (pv 0))) m_isinstance) (da_cons (de_isX (tbS_cons xs_NoPlace_BadLetter (tbS_cons xs_BadText_BadLetter (tbS_cons xs_BadLetter_BadLetter (tbS_cons xs_BadWord_BadLetter (tbS_cons xs_TooLong_BadLetter (tbS_cons xs_LastLetter_BadLetter (tbS_cons xs_Busy_BadLetter (tbS_cons xs_TooManyEdits_BadLetter (tbS_cons xs_NotSimple_BadLetter tbS_nil))))))))) (by simp) (DE.p (de_var (pv 0))) m_isinstance) da_nil)))))))
      (dss_cons (ds_set (i := 2) sc_l_name.nd rfl (.inl rfl) (DE.v (DN.fr (dn_op opn_cat (DE.p (de_var (pv 2))) (DN.p (dn_lst (da_cons (de_isX (tbS_cons xs_NoPlace_BadText (tbS_cons xs_BadText_BadText (tbS_cons xs_BadLetter_BadText (tbS_cons xs_BadWord_BadText (tbS_cons xs_TooLong_BadText (tbS_cons xs_LastLetter_BadText (tbS_cons xs_Busy_BadText (tbS_cons xs_TooManyEdits_BadText (tbS_cons xs_NotSimple_BadText tbS_nil))))))))) (by simp) (DE.p (de_var (pv 0))) m_isinstance) (da_cons (de_isX (tbS_cons xs_NoPlace_BadWord (tbS_cons xs_BadText_BadWord (tbS_cons xs_BadLetter_BadWord (tbS_cons xs_BadWord_BadWord (tbS_cons xs_TooLong_BadWord (tbS_cons xs_LastLetter_BadWord (tbS_cons xs_Busy_BadWord (tbS_cons xs_TooManyEdits_BadWord (tbS_cons xs_NotSimple_BadWord tbS_nil))))))))) (by simp) (DE.p (de_var (pv 0))) m_isinstance) (da_cons (de_isX (tbS_cons xs_NoPlace_Busy (tbS_cons xs_BadText_Busy (tbS_cons xs_BadLetter_Busy (tbS_cons xs_BadWord_Busy (tbS_cons xs_TooLong_Busy (tbS_cons xs_LastLetter_Busy (tbS_cons xs_Busy_Busy (tbS_cons xs_TooManyEdits_Busy (tbS_cons xs_NotSimple_Busy tbS_nil))))))))) (by simp) (DE.p (de_var (pv 0))) m_isinstance) da_nil)))))))))
      (dss_cons (ds_set (i := 2) sc_l_name.nd rfl (.inl rfl) (DE.v (DN.fr (dn_op opn_cat (DE.p (de_var (pv 2))) (DN.p (dn_lst (da_cons (de_isX (tbS_cons xs_NoPlace_LastLetter (tbS_cons xs_BadText_LastLetter (tbS_cons xs_BadLetter_LastLetter (tbS_cons xs_BadWord_LastLetter (tbS_cons xs_TooLong_LastLetter (tbS_cons xs_LastLetter_LastLetter (tbS_cons xs_Busy_LastLetter (tbS_cons xs_TooManyEdits_LastLetter (tbS_cons xs_NotSimple_LastLetter tbS_nil))))))))) (by simp) (DE.p (de_var (pv 0))) m_isinstance) (da_cons (de_isX (tbS_cons xs_NoPlace_NotSimple (tbS_cons xs_BadText_NotSimple (tbS_cons xs_BadLetter_NotSimple (tbS_cons xs_BadWord_NotSimple (tbS_cons xs_TooLong_NotSimple (tbS_cons xs_LastLetter_NotSimple (tbS_cons xs_Busy_NotSimple (tbS_cons xs_TooManyEdits_NotSimple (tbS_cons xs_NotSimple_NotSimple tbS_nil))))))))) (by simp) (DE.p (de_var (pv 0))) m_isinstance) (da_cons (de_isX (tbS_cons xs_NoPlace_NothingToUndo (tbS_cons xs_BadText_NothingToUndo (tbS_cons xs_BadLetter_NothingToUndo (tbS_cons xs_BadWord_NothingToUndo (tbS_cons xs_TooLong_NothingToUndo (tbS_cons xs_LastLetter_NothingToUndo (tbS_cons xs_Busy_NothingToUndo (tbS_cons xs_TooManyEdits_NothingToUndo (tbS_cons xs_NotSimple_NothingToUndo tbS_nil))))))))) (by simp) (DE.p (de_var (pv 0))) m_isinstance) da_nil)))))))))
      (dss_cons (ds_set (i := 2) sc_l_name.nd rfl (.inl rfl) (DE.v (DN.fr (dn_op opn_cat (DE.p (de_var (pv 2))) (DN.p (dn_lst (da_cons (de_isX (tbS_cons xs_NoPlace_Rejected (tbS_cons xs_BadText_Rejected (tbS_cons xs_BadLetter_Rejected (tbS_cons xs_BadWord_Rejected (tbS_cons xs_TooLong_Rejected (tbS_cons xs_LastLetter_Rejected (tbS_cons xs_Busy_Rejected (tbS_cons xs_TooManyEdits_Rejected (tbS_cons xs_NotSimple_Rejected tbS_nil))))))))) (by simp) (DE.p (de_var (pv 0))) m_isinstance) (da_cons (de_isX (tbS_cons xs_NoPlace_TooLong (tbS_cons xs_BadText_TooLong (tbS_cons xs_BadLetter_TooLong (tbS_cons xs_BadWord_TooLong (tbS_cons xs_TooLong_TooLong (tbS_cons xs_LastLetter_TooLong (tbS_cons xs_Busy_TooLong (tbS_cons xs_TooManyEdits_TooLong (tbS_cons xs_NotSimple_TooLong tbS_nil))))))))) (by simp) (DE.p (de_var (pv 0))) m_isinstance) (da_cons (de_isX (tbS_cons xs_NoPlace_TooManyEdits (tbS_cons xs_BadText_TooManyEdits (tbS_cons xs_BadLetter_TooManyEdits (tbS_cons xs_BadWord_TooManyEdits (tbS_cons xs_TooLong_TooManyEdits (tbS_cons xs_LastLetter_TooManyEdits (tbS_cons xs_Busy_TooManyEdits (tbS_cons xs_TooManyEdits_TooManyEdits (tbS_cons xs_NotSimple_TooManyEdits tbS_nil))))))))) (by simp) (DE.p (de_var (pv 0))) m_isinstance) da_nil)))))))))
      (dss_cons (ds_set (i := 2) sc_l_name.nd rfl (.inl rfl) (DE.v (DN.fr (dn_op opn_cat (DE.p (de_var (pv 2))) (DN.p (dn_lst (da_cons (de_isX (tbS_cons xs_NoPlace_NoIndex (tbS_cons xs_BadText_NoIndex (tbS_cons xs_BadLetter_NoIndex (tbS_cons xs_BadWord_NoIndex (tbS_cons xs_TooLong_NoIndex (tbS_cons xs_LastLetter_NoIndex (tbS_cons xs_Busy_NoIndex (tbS_cons xs_TooManyEdits_NoIndex (tbS_cons xs_NotSimple_NoIndex tbS_nil))))))))) (by simp) (DE.p (de_var (pv 0))) m_isinstance) (da_cons (de_isX (tbS_cons xs_NoPlace_NoPlace (tbS_cons xs_BadText_NoPlace (tbS_cons xs_BadLetter_NoPlace (tbS_cons xs_BadWord_NoPlace (tbS_cons xs_TooLong_NoPlace (tbS_cons xs_LastLetter_NoPlace (tbS_cons xs_Busy_NoPlace (tbS_cons xs_TooManyEdits_NoPlace (tbS_cons xs_NotSimple_NoPlace tbS_nil))))))))) (by simp) (DE.p (de_var (pv 0))) m_isinstance) (da_cons (de_isX (tbS_cons xs_NoPlace_NoVersion (tbS_cons xs_BadText_NoVersion (tbS_cons xs_BadLetter_NoVersion (tbS_cons xs_BadWord_NoVersion (tbS_cons xs_TooLong_NoVersion (tbS_cons xs_LastLetter_NoVersion (tbS_cons xs_Busy_NoVersion (tbS_cons xs_TooManyEdits_NoVersion (tbS_cons xs_NotSimple_NoVersion tbS_nil))))))))) (by simp) (DE.p (de_var (pv 0))) m_isinstance) da_nil)))))))))
      (dss_cons (ds_set (i := 3) sc_l_name.nd rfl (.inl rfl) (DE.v (DN.fr (dn_lst (da_cons (de_isX (tbS_cons xs_NoPlace_TailError (tbS_cons xs_BadText_TailError (tbS_cons xs_BadLetter_TailError (tbS_cons xs_BadWord_TailError (tbS_cons xs_TooLong_TailError (tbS_cons xs_LastLetter_TailError (tbS_cons xs_Busy_TailError (tbS_cons xs_TooManyEdits_TailError (tbS_cons xs_NotSimple_TailError tbS_nil))))))))) (by simp) (DE.p (de_var (pv 0))) m_isinstance) (da_cons (de_isX (tbS_cons xs_NoPlace_ValueError (tbS_cons xs_BadText_ValueError (tbS_cons xs_BadLetter_ValueError (tbS_cons xs_BadWord_ValueError (tbS_cons xs_TooLong_ValueError (tbS_cons xs_LastLetter_ValueError (tbS_cons xs_Busy_ValueError (tbS_cons xs_TooManyEdits_ValueError (tbS_cons xs_NotSimple_ValueError tbS_nil))))))))) (by simp) (DE.p (de_var (pv 0))) m_isinstance) (da_cons (de_isX (tbS_cons xs_NoPlace_LookupError (tbS_cons xs_BadText_LookupError (tbS_cons xs_BadLetter_LookupError (tbS_cons xs_BadWord_LookupError (tbS_cons xs_TooLong_LookupError (tbS_cons xs_LastLetter_LookupError (tbS_cons xs_Busy_LookupError (tbS_cons xs_TooManyEdits_LookupError (tbS_cons xs_NotSimple_LookupError tbS_nil))))))))) (by simp) (DE.p (de_var (pv 0))) m_isinstance) da_nil)))))))
      (dss_cons (ds_if (DW.t (dw_or (dt_cmp (opd_ne hr.units) (DE.p (de_count (DE.p (de_var (pv 2))) de_bl)) (DE.p de_int) (nomark _)) (dw_or1 (dt_cmp (opd_ne hr.units) (DE.p (de_var (pv 3))) (DE.p (de_ix (DN.p (dn_lst (da_cons (DN.fr (dn_lst (da_cons de_bl (da_cons de_bl (da_cons de_bl da_nil))))) (da_cons (DN.fr (dn_lst (da_cons de_bl (da_cons de_bl (da_cons de_bl da_nil))))) da_nil)))) (DE.p (de_callTy calld_int (by rfl) m_int (by decide +kernel) (dap_cons (DE.p (de_cmp opd_gt (DE.p (de_index (DE.p (de_var (pv 2))) de_bl)) (DE.p de_int) (nomark _))) dap_nil))) (fun _ _ => rfl))) (nomark _))))) (dss_one (ds_ret (de_str [115, 101, 118, 101, 114, 97, 108]))) dss_nil)
      (dss_one (ds_ret (de_ix (DE.p (de_var (pv 1))) (DE.p (de_index (DE.p (de_var (pv 2))) de_bl)) (fun _ _ => rfl)))))))))))))) hp) (F.binds (ps := ["_law_error"]) fun _ _ _ _ _ _ us hl => match us, hl with | [_], _ => rfl)
theorem sc_l_field : FnScope ["_law_error"] ["_law_error"] (defScope s_l_field) := ⟨rfl, rfl, rfl, by decide +kernel, rfl, by decide +kernel, by decide +kernel⟩
def w_l_field (ex : Exn → stg.G → Prop) : SW stg :=
  (wSeq (wIfS (wB (wIsX [("NoPlace", true), ("BadText", false), ("BadLetter", true), ("BadWord", false), ("TooLong", false), ("LastLetter", false), ("Busy", false), ("TooManyEdits", false), ("NotSimple", false)] (wVar 0))) (wRet (wFldX "value" ["NoPlace", "BadLetter"] (wVar 0))) wNext)
    (wSeq (wIfS (wB (wIsX [("NoPlace", false), ("BadText", true), ("BadLetter", false), ("BadWord", false), ("TooLong", false), ("LastLetter", false), ("Busy", false), ("TooManyEdits", false), ("NotSimple", false)] (wVar 0))) (wRet (wFldX "index" ["BadText"] (wVar 0))) wNext)
    (wSeq (wIfS (wB (wIsX [("NoPlace", false), ("BadText", false), ("BadLetter", false), ("BadWord", false), ("TooLong", false), ("LastLetter", false), ("Busy", false), ("TooManyEdits", false), ("NotSimple", true)] (wVar 0))) (wRet (wFldX "place" ["NotSimple"] (wVar 0))) wNext)
    (wSeq (wIfS (wB (wIsX [("NoPlace", false), ("BadText", false), ("BadLetter", false), ("BadWord", false), ("TooLong", true), ("LastLetter", false), ("Busy", false), ("TooManyEdits", false), ("NotSimple", false)] (wVar 0))) (wRet (wFldX "limit" ["TooLong"] (wVar 0))) wNext)
    (wRet (wIf (wB (wIsX [("NoPlace", false), ("BadText", false), ("BadLetter", false), ("BadWord", true), ("TooLong", false), ("LastLetter", false), ("Busy", false), ("TooManyEdits", false), ("NotSimple", false)] (wVar 0))) (wFldX "error" ["BadWord"] (wVar 0)) (wC .non)))))))
theorem ok_l_field {P : Program} {w : World} {K : PySem.W.Frag} {mg : Str → Option Value} {base : Heap} {f : Addr} {fd : FuncData} (F : Fun K "_law_field" "_law_field" s_l_field f fd) (g : mg "_law_field" = some (.ref f)) (m_isinstance : mg "isinstance" = none) (xs_NotSimple_NoVersion : SubT K "NotSimple" "NoVersion" false) (xs_NotSimple_NoPlace : SubT K "NotSimple" "NoPlace" false) (xs_NotSimple_NoIndex : SubT K "NotSimple" "NoIndex" false) (xs_NotSimple_BadLetter : SubT K "NotSimple" "BadLetter" false) (xs_TooManyEdits_NoVersion : SubT K "TooManyEdits" "NoVersion" false) (xs_TooManyEdits_NoPlace : SubT K "TooManyEdits" "NoPlace" false) (xs_TooManyEdits_NoIndex : SubT K "TooManyEdits" "NoIndex" false) (xs_TooManyEdits_BadLetter : SubT K "TooManyEdits" "BadLetter" false) (xs_Busy_NoVersion : SubT K "Busy" "NoVersion" false) (xs_Busy_NoPlace : SubT K "Busy" "NoPlace" false) (xs_Busy_NoIndex : SubT K "Busy" "NoIndex" false) (xs_Busy_BadLetter : SubT K "Busy" "BadLetter" false) (xs_LastLetter_NoVersion : SubT K "LastLetter" "NoVersion" false) (xs_LastLetter_NoPlace : SubT K "LastLetter" "NoPlace" false) (xs_LastLetter_NoIndex : SubT K "LastLetter" "NoIndex" false) (xs_LastLetter_BadLetter : SubT K "LastLetter" "BadLetter" false) (xs_TooLong_NoVersion : SubT K "TooLong" "NoVersion" false) (xs_TooLong_NoPlace : SubT K "TooLong" "NoPlace" false) (xs_TooLong_NoIndex : SubT K "TooLong" "NoIndex" false) (xs_TooLong_BadLetter : SubT K "TooLong" "BadLetter" false) (xs_BadWord_NoVersion : SubT K "BadWord" "NoVersion" false) (xs_BadWord_NoPlace : SubT K "BadWord" "NoPlace" false) (xs_BadWord_NoIndex : SubT K "BadWord" "NoIndex" false) (xs_BadWord_BadLetter : SubT K "BadWord" "BadLetter" false) (xs_BadLetter_NoVersion : SubT K "BadLetter" "NoVersion" false) (xs_BadLetter_NoPlace : SubT K "BadLetter" "NoPlace" false) (xs_BadLetter_NoIndex : SubT K "BadLetter" "NoIndex" false) (xs_BadLetter_BadLetter : SubT K "BadLetter" "BadLetter" true) (xs_BadText_NoVersion : SubT K "BadText" "NoVersion" false) (xs_BadText_NoPlace : SubT K "BadText" "NoPlace" false) (xs_BadText_NoIndex : SubT K "BadText" "NoIndex" false) (xs_BadText_BadLetter : SubT K "BadText" "BadLetter" false) (xs_NoPlace_NoVersion : SubT K "NoPlace" "NoVersion" false) (xs_NoPlace_NoPlace : SubT K "NoPlace" "NoPlace" true) (xs_NoPlace_NoIndex : SubT K "NoPlace" "NoIndex" false) (xs_NoPlace_BadLetter : SubT K "NoPlace" "BadLetter" false) (xf_BadLetter_value : FldT K "BadLetter" "value") (xf_NoPlace_value : FldT K "NoPlace" "value") (xs_NotSimple_Rejected : SubT K "NotSimple" "Rejected" false) (xs_NotSimple_BadText : SubT K "NotSimple" "BadText" false) (xs_NotSimple_BadEdit : SubT K "NotSimple" "BadEdit" false) (xs_TooManyEdits_Rejected : SubT K "TooManyEdits" "Rejected" false) (xs_TooManyEdits_BadText : SubT K "TooManyEdits" "BadText" false) (xs_TooManyEdits_BadEdit : SubT K "TooManyEdits" "BadEdit" false) (xs_Busy_Rejected : SubT K "Busy" "Rejected" false) (xs_Busy_BadText : SubT K "Busy" "BadText" false) (xs_Busy_BadEdit : SubT K "Busy" "BadEdit" false) (xs_LastLetter_Rejected : SubT K "LastLetter" "Rejected" false) (xs_LastLetter_BadText : SubT K "LastLetter" "BadText" false) (xs_LastLetter_BadEdit : SubT K "LastLetter" "BadEdit" false) (xs_TooLong_Rejected : SubT K "TooLong" "Rejected" false) (xs_TooLong_BadText : SubT K "TooLong" "BadText" false) (xs_TooLong_BadEdit : SubT K "TooLong" "BadEdit" false) (xs_BadWord_Rejected : SubT K "BadWord" "Rejected" false) (xs_BadWord_BadText : SubT K "BadWord" "BadText" false) (xs_BadWord_BadEdit : SubT K "BadWord" "BadEdit" false) (xs_BadLetter_Rejected : SubT K "BadLetter" "Rejected" false) (xs_BadLetter_BadText : SubT K "BadLetter" "BadText" false) (xs_BadLetter_BadEdit : SubT K "BadLetter" "BadEdit" false) (xs_BadText_Rejected : SubT K "BadText" "Rejected" false) (xs_BadText_BadText : SubT K "BadText" "BadText" true) (xs_BadText_BadEdit : SubT K "BadText" "BadEdit" false) (xs_NoPlace_Rejected : SubT K "NoPlace" "Rejected" false) (xs_NoPlace_BadText : SubT K "NoPlace" "BadText" false) (xs_NoPlace_BadEdit : SubT K "NoPlace" "BadEdit" false) (xf_BadText_index : FldT K "BadText" "index") (xs_NotSimple_NotSimple : SubT K "NotSimple" "NotSimple" true) (xs_TooManyEdits_NotSimple : SubT K "TooManyEdits" "NotSimple" false) (xs_Busy_NotSimple : SubT K "Busy" "NotSimple" false) (xs_LastLetter_NotSimple : SubT K "LastLetter" "NotSimple" false) (xs_TooLong_NotSimple : SubT K "TooLong" "NotSimple" false) (xs_BadWord_NotSimple : SubT K "BadWord" "NotSimple" false) (xs_BadLetter_NotSimple : SubT K "BadLetter" "NotSimple" false) (xs_BadText_NotSimple : SubT K "BadText" "NotSimple" false) (xs_NoPlace_NotSimple : SubT K "NoPlace" "NotSimple" false) (xf_NotSimple_place : FldT K "NotSimple" "place") (xs_NotSimple_TooLong : SubT K "NotSimple" "TooLong" false) (xs_TooManyEdits_TooLong : SubT K "TooManyEdits" "TooLong" false) (xs_Busy_TooLong : SubT K "Busy" "TooLong" false) (xs_LastLetter_TooLong : SubT K "LastLetter" "TooLong" false) (xs_TooLong_TooLong : SubT K "TooLong" "TooLong" true) (xs_BadWord_TooLong : SubT K "BadWord" "TooLong" false) (xs_BadLetter_TooLong : SubT K "BadLetter" "TooLong" false) (xs_BadText_TooLong : SubT K "BadText" "TooLong" false) (xs_NoPlace_TooLong : SubT K "NoPlace" "TooLong" false) (xf_TooLong_limit : FldT K "TooLong" "limit") (xs_NotSimple_BadWord : SubT K "NotSimple" "BadWord" false) (xs_TooManyEdits_BadWord : SubT K "TooManyEdits" "BadWord" false) (xs_Busy_BadWord : SubT K "Busy" "BadWord" false) (xs_LastLetter_BadWord : SubT K "LastLetter" "BadWord" false) (xs_TooLong_BadWord : SubT K "TooLong" "BadWord" false) (xs_BadWord_BadWord : SubT K "BadWord" "BadWord" true) (xs_BadLetter_BadWord : SubT K "BadLetter" "BadWord" false) (xs_BadText_BadWord : SubT K "BadText" "BadWord" false) (xs_NoPlace_BadWord : SubT K "NoPlace" "BadWord" false) (xf_BadWord_error : FldT K "BadWord" "error")
    (hp : ∀ (ds : List D) (g : Nat) (q : D → Nat → Prop) (ex : Exn → Nat → Prop), ds.length = 1 → d_l_fieldR ds g q ex → w_l_field ex (kEndS q) (startD ["_law_error"] ds) g) : FnQB P w K mg base 1 "_law_field" ["_law_error"] (liftSpH K mg 1 d_l_fieldR) :=
  fnQB_of F g (fnQS_of (wb := w_l_field) F sc_l_field (fun cdv A outer s H E p W0 ex hr hgd hot tk => (dss_cons (ds_if (dt_val (de_isXT (tbA_cons (d := true) (subA_cons xs_NoPlace_BadLetter (subA_cons xs_NoPlace_NoIndex (subA_cons xs_NoPlace_NoPlace (subA_one xs_NoPlace_NoVersion)))) (tbA_cons (d := false) (subA_cons xs_BadText_BadLetter (subA_cons xs_BadText_NoIndex (subA_cons xs_BadText_NoPlace (subA_one xs_BadText_NoVersion)))) (tbA_cons (d := true) (subA_cons xs_BadLetter_BadLetter (subA_cons xs_BadLetter_NoIndex (subA_cons xs_BadLetter_NoPlace (subA_one xs_BadLetter_NoVersion)))) (tbA_cons (d := false) (subA_cons xs_BadWord_BadLetter (subA_cons xs_BadWord_NoIndex (subA_cons xs_BadWord_NoPlace (subA_one xs_BadWord_NoVersion)))) (tbA_cons (d := false) (subA_cons xs_TooLong_BadLetter (subA_cons xs_TooLong_NoIndex (subA_cons xs_TooLong_NoPlace (subA_one xs_TooLong_NoVersion)))) (tbA_cons (d := false) (subA_cons xs_LastLetter_BadLetter (subA_cons xs_LastLetter_NoIndex (subA_cons xs_LastLetter_NoPlace (subA_one xs_LastLetter_NoVersion)))) (tbA_cons (d := false) (subA_cons xs_Busy_BadLetter (subA_cons xs_Busy_NoIndex (subA_cons xs_Busy_NoPlace (subA_one xs_Busy_NoVersion)))) (tbA_cons (d := false) (subA_cons xs_TooManyEdits_BadLetter (subA_cons xs_TooManyEdits_NoIndex (subA_cons xs_TooManyEdits_NoPlace (subA_one xs_TooManyEdits_NoVersion)))) (tbA_cons (d := false) (subA_cons xs_NotSimple_BadLetter (subA_cons xs_NotSimple_NoIndex (subA_cons xs_NotSimple_NoPlace (subA_one xs_NotSimple_NoVersion)))) tbA_nil))))))))) (by simp) (by decide) (DE.p (de_var (pv 0))) m_isinstance (clsEs_cons (clsEs_cons (clsEs_cons (clsEs_cons .nil)))))) (dss_one (ds_ret (de_fldX (tbF_cons xf_NoPlace_value (tbF_cons xf_BadLetter_value tbF_nil)) (de_var (pv 0))))) dss_nil)
      (dss_cons (ds_if (dt_val (de_isXT (tbA_cons (d := false) (subA_cons xs_NoPlace_BadEdit (subA_cons xs_NoPlace_BadText (subA_one xs_NoPlace_Rejected))) (tbA_cons (d := true) (subA_cons xs_BadText_BadEdit (subA_cons xs_BadText_BadText (subA_one xs_BadText_Rejected))) (tbA_cons (d := false) (subA_cons xs_BadLetter_BadEdit (subA_cons xs_BadLetter_BadText (subA_one xs_BadLetter_Rejected))) (tbA_cons (d := false) (subA_cons xs_BadWord_BadEdit (subA_cons xs_BadWord_BadText (subA_one xs_BadWord_Rejected))) (tbA_cons (d := false) (subA_cons xs_TooLong_BadEdit (subA_cons xs_TooLong_BadText (subA_one xs_TooLong_Rejected))) (tbA_cons (d := false) (subA_cons xs_LastLetter_BadEdit (subA_cons xs_LastLetter_BadText (subA_one xs_LastLetter_Rejected))) (tbA_cons (d := false) (subA_cons xs_Busy_BadEdit (subA_cons xs_Busy_BadText (subA_one xs_Busy_Rejected))) (tbA_cons (d := false) (subA_cons xs_TooManyEdits_BadEdit (subA_cons xs_TooManyEdits_BadText (subA_one xs_TooManyEdits_Rejected))) (tbA_cons (d := false) (subA_cons xs_NotSimple_BadEdit (subA_cons xs_NotSimple_BadText (subA_one xs_NotSimple_Rejected))) tbA_nil))))))))) (by simp) (by decide) (DE.p (de_var (pv 0))) m_isinstance (clsEs_cons (clsEs_cons (clsEs_cons .nil))))) (dss_one (ds_ret (de_fldX (tbF_cons xf_BadText_index tbF_nil) (de_var (pv 0))))) dss_nil)
      (dss_cons (ds_if (dt_val (de_isX (tbS_cons xs_NoPlace_NotSimple (tbS_cons xs_BadText_NotSimple (tbS_cons xs_BadLetter_NotSimple (tbS_cons xs_BadWord_NotSimple (tbS_cons xs_TooLong_NotSimple (tbS_cons xs_LastLetter_NotSimple (tbS_cons xs_Busy_NotSimple (tbS_cons xs_TooManyEdits_NotSimple (tbS_cons xs_NotSimple_NotSimple tbS_nil))))))))) (by simp) (DE.p (de_var (pv 0))) m_isinstance)) (dss_one (ds_ret (de_fldX (tbF_cons xf_NotSimple_place tbF_nil) (de_var (pv 0))))) dss_nil)
      (dss_cons (ds_if (dt_val (de_isX (tbS_cons xs_NoPlace_TooLong (tbS_cons xs_BadText_TooLong (tbS_cons xs_BadLetter_TooLong (tbS_cons xs_BadWord_TooLong (tbS_cons xs_TooLong_TooLong (tbS_cons xs_LastLetter_TooLong (tbS_cons xs_Busy_TooLong (tbS_cons xs_TooManyEdits_TooLong (tbS_cons xs_NotSimple_TooLong tbS_nil))))))))) (by simp) (DE.p (de_var (pv 0))) m_isinstance)) (dss_one (ds_ret (de_fldX (tbF_cons xf_TooLong_limit tbF_nil) (de_var (pv 0))))) dss_nil)
      (dss_one (ds_ret (de_if (dt_val (de_isX (tbS_cons xs_NoPlace_BadWord (tbS_cons xs_BadText_BadWord (tbS_cons xs_BadLetter_BadWord (tbS_cons xs_BadWord_BadWord (tbS_cons xs_TooLong_BadWord (tbS_cons xs_LastLetter_BadWord (tbS_cons xs_Busy_BadWord (tbS_cons xs_TooManyEdits_BadWord (tbS_cons xs_NotSimple_BadWord tbS_nil))))))))) (by simp) (DE.p (de_var (pv 0))) m_isinstance)) (de_fldX (tbF_cons xf_BadWord_error tbF_nil) (de_var (pv 0))) de_non)))))))) hp) (F.binds (ps := ["_law_error"]) fun _ _ _ _ _ _ us hl => match us, hl with | [_], _ => rfl)
theorem sc_l_seen : FnScope ["_law_desk"] ["_law_desk"] (defScope s_l_seen) := ⟨rfl, rfl, rfl, by decide +kernel, rfl, by decide +kernel, by decide +kernel⟩
def w_l_seen (ex : Exn → stq.G → Prop) : SW stq :=
  (wRet (wCB cRepr (wACons (wL (wLst (wACons (wProp T_word (wVar 0)) (wACons (wProp T_order (wVar 0)) (wACons (wProp T_version (wVar 0)) (wACons (wMeth "edits" 1 T_edits (wVar 0) wANil (xk ex)) (wACons (wLenO T_len (wVar 0)) (wACons (wStrO T_str (wVar 0)) wANil)))))))) wANil)))
theorem ok_l_seen {P : Program} {w : World} {K : PySem.W.Frag} {mg : Str → Option Value} {base : Heap} {f : Addr} {fd : FuncData} (F : Fun K "_law_seen" "_law_seen" s_l_seen f fd) (g : mg "_law_seen" = some (.ref f)) (M_str : MethT P w K mg base 1 "__str__" ["self"] T_str) (M_len : MethT P w K mg base 1 "__len__" ["self"] T_len) (M_edits : MethT P w K mg base 1 "edits" ["self"] T_edits) (P_version : PropT P w K mg base 1 "version" T_version) (P_order : PropT P w K mg base 2 "order" T_order) (P_word : PropT P w K mg base 1 "word" T_word) (m_len : mg "len" = none) (m_repr : mg "repr" = none) (m_str : mg "str" = none) (m_sm : SmB base)
    (hp : ∀ (ds : List D) (g : Gq) (q : D → Gq → Prop) (ex : Exn → Gq → Prop), ds.length = 1 → d_l_seen ds g q ex → w_l_seen ex (kEndQ q) (startD ["_law_desk"] ds) g) : FnB P w K mg base 4 "_law_seen" ["_law_desk"] (liftSp K mg 1 d_l_seen) :=
  fnB_of F g (fnT_of (wb := w_l_seen) F sc_l_seen (fun cdv A outer s H E W0 ex hr hgd tk => (dss_one (ds_ret (de_callB (calld_repr m_sm hgd hr.units) (by rfl) m_repr (by decide +kernel) (dap_cons (DN.p (dn_lst (da_cons (de_prop P_word hgd (hr.mono (by decide)) (de_var (pv 0))) (da_cons (de_prop P_order hgd (hr.mono (by decide)) (de_var (pv 0))) (da_cons (de_prop P_version hgd (hr.mono (by decide)) (de_var (pv 0))) (da_cons (de_meth0 M_edits hgd (hr.mono (by decide)) tk (de_var (pv 0))) (da_cons (de_lenO M_len hgd (hr.mono (by decide)) m_len (de_var (pv 0))) (da_cons (de_strO M_str hgd (hr.mono (by decide)) m_str (de_var (pv 0))) da_nil)))))))) dap_nil))))) hp) (F.binds (ps := ["_law_desk"]) fun _ _ _ _ _ _ us hl => match us, hl with | [_], _ => rfl)
theorem sc_l_due_seen : FnScope ["_law_model", "_law_word_here", "_law_done", "_law_text"] ["_law_model"] (defScope s_l_due_seen) := ⟨rfl, rfl, rfl, by decide +kernel, rfl, by decide +kernel, by decide +kernel⟩
def w_l_due_seen (ex : Exn → stg.G → Prop) : SW stg :=
  (wSeq (wPar 1 2 (wI (wBin oIx (wBin oIx (wVar 0) (wC (.int 0))) (wNeg (wC (.int 1))))) (wI (wBin oIx (wVar 0) (wC (.int 1)))))
    (wSeq (wSet 3 (wI (wBin oAdd (wBin oAdd (wBin oAdd (wCB cStr (wACons (wCB cLen (wACons (wVar 1) wANil)) wANil)) (wC (.str [32, 108, 101, 116, 116, 101, 114, 115, 44, 32]))) (wCB cStr (wACons (wCB cLen (wACons (wVar 2) wANil)) wANil))) (wC (.str [32, 101, 100, 105, 116, 115])))))
    (wRet (wCB cRepr (wACons (wL (wLst (wACons (wVar 1) (wACons (wCallB 1 d_l_order_k65 (wACons (wVar 1) wANil) (xk ex)) (wACons (wCB cLen (wACons (wVar 2) wANil)) (wACons (wCB cTuple (wACons (wVar 2) wANil)) (wACons (wCB cLen (wACons (wVar 1) wANil)) (wACons (wVar 3) wANil)))))))) wANil)))))
theorem ok_l_due_seen {P : Program} {w : World} {K : PySem.W.Frag} {mg : Str → Option Value} {base : Heap} {f : Addr} {fd : FuncData} (F : Fun K "_law_due_seen" "_law_due_seen" s_l_due_seen f fd) (g : mg "_law_due_seen" = some (.ref f)) (F_l_order : FnB P w K mg base 1 "_law_order" ["_law_word_here"] (liftSp K mg 1 d_l_order_k65)) (m_len : mg "len" = none) (m_repr : mg "repr" = none) (m_str : mg "str" = none) (m_tuple : mg "tuple" = none) (m_sm : SmB base)
    (hp : ∀ (ds : List D) (g : Nat) (q : D → Nat → Prop) (ex : Exn → Nat → Prop), ds.length = 1 → d_l_due_seenV ds g q ex → w_l_due_seen ex (kEndS q) (startD ["_law_model", "_law_word_here", "_law_done", "_law_text"] ds) g) : FnB P w K mg base 2 "_law_due_seen" ["_law_model"] (liftSp K mg 1 d_l_due_seenV) :=
  fnB_of F g (fnS_of (wb := w_l_due_seen) F sc_l_due_seen (fun cdv A outer s H E W0 ex hr hgd tk => (dss_cons (ds_par (i := 1) (j := 2) rfl sc_l_due_seen.nd rfl rfl (by decide) rfl rfl (DE.v (de_ix (DE.p (de_ix (DE.p (de_var (pv 0))) (DE.p de_int) (fun _ _ => rfl))) (DE.p (de_neg de_int)) (fun _ _ => rfl))) (DE.v (de_ix (DE.p (de_var (pv 0))) (DE.p de_int) (fun _ _ => rfl))))
      (dss_cons (ds_set (i := 3) sc_l_due_seen.nd rfl (.inl rfl) (DE.v (de_op opd_add (DE.p (de_op opd_add (DE.p (de_op opd_add (DE.p (de_callTy calld_str (by rfl) m_str (by decide +kernel) (dap_cons (DE.p (de_callB calld_len (by rfl) m_len (by decide +kernel) (dap_cons (DE.p (de_var (pv 1))) dap_nil))) dap_nil))) (DE.p (de_str [32, 108, 101, 116, 116, 101, 114, 115, 44, 32])))) (DE.p (de_callTy calld_str (by rfl) m_str (by decide +kernel) (dap_cons (DE.p (de_callB calld_len (by rfl) m_len (by decide +kernel) (dap_cons (DE.p (de_var (pv 2))) dap_nil))) dap_nil))))) (DE.p (de_str [32, 101, 100, 105, 116, 115])))))
      (dss_one (ds_ret (de_callB (calld_repr m_sm hgd hr.units) (by rfl) m_repr (by decide +kernel) (dap_cons (DN.p (dn_lst (da_cons (de_var (pv 1)) (da_cons (de_callF F_l_order hgd hr tk (da_cons (de_var (pv 1)) da_nil)) (da_cons (de_callB calld_len (by rfl) m_len (by decide +kernel) (dap_cons (DE.p (de_var (pv 2))) dap_nil)) (da_cons (de_callTy calld_tuple (by rfl) m_tuple (by decide +kernel) (dap_cons (DE.p (de_var (pv 2))) dap_nil)) (da_cons (de_callB calld_len (by rfl) m_len (by decide +kernel) (dap_cons (DE.p (de_var (pv 1))) dap_nil)) (da_cons (de_var (pv 3)) da_nil)))))))) dap_nil))))))) hp) (F.binds (ps := ["_law_model"]) fun _ _ _ _ _ _ us hl => match us, hl with | [_], _ => rfl)
theorem sc_l_start : FnScope ["_law_stream_here", "_law_kind", "_law_most", "_law_word_here"] ["_law_stream_here", "_law_kind", "_law_most"] (defScope s_l_start) := ⟨rfl, rfl, rfl, by decide +kernel, rfl, by decide +kernel, by decide +kernel⟩
def w_l_start (ex : Exn → stg.G → Prop) : SW stg :=
  (wSeq (wSet 3 (wI (wCallB 2 d_l_word (wACons (wVar 0) (wACons (wVar 2) wANil)) (xk ex))))
    (wRet (wIf (wOr (wB (wBin oIn (wVar 1) (wTup (wACons (wC (.int 0)) (wACons (wC (.int 2)) wANil))))) (wB (wCallB 1 d_l_simple (wACons (wVar 3) wANil) (xk ex)))) (wVar 3) (wBin oAdd (wBin oMul (wC (.str [97])) (wBin oSub (wCB cLen (wACons (wVar 3) wANil)) (wC (.int 1)))) (wC (.str [98]))))))
theorem ok_l_start {P : Program} {w : World} {K : PySem.W.Frag} {mg : Str → Option Value} {base : Heap} {f : Addr} {fd : FuncData} (F : Fun K "_law_start" "_law_start" s_l_start f fd) (g : mg "_law_start" = some (.ref f)) (F_l_word : FnB P w K mg base 3 "_law_word" ["_law_stream_here", "_law_most"] (liftSp K mg 2 d_l_word)) (F_l_is_simple : FnB P w K mg base 1 "_law_is_simple" ["_law_word_here"] (liftSp K mg 1 d_l_simple)) (m_len : mg "len" = none)
    (hp : ∀ (ds : List D) (g : Nat) (q : D → Nat → Prop) (ex : Exn → Nat → Prop), ds.length = 3 → d_l_start ds g q ex → w_l_start ex (kEndS q) (startD ["_law_stream_here", "_law_kind", "_law_most", "_law_word_here"] ds) g) : FnB P w K mg base 4 "_law_start" ["_law_stream_here", "_law_kind", "_law_most"] (liftSp K mg 3 d_l_start) :=
  fnB_of F g (fnS_of (wb := w_l_start) F sc_l_start (fun cdv A outer s H E W0 ex hr hgd tk => (dss_cons (ds_set (i := 3) sc_l_start.nd rfl (.inl rfl) (DE.v (de_callF F_l_word hgd hr tk (da_cons (de_var (pv 0)) (da_cons (de_var (pv 2)) da_nil)))))
      (dss_one (ds_ret (de_if (DW.t (dw_or (dt_cmp opd_in (DE.p (de_var (pv 1))) (DE.p (de_tup (da_cons de_int (da_cons de_int da_nil)))) rfl) (dw_or1 (dt_val (de_callF F_l_is_simple hgd (hr.mono (by decide)) tk (da_cons (de_var (pv 3)) da_nil)))))) (de_var (pv 3)) (de_op opd_add (DE.p (de_op opd_mul (DE.p (de_str [97])) (DE.p (de_op opd_sub (DE.p (de_callB calld_len (by rfl) m_len (by decide +kernel) (dap_cons (DE.p (de_var (pv 3))) dap_nil))) (DE.p de_int))))) (DE.p (de_str [98])))))))) hp) (F.binds (ps := ["_law_stream_here", "_law_kind", "_law_most"]) fun _ _ _ _ _ _ us hl => match us, hl with | [_, _, _], _ => rfl)
theorem sc_l_spoilt : FnScope ["_law_stream_here", "_law_text", "_law_words", "_law_spot", "_law_place", "_law_way", "_law_sign", "_law_word_here"] ["_law_stream_here", "_law_text"] (defScope s_l_spoilt) := ⟨rfl, rfl, rfl, by decide +kernel, rfl, by decide +kernel, by decide +kernel⟩
def w_l_spoilt (ex : Exn → stg.G → Prop) : SW stg :=
  (wSeq (wPar 2 3 (wI (wL (wSplit (wVar 1) (wC (.str [32]))))) (wI (wCallB 2 d_l_draw (wACons (wVar 0) (wACons (wBin oAdd (wCB cLen (wACons (wVar 1) wANil)) (wC (.int 1))) wANil)) (xk ex))))
    (wSeq (wPar 4 5 (wI (wCallB 2 d_l_draw (wACons (wVar 0) (wACons (wCB cLen (wACons (wVar 2) wANil)) wANil)) (xk ex))) (wI (wCallB 2 d_l_draw (wACons (wVar 0) (wACons (wC (.int 7)) wANil)) (xk ex))))
    (wSeq (wSet 6 (wI (wCallB 2 d_l_pick (wACons (wVar 0) (wACons (wL (wLst (wACons (wC (.str [48])) (wACons (wC (.str [49])) (wACons (wC (.str [97])) (wACons (wC (.str [32])) (wACons (wC (.str [45])) (wACons (wC (.str [43])) (wACons (wC (.str [10])) (wACons (wC (.str [122])) (wACons (wC (.str [95])) (wACons (wC (.str [65])) (wACons (wC (.str [57])) (wACons (wC (.str [119, 111, 114, 100])) wANil)))))))))))))) wANil)) (xk ex))))
    (wSeq (wIfS (wB (wBin oLt (wVar 5) (wC (.int 4)))) (wRet (wBin oAdd (wBin oAdd (wSl (wVar 1) wONone (wOSome (wVar 3))) (wBin oIx (wL (wLst (wACons (wVar 6) (wACons (wC (.str [])) (wACons (wVar 6) (wACons (wC (.str [])) wANil)))))) (wVar 5))) (wSl (wVar 1) (wOSome (wBin oAdd (wVar 3) (wCB cInt (wACons (wBin oGt (wVar 5) (wC (.int 0))) wANil)))) wONone))) wNext)
    (wSeq (wSet 7 (wI (wCallB 2 d_l_pick (wACons (wVar 0) (wACons (wL (wLst (wACons (wC (.str [])) (wACons (wC (.str [48, 48])) (wACons (wC (.str [45, 48])) (wACons (wC (.str [48, 49])) (wACons (wC (.str [45, 49])) (wACons (wC (.str [50, 52])) (wACons (wC (.str [49, 48, 48])) (wACons (wC (.str [119, 111, 114, 100])) (wACons (wC (.str [111, 114, 100, 101, 114])) (wACons (wC (.str [66])) (wACons (wC (.str [98, 97, 110, 97, 110, 97])) (wACons (wBin oMul (wC (.str [57])) (wC (.int 30))) wANil)))))))))))))) wANil)) (xk ex))))
    (wRet (wJoin (wC (.str [32])) (wBin oIx (wL (wLst (wACons (wL (wBinN oCat (wL (wBinN oCat (wL (wSlN (wVar 2) wONone (wOSome (wVar 4)))) (wL (wLst (wACons (wVar 7) wANil))))) (wL (wSlN (wVar 2) (wOSome (wBin oAdd (wVar 4) (wC (.int 1)))) wONone)))) (wACons (wL (wBinN oCat (wL (wSlN (wVar 2) wONone (wOSome (wVar 4)))) (wL (wSlN (wVar 2) (wOSome (wBin oAdd (wVar 4) (wC (.int 1)))) wONone)))) (wACons (wL (wBinN oCat (wVar 2) (wL (wSlN (wVar 2) (wOSome (wVar 4)) wONone)))) wANil))))) (wBin oSub (wVar 5) (wC (.int 4)))))))))))
theorem ok_l_spoilt {P : Program} {w : World} {K : PySem.W.Frag} {mg : Str → Option Value} {base : Heap} {f : Addr} {fd : FuncData} (F : Fun K "_law_spoilt" "_law_spoilt" s_l_spoilt f fd) (g : mg "_law_spoilt" = some (.ref f)) (F_l_draw : FnB P w K mg base 1 "_law_draw" ["_law_stream_here", "_law_many"] (liftSp K mg 2 d_l_draw)) (F_l_pick : FnB P w K mg base 2 "_law_pick" ["_law_stream_here", "_law_items"] (liftSp K mg 2 d_l_pick)) (m_int : mg "int" = none) (m_len : mg "len" = none)
    (hp : ∀ (ds : List D) (g : Nat) (q : D → Nat → Prop) (ex : Exn → Nat → Prop), ds.length = 2 → d_l_spoilt_k66 ds g q ex → w_l_spoilt ex (kEndS q) (startD ["_law_stream_here", "_law_text", "_law_words", "_law_spot", "_law_place", "_law_way", "_law_sign", "_law_word_here"] ds) g) : FnB P w K mg base 3 "_law_spoilt" ["_law_stream_here", "_law_text"] (liftSp K mg 2 d_l_spoilt_k66) :=
  fnB_of F g (fnS_of (wb := w_l_spoilt) F sc_l_spoilt (fun cdv A outer s H E W0 ex hr hgd tk => (dss_cons (ds_par (i := 2) (j := 3) rfl sc_l_spoilt.nd rfl rfl (by decide) rfl rfl (DE.v (DN.fr (dn_split (de_var (pv 1)) (de_str [32])))) (DE.v (de_callF F_l_draw hgd (hr.mono (by decide)) tk (da_cons (de_var (pv 0)) (da_cons (de_op opd_add (DE.p (de_callB calld_len (by rfl) m_len (by decide +kernel) (dap_cons (DE.p (de_var (pv 1))) dap_nil))) (DE.p de_int)) da_nil)))))
      (dss_cons (ds_par (i := 4) (j := 5) rfl sc_l_spoilt.nd rfl rfl (by decide) rfl rfl (DE.v (de_callF F_l_draw hgd (hr.mono (by decide)) tk (da_cons (de_var (pv 0)) (da_cons (de_callB calld_len (by rfl) m_len (by decide +kernel) (dap_cons (DE.p (de_var (pv 2))) dap_nil)) da_nil)))) (DE.v (de_callF F_l_draw hgd (hr.mono (by decide)) tk (da_cons (de_var (pv 0)) (da_cons de_int da_nil)))))
      (dss_cons (ds_set (i := 6) sc_l_spoilt.nd rfl (.inl rfl) (DE.v (de_callF F_l_pick hgd hr tk (da_cons (de_var (pv 0)) (da_cons (DN.fr (dn_lst (da_cons (de_str [48]) (da_cons (de_str [49]) (da_cons (de_str [97]) (da_cons (de_str [32]) (da_cons (de_str [45]) (da_cons (de_str [43]) (da_cons (de_str [10]) (da_cons (de_str [122]) (da_cons (de_str [95]) (da_cons (de_str [65]) (da_cons (de_str [57]) (da_cons (de_str [119, 111, 114, 100]) da_nil)))))))))))))) da_nil)))))
      (dss_cons (ds_if (dt_cmp opd_lt (DE.p (de_var (pv 5))) (DE.p de_int) (nomark _)) (dss_one (ds_ret (de_op opd_add (DE.p (de_op opd_add (DE.p (de_slice (DE.p (de_var (pv 1))) do_none (do_some (de_var (pv 3))))) (DE.p (de_ix (DN.p (dn_lst (da_cons (de_var (pv 6)) (da_cons (de_str []) (da_cons (de_var (pv 6)) (da_cons (de_str []) da_nil)))))) (DE.p (de_var (pv 5))) (fun _ _ => rfl))))) (DE.p (de_slice (DE.p (de_var (pv 1))) (do_some (de_op opd_add (DE.p (de_var (pv 3))) (DE.p (de_callTy calld_int (by rfl) m_int (by decide +kernel) (dap_cons (DE.p (de_cmp opd_gt (DE.p (de_var (pv 5))) (DE.p de_int) (nomark _))) dap_nil))))) do_none))))) dss_nil)
      (dss_cons (ds_set (i := 7) sc_l_spoilt.nd rfl (.inl rfl) (DE.v (de_callF F_l_pick hgd hr tk (da_cons (de_var (pv 0)) (da_cons (DN.fr (dn_lst (da_cons (de_str []) (da_cons (de_str [48, 48]) (da_cons (de_str [45, 48]) (da_cons (de_str [48, 49]) (da_cons (de_str [45, 49]) (da_cons (de_str [50, 52]) (da_cons (de_str [49, 48, 48]) (da_cons (de_str [119, 111, 114, 100]) (da_cons (de_str [111, 114, 100, 101, 114]) (da_cons (de_str [66]) (da_cons (de_str [98, 97, 110, 97, 110, 97]) (da_cons (de_op opd_mul (DE.p (de_str [57])) (DE.p de_int)) da_nil)))))))))))))) da_nil)))))
      (dss_one (ds_ret (de_join (de_str [32]) (DE.p (de_ix (DN.p (dn_lst (da_cons (DN.fr (dn_op opn_cat (DN.p (dn_op opn_cat (DN.p (dn_slice (DE.p (de_var (pv 2))) do_none (do_some (de_var (pv 4))))) (DN.p (dn_lst (da_cons (de_var (pv 7)) da_nil))))) (DN.p (dn_slice (DE.p (de_var (pv 2))) (do_some (de_op opd_add (DE.p (de_var (pv 4))) (DE.p de_int))) do_none)))) (da_cons (DN.fr (dn_op opn_cat (DN.p (dn_slice (DE.p (de_var (pv 2))) do_none (do_some (de_var (pv 4))))) (DN.p (dn_slice (DE.p (de_var (pv 2))) (do_some (de_op opd_add (DE.p (de_var (pv 4))) (DE.p de_int))) do_none)))) (da_cons (DN.fr (dn_op opn_cat (DE.p (de_var (pv 2))) (DN.p (dn_slice (DE.p (de_var (pv 2))) (do_some (de_var (pv 4))) do_none)))) da_nil))))) (DE.p (de_op opd_sub (DE.p (de_var (pv 5))) (DE.p de_int))) (fun _ _ => rfl)))))))))))) hp) (F.binds (ps := ["_law_stream_here", "_law_text"]) fun _ _ _ _ _ _ us hl => match us, hl with | [_, _], _ => rfl)
theorem sc_l_read : FnScope ["_law_kind", "_law_text"] ["_law_kind", "_law_text"] (defScope s_l_read) := ⟨rfl, rfl, rfl, by decide +kernel, rfl, by decide +kernel, by decide +kernel⟩
def w_l_read (ex : Exn → stq.G → Prop) : SW stq :=
  (wSeq (wIfS (wB (wBin oEq (wVar 0) (wC (.int 0)))) (wRet (wCMeth 2 TC_read (wCl "Desk") (wACons (wVar 1) wANil) (xk ex))) wNext)
    (wSeq (wIfS (wB (wBin oEq (wVar 0) (wC (.int 1)))) (wRet (wCMeth 2 TC_read (wCl "SimpleDesk") (wACons (wVar 1) wANil) (xk ex))) wNext)
    (wRet (wIf (wB (wBin oEq (wVar 0) (wC (.int 2)))) (wCMeth 2 TC_read (wCl "LoggedDesk") (wACons (wVar 1) wANil) (xk ex)) (wCMeth 2 TC_read (wCl "LoggedSimpleDesk") (wACons (wVar 1) wANil) (xk ex))))))
theorem ok_l_read {P : Program} {w : World} {K : PySem.W.Frag} {mg : Str → Option Value} {base : Heap} {f : Addr} {fd : FuncData} (F : Fun K "_law_read" "_law_read" s_l_read f fd) (g : mg "_law_read" = some (.ref f)) (C_read : CmT P w K mg base 7 "read" ["cls", "text"] TC_read) (cn_Desk : ClN K mg "Desk") (cn_SimpleDesk : ClN K mg "SimpleDesk") (cn_LoggedDesk : ClN K mg "LoggedDesk") (cn_LoggedSimpleDesk : ClN K mg "LoggedSimpleDesk")
    (hp : ∀ (ds : List D) (g : Gq) (q : D → Gq → Prop) (ex : Exn → Gq → Prop), ds.length = 2 → d_l_read ds g q ex → w_l_read ex (kEndQ q) (startD ["_law_kind", "_law_text"] ds) g) : FnB P w K mg base 8 "_law_read" ["_law_kind", "_law_text"] (liftSp K mg 2 d_l_read) :=
  fnB_of F g (fnT_of (wb := w_l_read) F sc_l_read (fun cdv A outer s H E W0 ex hr hgd tk => (dss_cons (ds_if (dt_cmp (opd_eq hr.units) (DE.p (de_var (pv 0))) (DE.p de_int) (nomark _)) (dss_one (ds_ret (de_cmeth C_read hgd (hr.mono (by decide)) tk (de_cl cn_Desk) (da_cons (de_var (pv 1)) da_nil)))) dss_nil)
      (dss_cons (ds_if (dt_cmp (opd_eq hr.units) (DE.p (de_var (pv 0))) (DE.p de_int) (nomark _)) (dss_one (ds_ret (de_cmeth C_read hgd (hr.mono (by decide)) tk (de_cl cn_SimpleDesk) (da_cons (de_var (pv 1)) da_nil)))) dss_nil)
      (dss_one (ds_ret (de_if (dt_cmp (opd_eq hr.units) (DE.p (de_var (pv 0))) (DE.p de_int) (nomark _)) (de_cmeth C_read hgd (hr.mono (by decide)) tk (de_cl cn_LoggedDesk) (da_cons (de_var (pv 1)) da_nil)) (de_cmeth C_read hgd (hr.mono (by decide)) tk (de_cl cn_LoggedSimpleDesk) (da_cons (de_var (pv 1)) da_nil)))))))) hp) (F.binds (ps := ["_law_kind", "_law_text"]) fun _ _ _ _ _ _ us hl => match us, hl with | [_, _], _ => rfl)
theorem sc_l_told : FnScope ["_law_kind", "_law_text", "_law_desk", "_law_error", "_law_kinds"] ["_law_kind", "_law_text"] (defScope s_l_told) := ⟨rfl, rfl, rfl, by decide +kernel, rfl, by decide +kernel, by decide +kernel⟩
def w_l_told (ex : Exn → stq.G → Prop) : SW stq :=
  (wSeq (wTry (fun EX1 => (wSet 2 (wI (wCallB 2 d_l_read (wACons (wVar 0) (wACons (wVar 1) wANil)) EX1)))) [([("NoPlace", false), ("BadText", true), ("BadLetter", true), ("BadWord", true), ("TooLong", true), ("LastLetter", true), ("Busy", true), ("TooManyEdits", true), ("NotSimple", true)], 3, (wRet (wL (wLst (wACons (wCallB 1 (lq d_l_nameR) (wACons (wVar 3) wANil) xno) (wACons (wCallB 1 (lq d_l_fieldR) (wACons (wVar 3) wANil) xno) wANil))))))] (xk ex))
    (wSeq (wSet 4 (wI (wL (wLst (wACons (wIsO [("Desk", true), ("SimpleDesk", true), ("LoggedDesk", true), ("LoggedSimpleDesk", true)] (wVar 2)) (wACons (wIsO [("Desk", false), ("SimpleDesk", true), ("LoggedDesk", false), ("LoggedSimpleDesk", true)] (wVar 2)) (wACons (wIsO [("Desk", false), ("SimpleDesk", false), ("LoggedDesk", true), ("LoggedSimpleDesk", true)] (wVar 2)) wANil)))))))
    (wRet (wL (wLst (wACons (wCallB 1 d_l_seen (wACons (wVar 2) wANil) (xk ex)) (wACons (wProp T_pattern (wVar 2)) (wACons (wL (wListM "walk" TG_walk (wVar 2))) (wACons (wVar 4) (wACons (wIf (wB (wBin oGt (wVar 0) (wC (.int 1)))) (wProp T_log (wVar 2)) (wTup wANil)) wANil))))))))))
theorem ok_l_told {P : Program} {w : World} {K : PySem.W.Frag} {mg : Str → Option Value} {base : Heap} {f : Addr} {fd : FuncData} (F : Fun K "_law_told" "_law_told" s_l_told f fd) (g : mg "_law_told" = some (.ref f)) (F_l_read : FnB P w K mg base 8 "_law_read" ["_law_kind", "_law_text"] (liftSp K mg 2 d_l_read)) (F_l_field : FnQB P w K mg base 1 "_law_field" ["_law_error"] (liftSpH K mg 1 (lq d_l_fieldR))) (F_l_name : FnQB P w K mg base 1 "_law_name" ["_law_error"] (liftSpH K mg 1 (lq d_l_nameR))) (F_l_seen : FnB P w K mg base 4 "_law_seen" ["_law_desk"] (liftSp K mg 1 d_l_seen)) (P_log : PropT P w K mg base 1 "log" T_log) (G_walk : MethGT P w K mg base 1 "walk" ["self"] TG_walk) (P_pattern : PropT P w K mg base 1 "pattern" T_pattern) (m_isinstance : mg "isinstance" = none) (m_list : mg "list" = none) (xs_NotSimple_TailError : SubT K "NotSimple" "TailError" true) (xs_TooManyEdits_TailError : SubT K "TooManyEdits" "TailError" true) (xs_Busy_TailError : SubT K "Busy" "TailError" true) (xs_LastLetter_TailError : SubT K "LastLetter" "TailError" true) (xs_TooLong_TailError : SubT K "TooLong" "TailError" true) (xs_BadWord_TailError : SubT K "BadWord" "TailError" true) (xs_BadLetter_TailError : SubT K "BadLetter" "TailError" true) (xs_BadText_TailError : SubT K "BadText" "TailError" true) (xs_NoPlace_TailError : SubT K "NoPlace" "TailError" false) (ki_LoggedDesk : KitO K mg "LoggedDesk" [("Desk", false), ("SimpleDesk", false), ("LoggedDesk", true), ("LoggedSimpleDesk", true)]) (ki_SimpleDesk : KitO K mg "SimpleDesk" [("Desk", false), ("SimpleDesk", true), ("LoggedDesk", false), ("LoggedSimpleDesk", true)]) (ki_Desk : KitO K mg "Desk" [("Desk", true), ("SimpleDesk", true), ("LoggedDesk", true), ("LoggedSimpleDesk", true)])
    (hp : ∀ (ds : List D) (g : Gq) (q : D → Gq → Prop) (ex : Exn → Gq → Prop), ds.length = 2 → d_l_toldR ds g q ex → w_l_told ex (kEndQ q) (startD ["_law_kind", "_law_text", "_law_desk", "_law_error", "_law_kinds"] ds) g) : FnB P w K mg base 9 "_law_told" ["_law_kind", "_law_text"] (liftSp K mg 2 d_l_toldR) :=
  fnB_of F g (fnT_of (wb := w_l_told) F sc_l_told (fun cdv A outer s H E W0 ex hr hgd tk => (dss_cons (ds_try rfl rfl rfl sc_l_told.nd tk (fun pn1 xe1 EX1 B1 tk1 hp1 => (dss_one (ds_set (i := 2) sc_l_told.nd rfl (.inl rfl) (DE.v (de_callF F_l_read hgd (hr.mono (by decide)) tk1 (da_cons (de_var (pv 0)) (da_cons (de_var (pv 1)) da_nil))))))) (.cons (i := 3) rfl rfl (catch_name (tbS_cons xs_NoPlace_TailError (tbS_cons xs_BadText_TailError (tbS_cons xs_BadLetter_TailError (tbS_cons xs_BadWord_TailError (tbS_cons xs_TooLong_TailError (tbS_cons xs_LastLetter_TailError (tbS_cons xs_Busy_TailError (tbS_cons xs_TooManyEdits_TailError (tbS_cons xs_NotSimple_TailError tbS_nil)))))))))) (fun _ _ _ hot => (dss_one (ds_ret (DN.fr (dn_lst (da_cons (de_callQ F_l_name hgd (roomH_suite (hr.mono (by decide))) takes_none hot (da_cons (de_var (pv 3)) da_nil)) (da_cons (de_callQ F_l_field hgd (roomH_suite (hr.mono (by decide))) takes_none hot (da_cons (de_var (pv 3)) da_nil)) da_nil))))))) .nil))
      (dss_cons (ds_set (i := 4) sc_l_told.nd rfl (.inl rfl) (DE.v (DN.fr (dn_lst (da_cons (de_isO ki_Desk (de_var (pv 2)) m_isinstance) (da_cons (de_isO ki_SimpleDesk (de_var (pv 2)) m_isinstance) (da_cons (de_isO ki_LoggedDesk (de_var (pv 2)) m_isinstance) da_nil)))))))
      (dss_one (ds_ret (DN.fr (dn_lst (da_cons (de_callF F_l_seen hgd (hr.mono (by decide)) tk (da_cons (de_var (pv 2)) da_nil)) (da_cons (de_prop P_pattern hgd (hr.mono (by decide)) (de_var (pv 2))) (da_cons (DN.fr (dn_listM G_walk (hr.mono (by decide)) (de_var (pv 2)) m_list)) (da_cons (de_var (pv 4)) (da_cons (de_if (dt_cmp opd_gt (DE.p (de_var (pv 0))) (DE.p de_int) (nomark _)) (de_prop P_log hgd (hr.mono (by decide)) (de_var (pv 2))) (de_tup da_nil)) da_nil)))))))))))) hp) (F.binds (ps := ["_law_kind", "_law_text"]) fun _ _ _ _ _ _ us hl => match us, hl with | [_, _], _ => rfl)
theorem sc_l_expected : FnScope ["_law_kind", "_law_text", "_law_words", "_law_one", "_law_kinds"] ["_law_kind", "_law_text"] (defScope s_l_expected) := ⟨rfl, rfl, rfl, by decide +kernel, rfl, by decide +kernel, by decide +kernel⟩
def w_l_expected (ex : Exn → stg.G → Prop) : SW stg :=
  (wSeq (wIfS (wNot (wB (wIsi "str" (wVar 1)))) (wRet (wL (wLst (wACons (wC (.str [66, 97, 100, 84, 101, 120, 116])) (wACons (wC .non) wANil))))) wNext)
    (wSeq (wSet 2 (wI (wL (wSplit (wVar 1) (wC (.str [32]))))))
    (wSeq (wIfS (wB (wBin oNe (wBin oIx (wVar 2) (wC (.int 0))) (wC (.str [119, 111, 114, 100])))) (wRet (wL (wLst (wACons (wC (.str [66, 97, 100, 84, 101, 120, 116])) (wACons (wC (.int 0)) wANil))))) wNext)
    (wSeq (wIfS (wOr (wB (wBin oLt (wCB cLen (wACons (wVar 2) wANil)) (wC (.int 2)))) (wOr (wNot (wB (wChain oLe oLe (wC (.int 1)) (wCB cLen (wACons (wBin oIx (wVar 2) (wC (.int 1))) wANil)) (wC (.int 24))))) (wB (wBin (oNil not) (wL (wLc (wItems (wBin oIx (wVar 2) (wC (.int 1)))) (gwN 3) (wNot (wB (wCallB 1 d_l_letter (wACons (wVar 3) wANil) xno))) (wVar 3) [3])) (wL (wLst wANil)))))) (wRet (wL (wLst (wACons (wC (.str [66, 97, 100, 84, 101, 120, 116])) (wACons (wC (.int 1)) wANil))))) wNext)
    (wSeq (wIfS (wB (wBin oGt (wCB cLen (wACons (wVar 2) wANil)) (wC (.int 2)))) (wRet (wL (wLst (wACons (wC (.str [66, 97, 100, 84, 101, 120, 116])) (wACons (wC (.int 2)) wANil))))) wNext)
    (wSeq (wIfS (wAnd (wB (wBin oIn (wVar 0) (wTup (wACons (wC (.int 1)) (wACons (wC (.int 3)) wANil))))) (wNot (wB (wCallB 1 d_l_simple (wACons (wBin oIx (wVar 2) (wC (.int 1))) wANil) (xk ex))))) (wRet (wL (wLst (wACons (wC (.str [78, 111, 116, 83, 105, 109, 112, 108, 101])) (wACons (wBin oIx (wCallB 1 d_l_order_k65 (wACons (wBin oIx (wVar 2) (wC (.int 1))) wANil) (xk ex)) (wC (.int 0))) wANil))))) wNext)
    (wSeq (wSet 4 (wI (wL (wLst (wACons (wC (.bl true)) (wACons (wBin oIn (wVar 0) (wTup (wACons (wC (.int 1)) (wACons (wC (.int 3)) wANil)))) (wACons (wBin oIn (wVar 0) (wTup (wACons (wC (.int 2)) (wACons (wC (.int 3)) wANil)))) wANil)))))))
    (wRet (wL (wLst (wACons (wCallB 1 d_l_due_seenV (wACons (wL (wLst (wACons (wL (wLst (wACons (wBin oIx (wVar 2) (wC (.int 1))) wANil))) (wACons (wL (wLst wANil)) (wACons (wC (.bl false)) wANil))))) wANil) (xk ex)) (wACons (wC .non) (wACons (wL (wLst (wACons (wTup (wACons (wC (.int 0)) (wACons (wBin oIx (wVar 2) (wC (.int 1))) wANil))) wANil))) (wACons (wVar 4) (wACons (wTup wANil) wANil)))))))))))))))
theorem ok_l_expected {P : Program} {w : World} {K : PySem.W.Frag} {mg : Str → Option Value} {base : Heap} {f : Addr} {fd : FuncData} (F : Fun K "_law_expected" "_law_expected" s_l_expected f fd) (g : mg "_law_expected" = some (.ref f)) (F_l_is_letter : FnB P w K mg base 1 "_law_is_letter" ["_law_value"] (liftSp K mg 1 d_l_letter)) (F_l_is_simple : FnB P w K mg base 1 "_law_is_simple" ["_law_word_here"] (liftSp K mg 1 d_l_simple)) (F_l_order : FnB P w K mg base 1 "_law_order" ["_law_word_here"] (liftSp K mg 1 d_l_order_k65)) (F_l_due_seen : FnB P w K mg base 2 "_law_due_seen" ["_law_model"] (liftSp K mg 1 d_l_due_seenV)) (m_isinstance : mg "isinstance" = none) (m_len : mg "len" = none) (m_str : mg "str" = none)
    (hp : ∀ (ds : List D) (g : Nat) (q : D → Nat → Prop) (ex : Exn → Nat → Prop), ds.length = 2 → d_l_expected ds g q ex → w_l_expected ex (kEndS q) (startD ["_law_kind", "_law_text", "_law_words", "_law_one", "_law_kinds"] ds) g) : FnB P w K mg base 3 "_law_expected" ["_law_kind", "_law_text"] (liftSp K mg 2 d_l_expected) :=
  fnB_of F g (fnS_of (wb := w_l_expected) F sc_l_expected (fun cdv A outer s H E W0 ex hr hgd tk => (dss_cons (ds_if (dt_not (dt_val (de_isi kit_str (DE.p (de_var (pv 1))) m_isinstance m_str (by decide +kernel)))) (dss_one (ds_ret (DN.fr (dn_lst (da_cons (de_str [66, 97, 100, 84, 101, 120, 116]) (da_cons de_non da_nil)))))) dss_nil)
      (dss_cons (ds_set (i := 2) sc_l_expected.nd rfl (.inl rfl) (DE.v (DN.fr (dn_split (de_var (pv 1)) (de_str [32])))))
      (dss_cons (ds_if (dt_cmp (opd_ne hr.units) (DE.p (de_ix (DE.p (de_var (pv 2))) (DE.p de_int) (fun _ _ => rfl))) (DE.p (de_str [119, 111, 114, 100])) (nomark _)) (dss_one (ds_ret (DN.fr (dn_lst (da_cons (de_str [66, 97, 100, 84, 101, 120, 116]) (da_cons de_int da_nil)))))) dss_nil)
      (dss_cons (ds_if (DW.t (dw_or (dt_cmp opd_lt (DE.p (de_callB calld_len (by rfl) m_len (by decide +kernel) (dap_cons (DE.p (de_var (pv 2))) dap_nil))) (DE.p de_int) (nomark _)) (dw_or (dt_not (dt_chain opd_le opd_le (DE.p de_int) (DE.p (de_callB calld_len (by rfl) m_len (by decide +kernel) (dap_cons (DE.p (de_ix (DE.p (de_var (pv 2))) (DE.p de_int) (fun _ _ => rfl))) dap_nil))) (DE.p de_int))) (dw_or1 (dt_cmp (opd_neNil hr.units) (DN.p (dn_lc (own := [("_law_one", 3)]) rfl sc_l_expected.nd (di_seq (de_ix (DE.p (de_var (pv 2))) (DE.p de_int) (fun _ _ => rfl))) (blkOk_by (own := [("_law_one", 3)]) (N := ["_law_kind", "_law_text", "_law_words", "_law_one", "_law_kinds"]) (sc := defScope s_l_expected) (by decide +kernel)) (by decide) (fun _ _ _ _ _ => (dg_name (pg_name (i := 3) sc_l_expected.nd rfl (Or.inl rfl)))) (fun _ _ _ _ _ => (dts_one (dt_not (dt_val (de_callF F_l_is_letter hgd (hr.mono (by decide)) takesD_blk (da_cons (de_var (pv 3)) da_nil)))))) (fun _ _ _ _ _ => (de_var (pv 3))))) (DN.p (dn_lst da_nil)) (nomark _)))))) (dss_one (ds_ret (DN.fr (dn_lst (da_cons (de_str [66, 97, 100, 84, 101, 120, 116]) (da_cons de_int da_nil)))))) dss_nil)
      (dss_cons (ds_if (dt_cmp opd_gt (DE.p (de_callB calld_len (by rfl) m_len (by decide +kernel) (dap_cons (DE.p (de_var (pv 2))) dap_nil))) (DE.p de_int) (nomark _)) (dss_one (ds_ret (DN.fr (dn_lst (da_cons (de_str [66, 97, 100, 84, 101, 120, 116]) (da_cons de_int da_nil)))))) dss_nil)
      (dss_cons (ds_if (DW.t (dw_and (dt_cmp opd_in (DE.p (de_var (pv 0))) (DE.p (de_tup (da_cons de_int (da_cons de_int da_nil)))) rfl) (dw_and1 (dt_not (dt_val (de_callF F_l_is_simple hgd (hr.mono (by decide)) tk (da_cons (de_ix (DE.p (de_var (pv 2))) (DE.p de_int) (fun _ _ => rfl)) da_nil))))))) (dss_one (ds_ret (DN.fr (dn_lst (da_cons (de_str [78, 111, 116, 83, 105, 109, 112, 108, 101]) (da_cons (de_ix (DE.p (de_callF F_l_order hgd (hr.mono (by decide)) tk (da_cons (de_ix (DE.p (de_var (pv 2))) (DE.p de_int) (fun _ _ => rfl)) da_nil))) (DE.p de_int) (fun _ _ => rfl)) da_nil)))))) dss_nil)
      (dss_cons (ds_set (i := 4) sc_l_expected.nd rfl (.inl rfl) (DE.v (DN.fr (dn_lst (da_cons de_bl (da_cons (de_cmp opd_in (DE.p (de_var (pv 0))) (DE.p (de_tup (da_cons de_int (da_cons de_int da_nil)))) rfl) (da_cons (de_cmp opd_in (DE.p (de_var (pv 0))) (DE.p (de_tup (da_cons de_int (da_cons de_int da_nil)))) rfl) da_nil)))))))
      (dss_one (ds_ret (DN.fr (dn_lst (da_cons (de_callF F_l_due_seen hgd hr tk (da_cons (DN.fr (dn_lst (da_cons (DN.fr (dn_lst (da_cons (de_ix (DE.p (de_var (pv 2))) (DE.p de_int) (fun _ _ => rfl)) da_nil))) (da_cons (DN.fr (dn_lst da_nil)) (da_cons de_bl da_nil))))) da_nil)) (da_cons de_non (da_cons (DN.fr (dn_lst (da_cons (de_tup (da_cons de_int (da_cons (de_ix (DE.p (de_var (pv 2))) (DE.p de_int) (fun _ _ => rfl)) da_nil))) da_nil))) (da_cons (de_var (pv 4)) (da_cons (de_tup da_nil) da_nil))))))))))))))))) hp) (F.binds (ps := ["_law_kind", "_law_text"]) fun _ _ _ _ _ _ us hl => match us, hl with | [_, _], _ => rfl)
theorem sc_law : FnScope ["_law_script", "_law_stream_here", "_law_turn", "_law_text", "_law_texts", "_law_k", "_law_once", "_law_kind", "_law_value", "_law_shown"] ["_law_script"] (defScope s_law) := ⟨rfl, rfl, rfl, by decide +kernel, rfl, by decide +kernel, by decide +kernel⟩
def w_law : SW stq :=
  (wSeq (wFor (wRng1 (wC (.int 4))) (gwN 2) (wSeq (wSet 3 (wI (wBin oAdd (wC (.str [119, 111, 114, 100, 32])) (wBin oIx (wL (wLst (wACons (wCallB 2 (lq d_l_word) (wACons (wVar 1) (wACons (wC (.int 24)) wANil)) xno) (wACons (wCallB 3 (lq d_l_start) (wACons (wVar 1) (wACons (wC (.int 1)) (wACons (wC (.int 24)) wANil))) xno) wANil)))) (wBin oMod (wVar 2) (wC (.int 2)))))))
    (wSeq (wSet 4 (wI (wL (wLst (wACons (wVar 3) (wACons (wBin oAdd (wVar 3) (wC (.str [32]))) (wACons (wC (.str [119, 111, 114, 100])) (wACons (wBin oAdd (wC (.str [119, 111, 114, 100, 32])) (wVar 3)) (wACons (wCallB 1 (lq d_l_oddF) (wACons (wVar 1) wANil) xno) (wACons (wL (wLst (wACons (wVar 3) wANil))) (wACons (wBin oAdd (wVar 3) (wC (.str [65]))) (wACons (wC (.str [111, 114, 100, 101, 114, 32, 48])) (wACons (wC (.str [])) wANil)))))))))))))
    (wSeq (wFor (wRng1 (wC (.int 4))) (gwN 5) (wSeq (wSet 6 (wI (wCallB 2 (lq d_l_spoilt_k66) (wACons (wVar 1) (wACons (wVar 3) wANil)) xno)))
    (wSet 4 (wI (wL (wBinN oCat (wVar 4) (wL (wLst (wACons (wVar 6) (wACons (wCallB 2 (lq d_l_spoilt_k66) (wACons (wVar 1) (wACons (wVar 6) wANil)) xno) wANil))))))))))
    (wFor (wRng1 (wC (.int 4))) (gwN 7) (wFor (wItems (wVar 4)) (gwN 8) (wSeq (wSet 9 (wI (wCB cRepr (wACons (wVar 8) wANil))))
    (wIfS (wOr (wB (wBin oNe (wCB cRepr (wACons (wCallB 2 d_l_toldR (wACons (wVar 7) (wACons (wVar 8) wANil)) xno) wANil)) (wCB cRepr (wACons (wCallB 2 (lq d_l_expected) (wACons (wVar 7) (wACons (wVar 8) wANil)) xno) wANil)))) (wB (wBin oNe (wCB cRepr (wACons (wVar 8) wANil)) (wVar 9)))) (wRet (wC (.bl false))) wNext))))))))
    (wRet (wC (.bl true))))
theorem ok_law {P : Program} {w : World} {K : PySem.W.Frag} {mg : Str → Option Value} {base : Heap} {f fs : Addr} {fd fds : FuncData} (F : Fun K "law" "law" s_law f fd) (FS : FnG P w K mg base 1 fs fds ["_law_script"] (spStream K)) (gs : mg "_law_stream" = some (.ref fs)) (ks : PySem.W.keepIn K (.ref fs) = true) (bs : Binds K fds ["_law_script"] []) (F_l_start : FnB P w K mg base 4 "_law_start" ["_law_stream_here", "_law_kind", "_law_most"] (liftSp K mg 3 (lq d_l_start))) (F_l_word : FnB P w K mg base 3 "_law_word" ["_law_stream_here", "_law_most"] (liftSp K mg 2 (lq d_l_word))) (F_l_odd : FnB P w K mg base 2 "_law_odd" ["_law_stream_here"] (liftSp K mg 1 (lq d_l_oddF))) (F_l_spoilt : FnB P w K mg base 3 "_law_spoilt" ["_law_stream_here", "_law_text"] (liftSp K mg 2 (lq d_l_spoilt_k66))) (F_l_told : FnB P w K mg base 9 "_law_told" ["_law_kind", "_law_text"] (liftSp K mg 2 d_l_toldR)) (F_l_expected : FnB P w K mg base 3 "_law_expected" ["_law_kind", "_law_text"] (liftSp K mg 2 (lq d_l_expected))) (m_range : mg "range" = none) (m_repr : mg "repr" = none) (m_sm : SmB base)
    (hp : w_law kLawQ (rhoLaw 10 1) ⟨0, [.raw, .raw]⟩) : FnG P w K mg base 10 f fd ["_law_script"] (spLaw K) :=
  law_ofQ F sc_law (by decide) rfl (fun cdv A outer s H E hr hgd => ps_set (i := 1) sc_law.nd rfl (.inl rfl) (pe_callG FS hgd (hr.mono (by decide)) rfl gs ks bs (fun σ pins H s e s2 => passLN pins σ H s e s2) (pa_cons (pv 0) pa_nil)))
    (fun cdv A outer s H E W0 hr hgd tk => (dss_cons (ds_for (passes_of rfl) rfl (di_range1 m_range de_int) (dg_name (pg_name (i := 2) sc_law.nd rfl (Or.inl rfl))) (dss_cons (ds_set (i := 3) sc_law.nd rfl (.inl rfl) (DE.v (de_op opd_add (DE.p (de_str [119, 111, 114, 100, 32])) (DE.p (de_ix (DN.p (dn_lst (da_cons (de_callF F_l_word hgd (hr.mono (by decide)) tk (da_cons (de_var (pv 1)) (da_cons de_int da_nil))) (da_cons (de_callF F_l_start hgd (hr.mono (by decide)) tk (da_cons (de_var (pv 1)) (da_cons de_int (da_cons de_int da_nil)))) da_nil)))) (DE.p (de_op opd_mod (DE.p (de_var (pv 2))) (DE.p de_int))) (fun _ _ => rfl))))))
      (dss_cons (ds_set (i := 4) sc_law.nd rfl (.inl rfl) (DE.v (DN.fr (dn_lst (da_cons (de_var (pv 3)) (da_cons (de_op opd_add (DE.p (de_var (pv 3))) (DE.p (de_str [32]))) (da_cons (de_str [119, 111, 114, 100]) (da_cons (de_op opd_add (DE.p (de_str [119, 111, 114, 100, 32])) (DE.p (de_var (pv 3)))) (da_cons (de_callF F_l_odd hgd (hr.mono (by decide)) tk (da_cons (de_var (pv 1)) da_nil)) (da_cons (DN.fr (dn_lst (da_cons (de_var (pv 3)) da_nil))) (da_cons (de_op opd_add (DE.p (de_var (pv 3))) (DE.p (de_str [65]))) (da_cons (de_str [111, 114, 100, 101, 114, 32, 48]) (da_cons (de_str []) da_nil)))))))))))))
      (dss_cons (ds_for (passes_of rfl) rfl (di_range1 m_range de_int) (dg_name (pg_name (i := 5) sc_law.nd rfl (Or.inl rfl))) (dss_cons (ds_set (i := 6) sc_law.nd rfl (.inl rfl) (DE.v (de_callF F_l_spoilt hgd (hr.mono (by decide)) tk (da_cons (de_var (pv 1)) (da_cons (de_var (pv 3)) da_nil)))))
      (dss_one (ds_set (i := 4) sc_law.nd rfl (.inl rfl) (DE.v (DN.fr (dn_op opn_cat (DE.p (de_var (pv 4))) (DN.p (dn_lst (da_cons (de_var (pv 6)) (da_cons (de_callF F_l_spoilt hgd (hr.mono (by decide)) tk (da_cons (de_var (pv 1)) (da_cons (de_var (pv 6)) da_nil))) da_nil)))))))))))
      (dss_one (ds_for (passes_of rfl) rfl (di_range1 m_range de_int) (dg_name (pg_name (i := 7) sc_law.nd rfl (Or.inl rfl))) (dss_one (ds_for (passes_of rfl) rfl (di_seq (de_var (pv 4))) (dg_name (pg_name (i := 8) sc_law.nd rfl (Or.inl rfl))) (dss_cons (ds_set (i := 9) sc_law.nd rfl (.inl rfl) (DE.v (de_callB (calld_repr m_sm hgd hr.units) (by rfl) m_repr (by decide +kernel) (dap_cons (DE.p (de_var (pv 8))) dap_nil))))
      (dss_one (ds_if (DW.t (dw_or (dt_cmp (opd_ne hr.units) (DE.p (de_callB (calld_repr m_sm hgd hr.units) (by rfl) m_repr (by decide +kernel) (dap_cons (DE.p (de_callF F_l_told hgd (hr.mono (by decide)) tk (da_cons (de_var (pv 7)) (da_cons (de_var (pv 8)) da_nil)))) dap_nil))) (DE.p (de_callB (calld_repr m_sm hgd hr.units) (by rfl) m_repr (by decide +kernel) (dap_cons (DE.p (de_callF F_l_expected hgd (hr.mono (by decide)) tk (da_cons (de_var (pv 7)) (da_cons (de_var (pv 8)) da_nil)))) dap_nil))) (nomark _)) (dw_or1 (dt_cmp (opd_ne hr.units) (DE.p (de_callB (calld_repr m_sm hgd hr.units) (by rfl) m_repr (by decide +kernel) (dap_cons (DE.p (de_var (pv 8))) dap_nil))) (DE.p (de_var (pv 9))) (nomark _))))) (dss_one (ds_ret de_bl)) dss_nil)))))))))))
      (dss_one (ds_ret de_bl)))) hp
theorem sc_Desk_init : FnScope ["self", "word"] ["self", "word"] (defScope s_Desk_init) := ⟨rfl, rfl, rfl, by decide +kernel, rfl, by decide +kernel, by decide +kernel⟩
def w_Desk_init (ex : Exn → stq.G → Prop) : SW stq :=
  (wSeq (wDrop (wCallB 1 (lq d_check_word) (wACons (wVar 1) wANil) (xk ex)))
    (wSeq (wDrop (wMeth "accept" 2 T_accept (wVar 0) (wACons (wVar 1) wANil) (xk ex)))
    (wSeq (wSetO "now" CLS (wVar 0) (wVar 1))
    (wSeq (wSetO "states" CLS (wVar 0) (wTup (wACons (wVar 1) wANil)))
    (wSeq (wSetO "done" CLS (wVar 0) (wTup wANil))
    (wSeq (wSetO "wanted" CLS (wVar 0) (wC .non))
    (wSetO "is_busy" CLS (wVar 0) (wC (.bl false)))))))))
theorem ok_Desk_init {P : Program} {w : World} {K : PySem.W.Frag} {mg : Str → Option Value} {base : Heap} {f : Addr} {fd : FuncData} (F : Fun K "__init__" "Desk.__init__" s_Desk_init f fd) (F_check_word : FnB P w K mg base 3 "check_word" ["value"] (liftSp K mg 1 (lq d_check_word))) (M_accept : MethT P w K mg base 2 "accept" ["self", "word"] T_accept) (fi_LoggedSimpleDesk_now : FldI K "LoggedSimpleDesk" "now") (fi_LoggedDesk_now : FldI K "LoggedDesk" "now") (fi_SimpleDesk_now : FldI K "SimpleDesk" "now") (fi_Desk_now : FldI K "Desk" "now") (fi_LoggedSimpleDesk_states : FldI K "LoggedSimpleDesk" "states") (fi_LoggedDesk_states : FldI K "LoggedDesk" "states") (fi_SimpleDesk_states : FldI K "SimpleDesk" "states") (fi_Desk_states : FldI K "Desk" "states") (fi_LoggedSimpleDesk_done : FldI K "LoggedSimpleDesk" "done") (fi_LoggedDesk_done : FldI K "LoggedDesk" "done") (fi_SimpleDesk_done : FldI K "SimpleDesk" "done") (fi_Desk_done : FldI K "Desk" "done") (fi_LoggedSimpleDesk_wanted : FldI K "LoggedSimpleDesk" "wanted") (fi_LoggedDesk_wanted : FldI K "LoggedDesk" "wanted") (fi_SimpleDesk_wanted : FldI K "SimpleDesk" "wanted") (fi_Desk_wanted : FldI K "Desk" "wanted") (fi_LoggedSimpleDesk_is_busy : FldI K "LoggedSimpleDesk" "is_busy") (fi_LoggedDesk_is_busy : FldI K "LoggedDesk" "is_busy") (fi_SimpleDesk_is_busy : FldI K "SimpleDesk" "is_busy") (fi_Desk_is_busy : FldI K "Desk" "is_busy")
    (hp : ∀ (ds : List D) (g : Gq) (q : D → Gq → Prop) (ex : Exn → Gq → Prop), ds.length = 2 → d_Desk_init ds g q ex → w_Desk_init ex (kEndQ q) (startD ["self", "word"] ds) g) : FnG P w K mg base 4 f fd ["self", "word"] (liftSp K mg 2 d_Desk_init) :=
  fnT_of (wb := w_Desk_init) F sc_Desk_init (fun cdv A outer s H E W0 ex hr hgd tk => (dss_cons (ds_expr (de_callF F_check_word hgd (hr.mono (by decide)) tk (da_cons (de_var (pv 1)) da_nil)))
      (dss_cons (ds_expr (de_meth M_accept hgd (hr.mono (by decide)) tk (de_var (pv 0)) (da_cons (de_var (pv 1)) da_nil)))
      (dss_cons (ds_fldO (fldTb_cons fi_Desk_now (fldTb_cons fi_SimpleDesk_now (fldTb_cons fi_LoggedDesk_now (fldTb_cons fi_LoggedSimpleDesk_now fldTb_nil)))) (de_var (pv 0)) (de_var (pv 1)))
      (dss_cons (ds_fldO (fldTb_cons fi_Desk_states (fldTb_cons fi_SimpleDesk_states (fldTb_cons fi_LoggedDesk_states (fldTb_cons fi_LoggedSimpleDesk_states fldTb_nil)))) (de_var (pv 0)) (de_tup (da_cons (de_var (pv 1)) da_nil)))
      (dss_cons (ds_fldO (fldTb_cons fi_Desk_done (fldTb_cons fi_SimpleDesk_done (fldTb_cons fi_LoggedDesk_done (fldTb_cons fi_LoggedSimpleDesk_done fldTb_nil)))) (de_var (pv 0)) (de_tup da_nil))
      (dss_cons (ds_fldO (fldTb_cons fi_Desk_wanted (fldTb_cons fi_SimpleDesk_wanted (fldTb_cons fi_LoggedDesk_wanted (fldTb_cons fi_LoggedSimpleDesk_wanted fldTb_nil)))) (de_var (pv 0)) de_non)
      (dss_one (ds_fldO (fldTb_cons fi_Desk_is_busy (fldTb_cons fi_SimpleDesk_is_busy (fldTb_cons fi_LoggedDesk_is_busy (fldTb_cons fi_LoggedSimpleDesk_is_busy fldTb_nil)))) (de_var (pv 0)) de_bl))))))))) hp
theorem sc_Desk_read : FnScope ["cls", "text"] ["cls", "text"] (defScope s_Desk_read) := ⟨rfl, rfl, rfl, by decide +kernel, rfl, by decide +kernel, by decide +kernel⟩
def w_Desk_read (ex : Exn → stq.G → Prop) : SW stq :=
  (wRet (wMakeV 2 TV_init (wVar 0) (wACons (wCallB 1 (lq d_parse_word) (wACons (wVar 1) wANil) (xk ex)) wANil) (xk ex)))
theorem ok_Desk_read {P : Program} {w : World} {K : PySem.W.Frag} {mg : Str → Option Value} {base : Heap} {f : Addr} {fd : FuncData} (F : Fun K "read" "Desk.read" s_Desk_read f fd) (F_parse_word : FnB P w K mg base 4 "parse_word" ["text"] (liftSp K mg 1 (lq d_parse_word))) (V_init : MakeT P w K mg base 5 ["self", "word"] TV_init)
    (hp : ∀ (ds : List D) (g : Gq) (q : D → Gq → Prop) (ex : Exn → Gq → Prop), ds.length = 2 → d_Desk_read ds g q ex → w_Desk_read ex (kEndQ q) (startD ["cls", "text"] ds) g) : FnG P w K mg base 7 f fd ["cls", "text"] (liftSp K mg 2 d_Desk_read) :=
  fnT_of (wb := w_Desk_read) F sc_Desk_read (fun cdv A outer s H E W0 ex hr hgd tk => (dss_one (ds_ret (de_makeV V_init hgd (hr.mono (by decide)) tk (de_var (pv 0)) (da_cons (de_callF F_parse_word hgd (hr.mono (by decide)) tk (da_cons (de_var (pv 1)) da_nil)) da_nil))))) hp
theorem sc_Desk_word : FnScope ["self"] ["self"] (defScope s_Desk_word) := ⟨rfl, rfl, rfl, by decide +kernel, rfl, by decide +kernel, by decide +kernel⟩
def w_Desk_word (ex : Exn → stq.G → Prop) : SW stq :=
  (wRet (wFldO "now" CLS (wVar 0)))
theorem ok_Desk_word {P : Program} {w : World} {K : PySem.W.Frag} {mg : Str → Option Value} {base : Heap} {f : Addr} {fd : FuncData} (F : Fun K "word" "Desk.word" s_Desk_word f fd) (fi_LoggedSimpleDesk_now : FldI K "LoggedSimpleDesk" "now") (fi_LoggedDesk_now : FldI K "LoggedDesk" "now") (fi_SimpleDesk_now : FldI K "SimpleDesk" "now") (fi_Desk_now : FldI K "Desk" "now")
    (hp : ∀ (ds : List D) (g : Gq) (q : D → Gq → Prop) (ex : Exn → Gq → Prop), ds.length = 1 → d_Desk_word ds g q ex → w_Desk_word ex (kEndQ q) (startD ["self"] ds) g) : FnG P w K mg base 1 f fd ["self"] (liftSp K mg 1 d_Desk_word) :=
  fnT_of (wb := w_Desk_word) F sc_Desk_word (fun cdv A outer s H E W0 ex hr hgd tk => (dss_one (ds_ret (de_fldO (fldTb_cons fi_Desk_now (fldTb_cons fi_SimpleDesk_now (fldTb_cons fi_LoggedDesk_now (fldTb_cons fi_LoggedSimpleDesk_now fldTb_nil)))) (de_var (pv 0)))))) hp
theorem sc_Desk_order : FnScope ["self"] ["self"] (defScope s_Desk_order) := ⟨rfl, rfl, rfl, by decide +kernel, rfl, by decide +kernel, by decide +kernel⟩
def w_Desk_order (ex : Exn → stq.G → Prop) : SW stq :=
  (wRet (wCallB 1 (lq d_tail_order) (wACons (wFldO "now" CLS (wVar 0)) wANil) (xk ex)))
theorem ok_Desk_order {P : Program} {w : World} {K : PySem.W.Frag} {mg : Str → Option Value} {base : Heap} {f : Addr} {fd : FuncData} (F : Fun K "order" "Desk.order" s_Desk_order f fd) (F_tail_order : FnB P w K mg base 1 "tail_order" ["word"] (liftSp K mg 1 (lq d_tail_order))) (fi_LoggedSimpleDesk_now : FldI K "LoggedSimpleDesk" "now") (fi_LoggedDesk_now : FldI K "LoggedDesk" "now") (fi_SimpleDesk_now : FldI K "SimpleDesk" "now") (fi_Desk_now : FldI K "Desk" "now")
    (hp : ∀ (ds : List D) (g : Gq) (q : D → Gq → Prop) (ex : Exn → Gq → Prop), ds.length = 1 → d_Desk_order ds g q ex → w_Desk_order ex (kEndQ q) (startD ["self"] ds) g) : FnG P w K mg base 2 f fd ["self"] (liftSp K mg 1 d_Desk_order) :=
  fnT_of (wb := w_Desk_order) F sc_Desk_order (fun cdv A outer s H E W0 ex hr hgd tk => (dss_one (ds_ret (de_callF F_tail_order hgd (hr.mono (by decide)) tk (da_cons (de_fldO (fldTb_cons fi_Desk_now (fldTb_cons fi_SimpleDesk_now (fldTb_cons fi_LoggedDesk_now (fldTb_cons fi_LoggedSimpleDesk_now fldTb_nil)))) (de_var (pv 0))) da_nil))))) hp
theorem sc_Desk_version : FnScope ["self"] ["self"] (defScope s_Desk_version) := ⟨rfl, rfl, rfl, by decide +kernel, rfl, by decide +kernel, by decide +kernel⟩
def w_Desk_version (ex : Exn → stq.G → Prop) : SW stq :=
  (wRet (wCB cLen (wACons (wFldO "done" CLS (wVar 0)) wANil)))
theorem ok_Desk_version {P : Program} {w : World} {K : PySem.W.Frag} {mg : Str → Option Value} {base : Heap} {f : Addr} {fd : FuncData} (F : Fun K "version" "Desk.version" s_Desk_version f fd) (m_len : mg "len" = none) (fi_LoggedSimpleDesk_done : FldI K "LoggedSimpleDesk" "done") (fi_LoggedDesk_done : FldI K "LoggedDesk" "done") (fi_SimpleDesk_done : FldI K "SimpleDesk" "done") (fi_Desk_done : FldI K "Desk" "done")
    (hp : ∀ (ds : List D) (g : Gq) (q : D → Gq → Prop) (ex : Exn → Gq → Prop), ds.length = 1 → d_Desk_version ds g q ex → w_Desk_version ex (kEndQ q) (startD ["self"] ds) g) : FnG P w K mg base 1 f fd ["self"] (liftSp K mg 1 d_Desk_version) :=
  fnT_of (wb := w_Desk_version) F sc_Desk_version (fun cdv A outer s H E W0 ex hr hgd tk => (dss_one (ds_ret (de_callB calld_len (by rfl) m_len (by decide +kernel) (dap_cons (DE.p (de_fldO (fldTb_cons fi_Desk_done (fldTb_cons fi_SimpleDesk_done (fldTb_cons fi_LoggedDesk_done (fldTb_cons fi_LoggedSimpleDesk_done fldTb_nil)))) (de_var (pv 0)))) dap_nil))))) hp
theorem sc_Desk_pattern : FnScope ["self"] ["self"] (defScope s_Desk_pattern) := ⟨rfl, rfl, rfl, by decide +kernel, rfl, by decide +kernel, by decide +kernel⟩
def w_Desk_pattern (ex : Exn → stq.G → Prop) : SW stq :=
  (wRet (wFldO "wanted" CLS (wVar 0)))
theorem ok_Desk_pattern {P : Program} {w : World} {K : PySem.W.Frag} {mg : Str → Option Value} {base : Heap} {f : Addr} {fd : FuncData} (F : Fun K "pattern" "Desk.pattern" s_Desk_pattern f fd) (fi_LoggedSimpleDesk_wanted : FldI K "LoggedSimpleDesk" "wanted") (fi_LoggedDesk_wanted : FldI K "LoggedDesk" "wanted") (fi_SimpleDesk_wanted : FldI K "SimpleDesk" "wanted") (fi_Desk_wanted : FldI K "Desk" "wanted")
    (hp : ∀ (ds : List D) (g : Gq) (q : D → Gq → Prop) (ex : Exn → Gq → Prop), ds.length = 1 → d_Desk_pattern ds g q ex → w_Desk_pattern ex (kEndQ q) (startD ["self"] ds) g) : FnG P w K mg base 1 f fd ["self"] (liftSp K mg 1 d_Desk_pattern) :=
  fnT_of (wb := w_Desk_pattern) F sc_Desk_pattern (fun cdv A outer s H E W0 ex hr hgd tk => (dss_one (ds_ret (de_fldO (fldTb_cons fi_Desk_wanted (fldTb_cons fi_SimpleDesk_wanted (fldTb_cons fi_LoggedDesk_wanted (fldTb_cons fi_LoggedSimpleDesk_wanted fldTb_nil)))) (de_var (pv 0)))))) hp
theorem sc_Desk_accept : FnScope ["self", "word"] ["self", "word"] (defScope s_Desk_accept) := ⟨rfl, rfl, rfl, by decide +kernel, rfl, by decide +kernel, by decide +kernel⟩
def w_Desk_accept (ex : Exn → stq.G → Prop) : SW stq :=
  wNext
theorem ok_Desk_accept {P : Program} {w : World} {K : PySem.W.Frag} {mg : Str → Option Value} {base : Heap} {f : Addr} {fd : FuncData} (F : Fun K "accept" "Desk.accept" s_Desk_accept f fd)
    (hp : ∀ (ds : List D) (g : Gq) (q : D → Gq → Prop) (ex : Exn → Gq → Prop), ds.length = 2 → d_Desk_accept ds g q ex → w_Desk_accept ex (kEndQ q) (startD ["self", "word"] ds) g) : FnG P w K mg base 1 f fd ["self", "word"] (liftSp K mg 2 d_Desk_accept) :=
  fnT_of (wb := w_Desk_accept) F sc_Desk_accept (fun cdv A outer s H E W0 ex hr hgd tk => (dss_one ds_pass)) hp
theorem sc_Desk_edits : FnScope ["self"] ["self"] (defScope s_Desk_edits) := ⟨rfl, rfl, rfl, by decide +kernel, rfl, by decide +kernel, by decide +kernel⟩
def w_Desk_edits (ex : Exn → stq.G → Prop) : SW stq :=
  (wRet (wFldO "done" CLS (wVar 0)))
theorem ok_Desk_edits {P : Program} {w : World} {K : PySem.W.Frag} {mg : Str → Option Value} {base : Heap} {f : Addr} {fd : FuncData} (F : Fun K "edits" "Desk.edits" s_Desk_edits f fd) (fi_LoggedSimpleDesk_done : FldI K "LoggedSimpleDesk" "done") (fi_LoggedDesk_done : FldI K "LoggedDesk" "done") (fi_SimpleDesk_done : FldI K "SimpleDesk" "done") (fi_Desk_done : FldI K "Desk" "done")
    (hp : ∀ (ds : List D) (g : Gq) (q : D → Gq → Prop) (ex : Exn → Gq → Prop), ds.length = 1 → d_Desk_edits ds g q ex → w_Desk_edits ex (kEndQ q) (startD ["self"] ds) g) : FnG P w K mg base 1 f fd ["self"] (liftSp K mg 1 d_Desk_edits) :=
  fnT_of (wb := w_Desk_edits) F sc_Desk_edits (fun cdv A outer s H E W0 ex hr hgd tk => (dss_one (ds_ret (de_fldO (fldTb_cons fi_Desk_done (fldTb_cons fi_SimpleDesk_done (fldTb_cons fi_LoggedDesk_done (fldTb_cons fi_LoggedSimpleDesk_done fldTb_nil)))) (de_var (pv 0)))))) hp
theorem sc_Desk_walk : GScope ["self", "version", "word"] ["self"] (defScope s_Desk_walk) := ⟨rfl, rfl, rfl, by decide +kernel, rfl, by decide +kernel, by decide +kernel⟩
def w_Desk_walk : YW stq :=
  (yFor (wEnum (wFldO "states" CLS (wVar 0))) (gwT 2 (gwCons (gwN 1) (gwCons (gwN 2) gwNil))) (yYield (wTup (wACons (wVar 1) (wACons (wVar 2) wANil)))))
theorem ok_Desk_walk {P : Program} {w : World} {K : PySem.W.Frag} {mg : Str → Option Value} {base : Heap} {f : Addr} {fd : FuncData} (F : Fun K "walk" "Desk.walk" s_Desk_walk f fd) (m_enumerate : mg "enumerate" = none) (fi_LoggedSimpleDesk_states : FldI K "LoggedSimpleDesk" "states") (fi_LoggedDesk_states : FldI K "LoggedDesk" "states") (fi_SimpleDesk_states : FldI K "SimpleDesk" "states") (fi_Desk_states : FldI K "Desk" "states")
    (hp : ∀ (ds : List D) (g : Gq) (q : List D → Gq → Prop), ds.length = 1 → d_Desk_walk ds g q → w_Desk_walk (kEndY q) [] (startD ["self", "version", "word"] ds) g) : GFn P w K mg base 1 f fd ["self"] (liftG K 1 d_Desk_walk) :=
  gfnD_of (wb := w_Desk_walk) F sc_Desk_walk (fun cdv A outer s H E pn W0 hr => (dys_one (dy_for owns_gcx rfl (di_enum m_enumerate (de_fldO (fldTb_cons fi_Desk_states (fldTb_cons fi_SimpleDesk_states (fldTb_cons fi_LoggedDesk_states (fldTb_cons fi_LoggedSimpleDesk_states fldTb_nil)))) (de_var (pv 0)))) (dg_tup rfl (dgs_cons (dg_name (pg_name (i := 1) sc_Desk_walk.nd rfl (Or.inl rfl))) (dgs_cons (dg_name (pg_name (i := 2) sc_Desk_walk.nd rfl (Or.inl rfl))) dgs_nil))) (dys_one (dy_yield (de_tup (da_cons (de_var (pv 1)) (da_cons (de_var (pv 2)) da_nil)))))))) hp
theorem sc_Desk_len : FnScope ["self"] ["self"] (defScope s_Desk_len) := ⟨rfl, rfl, rfl, by decide +kernel, rfl, by decide +kernel, by decide +kernel⟩
def w_Desk_len (ex : Exn → stq.G → Prop) : SW stq :=
  (wRet (wCB cLen (wACons (wFldO "now" CLS (wVar 0)) wANil)))
theorem ok_Desk_len {P : Program} {w : World} {K : PySem.W.Frag} {mg : Str → Option Value} {base : Heap} {f : Addr} {fd : FuncData} (F : Fun K "__len__" "Desk.__len__" s_Desk_len f fd) (m_len : mg "len" = none) (fi_LoggedSimpleDesk_now : FldI K "LoggedSimpleDesk" "now") (fi_LoggedDesk_now : FldI K "LoggedDesk" "now") (fi_SimpleDesk_now : FldI K "SimpleDesk" "now") (fi_Desk_now : FldI K "Desk" "now")
    (hp : ∀ (ds : List D) (g : Gq) (q : D → Gq → Prop) (ex : Exn → Gq → Prop), ds.length = 1 → d_Desk_len ds g q ex → w_Desk_len ex (kEndQ q) (startD ["self"] ds) g) : FnG P w K mg base 1 f fd ["self"] (liftSp K mg 1 d_Desk_len) :=
  fnT_of (wb := w_Desk_len) F sc_Desk_len (fun cdv A outer s H E W0 ex hr hgd tk => (dss_one (ds_ret (de_callB calld_len (by rfl) m_len (by decide +kernel) (dap_cons (DE.p (de_fldO (fldTb_cons fi_Desk_now (fldTb_cons fi_SimpleDesk_now (fldTb_cons fi_LoggedDesk_now (fldTb_cons fi_LoggedSimpleDesk_now fldTb_nil)))) (de_var (pv 0)))) dap_nil))))) hp
theorem sc_Desk_str : FnScope ["self"] ["self"] (defScope s_Desk_str) := ⟨rfl, rfl, rfl, by decide +kernel, rfl, by decide +kernel, by decide +kernel⟩
def w_Desk_str (ex : Exn → stq.G → Prop) : SW stq :=
  (wRet (wJoined (wJ (wFmt (wCB cLen (wACons (wFldO "now" CLS (wVar 0)) wANil))) (wJ (wC (.str [32, 108, 101, 116, 116, 101, 114, 115, 44, 32])) (wJ (wFmt (wCB cLen (wACons (wFldO "done" CLS (wVar 0)) wANil))) (wJ (wC (.str [32, 101, 100, 105, 116, 115])) wJ0))))))
theorem ok_Desk_str {P : Program} {w : World} {K : PySem.W.Frag} {mg : Str → Option Value} {base : Heap} {f : Addr} {fd : FuncData} (F : Fun K "__str__" "Desk.__str__" s_Desk_str f fd) (m_len : mg "len" = none) (fi_LoggedSimpleDesk_done : FldI K "LoggedSimpleDesk" "done") (fi_LoggedDesk_done : FldI K "LoggedDesk" "done") (fi_SimpleDesk_done : FldI K "SimpleDesk" "done") (fi_Desk_done : FldI K "Desk" "done") (fi_LoggedSimpleDesk_now : FldI K "LoggedSimpleDesk" "now") (fi_LoggedDesk_now : FldI K "LoggedDesk" "now") (fi_SimpleDesk_now : FldI K "SimpleDesk" "now") (fi_Desk_now : FldI K "Desk" "now")
    (hp : ∀ (ds : List D) (g : Gq) (q : D → Gq → Prop) (ex : Exn → Gq → Prop), ds.length = 1 → d_Desk_str ds g q ex → w_Desk_str ex (kEndQ q) (startD ["self"] ds) g) : FnG P w K mg base 1 f fd ["self"] (liftSp K mg 1 d_Desk_str) :=
  fnT_of (wb := w_Desk_str) F sc_Desk_str (fun cdv A outer s H E W0 ex hr hgd tk => (dss_one (ds_ret (de_joined (djs_cons (de_fmt (de_callB calld_len (by rfl) m_len (by decide +kernel) (dap_cons (DE.p (de_fldO (fldTb_cons fi_Desk_now (fldTb_cons fi_SimpleDesk_now (fldTb_cons fi_LoggedDesk_now (fldTb_cons fi_LoggedSimpleDesk_now fldTb_nil)))) (de_var (pv 0)))) dap_nil))) (djs_cons (de_str [32, 108, 101, 116, 116, 101, 114, 115, 44, 32]) (djs_cons (de_fmt (de_callB calld_len (by rfl) m_len (by decide +kernel) (dap_cons (DE.p (de_fldO (fldTb_cons fi_Desk_done (fldTb_cons fi_SimpleDesk_done (fldTb_cons fi_LoggedDesk_done (fldTb_cons fi_LoggedSimpleDesk_done fldTb_nil)))) (de_var (pv 0)))) dap_nil))) (djs_cons (de_str [32, 101, 100, 105, 116, 115]) djs_nil)))))))) hp
theorem sc_SimpleDesk_accept : FnScope ["self", "word"] ["self", "word"] (defScope s_SimpleDesk_accept) := ⟨rfl, rfl, rfl, by decide +kernel, rfl, by decide +kernel, by decide +kernel⟩
def w_SimpleDesk_accept (ex : Exn → stq.G → Prop) : SW stq :=
  (wIfS (wNot (wB (wCallB 1 (lq d_is_simple) (wACons (wVar 1) wANil) (xk ex)))) (wRaise "NotSimple" "place" (wBin oIx (wCallB 1 (lq d_tail_order) (wACons (wVar 1) wANil) (xk ex)) (wC (.int 0))) (xk ex)) wNext)
theorem ok_SimpleDesk_accept {P : Program} {w : World} {K : PySem.W.Frag} {mg : Str → Option Value} {base : Heap} {f : Addr} {fd : FuncData} (F : Fun K "accept" "SimpleDesk.accept" s_SimpleDesk_accept f fd) (F_is_simple : FnB P w K mg base 1 "is_simple" ["word"] (liftSp K mg 1 (lq d_is_simple))) (F_tail_order : FnB P w K mg base 1 "tail_order" ["word"] (liftSp K mg 1 (lq d_tail_order))) (xr_NotSimple : RaisesF K "NotSimple" "place")
    (hp : ∀ (ds : List D) (g : Gq) (q : D → Gq → Prop) (ex : Exn → Gq → Prop), ds.length = 2 → d_SimpleDesk_accept ds g q ex → w_SimpleDesk_accept ex (kEndQ q) (startD ["self", "word"] ds) g) : FnG P w K mg base 2 f fd ["self", "word"] (liftSp K mg 2 d_SimpleDesk_accept) :=
  fnT_of (wb := w_SimpleDesk_accept) F sc_SimpleDesk_accept (fun cdv A outer s H E W0 ex hr hgd tk => (dss_one (ds_if (dt_not (dt_val (de_callF F_is_simple hgd (hr.mono (by decide)) tk (da_cons (de_var (pv 1)) da_nil)))) (dss_one (ds_raise xr_NotSimple rfl hr tk (de_ix (DE.p (de_callF F_tail_order hgd (hr.mono (by decide)) tk (da_cons (de_var (pv 1)) da_nil))) (DE.p de_int) (fun _ _ => rfl)))) dss_nil))) hp
theorem sc_LoggedDesk_init : SScope ["self", "word", "__class__"] ["self", "word"] s_LoggedDesk_init := ⟨NdefX.nscope_by (by decide +kernel), ⟨_, rfl, rfl, by decide +kernel⟩, by decide +kernel⟩
def w_LoggedDesk_init (ex : Exn → stq.G → Prop) : SW stq :=
  (wSeq (wDrop (wSup "__init__" 2 TU_LoggedDesk_init (wACons (wVar 1) wANil) (xk ex)))
    (wSetO "rows" ["LoggedDesk", "LoggedSimpleDesk"] (wVar 0) (wTup wANil)))
theorem ok_LoggedDesk_init {P : Program} {w : World} {K : PySem.W.Frag} {mg : Str → Option Value} {base : Heap} {f : Addr} {fd : FuncData} (F : SFun P K "__init__" "LoggedDesk.__init__" s_LoggedDesk_init f fd "LoggedDesk") (U_LoggedDesk_init : SupT P w K mg base 4 "LoggedDesk" "__init__" ["self", "word"] TU_LoggedDesk_init) (m_super : mg "super" = none) (fi_LoggedSimpleDesk_rows : FldI K "LoggedSimpleDesk" "rows") (fi_LoggedDesk_rows : FldI K "LoggedDesk" "rows")
    (hp : ∀ (ds : List D) (g : Gq) (q : D → Gq → Prop) (ex : Exn → Gq → Prop), ds.length = 2 → d_LoggedDesk_init ds g q ex → w_LoggedDesk_init ex (kEndQ q) (startD ["self", "word", "__class__"] ds) g) : FnG P w K mg base 5 f fd ["self", "word"] (liftSp K mg 2 d_LoggedDesk_init) :=
  fnU_of (wb := w_LoggedDesk_init) F sc_LoggedDesk_init m_super (fun cc cda A outer s H E W0 ex hr hgd su tk => (dssA_cons (dsA_expr (deA_sup su U_LoggedDesk_init hgd (hr.mono (by decide)) tk (da_cons (de_var (pv 1)) da_nil)))
      (dss_one (ds_fldO (fldTb_cons fi_LoggedDesk_rows (fldTb_cons fi_LoggedSimpleDesk_rows fldTb_nil)) (de_var (pv 0)) (de_tup da_nil))))) hp
theorem sc_LoggedDesk_log : FnScope ["self"] ["self"] (defScope s_LoggedDesk_log) := ⟨rfl, rfl, rfl, by decide +kernel, rfl, by decide +kernel, by decide +kernel⟩
def w_LoggedDesk_log (ex : Exn → stq.G → Prop) : SW stq :=
  (wRet (wFldO "rows" ["LoggedDesk", "LoggedSimpleDesk"] (wVar 0)))
theorem ok_LoggedDesk_log {P : Program} {w : World} {K : PySem.W.Frag} {mg : Str → Option Value} {base : Heap} {f : Addr} {fd : FuncData} (F : Fun K "log" "LoggedDesk.log" s_LoggedDesk_log f fd) (fi_LoggedSimpleDesk_rows : FldI K "LoggedSimpleDesk" "rows") (fi_LoggedDesk_rows : FldI K "LoggedDesk" "rows")
    (hp : ∀ (ds : List D) (g : Gq) (q : D → Gq → Prop) (ex : Exn → Gq → Prop), ds.length = 1 → d_LoggedDesk_log ds g q ex → w_LoggedDesk_log ex (kEndQ q) (startD ["self"] ds) g) : FnG P w K mg base 1 f fd ["self"] (liftSp K mg 1 d_LoggedDesk_log) :=
  fnT_of (wb := w_LoggedDesk_log) F sc_LoggedDesk_log (fun cdv A outer s H E W0 ex hr hgd tk => (dss_one (ds_ret (de_fldO (fldTb_cons fi_LoggedDesk_rows (fldTb_cons fi_LoggedSimpleDesk_rows fldTb_nil)) (de_var (pv 0)))))) hp

end LW
set_option Elab.async false
set_option linter.all false
set_option maxRecDepth 100000
set_option maxHeartbeats 4000000
namespace LW
open PySem L2 DL
theorem p_is_letter (ds : List D) (g : Nat) (q : D → Nat → Prop) (ex : Exn → Nat → Prop) (hl : ds.length = 1) (h : d_is_letter ds g q ex) : w_is_letter ex (kEndS q) (startD ["value"] ds) g := by
  obtain ⟨v, rfl, ⟨t, ht⟩, hs, hq⟩ := h
  simp [w_is_letter]
  refine ⟨_, ht, ?_⟩
  cases v with
  | str x =>
    cases ht
    simp [isTyp]
    refine ⟨small_line (Nat.le_trans hs (by decide)), ?_⟩
    match x, hq with
    | [], hq => simp; exact ⟨_, Nat.le_refl _, hq⟩
    | [c], hq =>
      have e : isLetD (.str [c]) = decide (c ∈ abcW) := abc_in.symm
      rw [e] at hq
      simp at hq ⊢
      exact ⟨_, Nat.le_refl _, hq⟩
    | a :: b :: c, hq =>
      simp
      exact ⟨_, Nat.le_refl _, hq⟩
  | ob => cases ht
  | exn => cases ht
  | tx => cases ht
  | cl => cases ht
  | _ =>
    cases ht
    simp [isTyp]
    exact ⟨_, Nat.le_refl _, hq⟩
theorem p_tail_order (ds : List D) (g : Nat) (q : D → Nat → Prop) (ex : Exn → Nat → Prop) (hl : ds.length = 1) (h : d_tail_order ds g q ex) : w_tail_order ex (kEndS q) (startD ["word", "tail", "place"] ds) g := by
  obtain ⟨w, rfl, hw, hq⟩ := h
  simp [w_tail_order]
  refine ⟨small_line (by omega), by omega, by rw [rngL_len]; exact small_line (by omega), ?_⟩
  rw [rngL_0]
  refine lcW_all (M := stg) _ (fun i : Nat => pairTI (w.drop i, (i : Int))) (List.range w.length) (fun i hi k1 k0 hk => ?_) ?_
  · simp
    refine ⟨small_line (by omega), small_line (by decide), ?_⟩
    rw [cut_from]
    exact hk
  · refine ⟨(List.range w.length).map fun i : Nat => (w.drop i, (i : Int)), by rw [List.map_map]; rfl, fun ys hp hs => ⟨by rw [List.length_map, hp.length_eq]; simp; exact small_line (by omega), ?_⟩⟩
    refine lcW_all (M := stg) pairTI (fun y => D.int y.2) ys (fun y hy k1 k0 hk => ?_) ⟨g, Nat.le_refl _, ?_⟩
    · simp [pairTI, gwT]
      exact hk
    · rw [sorted_TO hp hs]
      exact hq
theorem p_is_simple (ds : List D) (g : Nat) (q : D → Nat → Prop) (ex : Exn → Nat → Prop) (hl : ds.length = 1) (h : d_is_simple ds g q ex) : w_is_simple ex (kEndS q) (startD ["word", "place"] ds) g := by
  obtain ⟨w, rfl, hw, hq⟩ := h
  simp [w_is_simple]
  refine ⟨small_line (by omega), by omega, by rw [rngL_len]; exact small_line (by omega), ?_⟩
  rw [rngL_1]
  refine lcW_all (M := stg) _ (fun i : Nat => D.bl (decide (w < w.drop i))) _ (fun i hi k1 k0 hk => ?_) ?_
  · simp
    refine ⟨small_line (by omega), ?_⟩
    rw [cut_from]
    exact hk
  · have e : (List.range' 1 (w.length - 1)).map (fun i : Nat => D.bl (decide (w < w.drop i))) = ((List.range' 1 (w.length - 1)).map fun i : Nat => decide (w < w.drop i)).map D.bl := by rw [List.map_map]; rfl
    rw [e]
    refine all_call ⟨g, Nat.le_refl _, ?_⟩
    rw [List.all_map]
    exact hq
theorem p_words_behind (ds : List D) (g : Nat) (q : D → Nat → Prop) (ex : Exn → Nat → Prop) (hl : ds.length = 2) (h : d_words_behind ds g q ex) : w_words_behind ex (kEndS q) (startD ["name", "text", "head", "words"] ds) g := by
  obtain ⟨n, v, rfl, ⟨ov, hx⟩, hq⟩ := h
  simp [w_words_behind]
  obtain ⟨t, ht⟩ := ov
  refine ⟨t, ht, ?_⟩
  cases v with
  | str x =>
    cases ht
    have lx := hx x rfl
    obtain ⟨sl, sm⟩ := spl_len x []
    have ne := spl_ne x []
    have e1 : isTyp "str" "str" = true := by decide
    simp only [e1, sm_isB, if_true]
    cases hs : splL [32] x with
    | nil => exact (ne hs).elim
    | cons h r =>
      have sl : (splL [32] x).length ≤ x.length + 1 := sl
      have eb : behW n (.str x) = if h = n then .inl r else .inr (.int 0) := by
        show (match splL [32] x with | h :: t => if h = n then Sum.inl t else Sum.inr (D.int 0) | [] => Sum.inr (D.int 0)) = _
        rw [hs]
      rw [eb] at hq
      rw [hs] at sl
      rw [List.length_cons] at sl
      refine ⟨x, rfl, small_line (by omega), .str h, txts r, by rw [hs]; rfl, by unfold txts; rw [List.length_map]; omega, ?_⟩
      simp only [sm_ne2, sm_isB]
      by_cases c : h = n
      · rw [if_neg (by simp [c])]
        rw [if_pos c] at hq
        exact ⟨_, Nat.le_refl _, hq⟩
      · rw [if_pos (by simp [c])]
        rw [if_neg c] at hq
        exact hq
  | ob => cases ht
  | exn => cases ht
  | tx => cases ht
  | cl => cases ht
  | _ =>
    cases ht
    exact hq
theorem p_Desk_word (ds : List D) (g : Gq) (q : D → Gq → Prop) (ex : Exn → Gq → Prop) (hl : ds.length = 1) (h : d_Desk_word ds g q ex) : w_Desk_word ex (kEndQ q) (startD ["self"] ds) g := by
  obtain ⟨k, d, rfl, ⟨h, hc⟩, hq⟩ := h
  simp [w_Desk_word]
  exact ⟨_, _, h, cls_in hc, _, fs_now, _, Nat.le_refl _, hq⟩
theorem p_Desk_version (ds : List D) (g : Gq) (q : D → Gq → Prop) (ex : Exn → Gq → Prop) (hl : ds.length = 1) (h : d_Desk_version ds g q ex) : w_Desk_version ex (kEndQ q) (startD ["self"] ds) g := by
  obtain ⟨k, d, rfl, ⟨h, hc⟩, hq⟩ := h
  simp [w_Desk_version]
  exact ⟨_, _, h, cls_in hc, _, fs_done, _, Nat.le_refl _, hq⟩
theorem p_Desk_pattern (ds : List D) (g : Gq) (q : D → Gq → Prop) (ex : Exn → Gq → Prop) (hl : ds.length = 1) (h : d_Desk_pattern ds g q ex) : w_Desk_pattern ex (kEndQ q) (startD ["self"] ds) g := by
  obtain ⟨k, d, rfl, ⟨h, hc⟩, hq⟩ := h
  simp [w_Desk_pattern]
  exact ⟨_, _, h, cls_in hc, _, fs_wanted, _, Nat.le_refl _, hq⟩
theorem p_Desk_accept (ds : List D) (g : Gq) (q : D → Gq → Prop) (ex : Exn → Gq → Prop) (hl : ds.length = 2) (h : d_Desk_accept ds g q ex) : w_Desk_accept ex (kEndQ q) (startD ["self", "word"] ds) g := by
  obtain ⟨k, w, rfl, hq⟩ := h
  simp [w_Desk_accept]
  exact ⟨_, Nat.le_refl _, hq⟩
theorem p_Desk_edits (ds : List D) (g : Gq) (q : D → Gq → Prop) (ex : Exn → Gq → Prop) (hl : ds.length = 1) (h : d_Desk_edits ds g q ex) : w_Desk_edits ex (kEndQ q) (startD ["self"] ds) g := by
  obtain ⟨k, d, rfl, ⟨h, hc⟩, hq⟩ := h
  simp [w_Desk_edits]
  exact ⟨_, _, h, cls_in hc, _, fs_done, _, Nat.le_refl _, hq⟩
theorem forYI_k83 {M : Ghost} {gw : GW} {wb : YW M} (I : Nat → List D → DEnv → M.G → Prop) (k : Y3 M) : ∀ (xs : List D) (n : Nat) {ds : List D} {ρ : DEnv} {g : M.G}, I n ds ρ g →
    (∀ (i : Nat) d ds ρ g (K : List D → DEnv → M.G → Prop), xs[i]? = some d → I (n + i) ds ρ g → (∀ ds ρ g, I (n + i + 1) ds ρ g → K ds ρ g) → gw d ρ fun ρ' => wb { nx := K, bk := k.nx, ct := K } ds ρ' g) →
    (∀ ds ρ g, I (n + xs.length) ds ρ g → k.nx ds ρ g) → forY gw wb xs k ds ρ g
  | [], n, ds, ρ, g, h0, _, he => he ds ρ g h0
  | x :: xs, n, ds, ρ, g, h0, hs, he =>
    hs 0 x ds ρ g _ rfl h0 fun ds' ρ' g' h => forYI_k83 I k xs (n + 1) h (fun i d ds ρ g K e hI hK => hs (i + 1) d ds ρ g K e (by rw [show n + (i + 1) = n + 1 + i by omega]; exact hI) (by rw [show n + (i + 1) + 1 = n + 1 + i + 1 by omega]; exact hK))
      (fun ds ρ g h => he ds ρ g (by rw [List.length_cons, show n + (xs.length + 1) = n + 1 + xs.length by omega]; exact h))
theorem forYW_k83 {M : Ghost} {gw : GW} {wb : YW M} (I : Nat → List D → DEnv → M.G → Prop) (xs : List D) {k : Y3 M} {ds : List D} {ρ : DEnv} {g : M.G} (h0 : I 0 ds ρ g)
    (hs : ∀ (i : Nat) d ds ρ g (K : List D → DEnv → M.G → Prop), xs[i]? = some d → I i ds ρ g → (∀ ds ρ g, I (i + 1) ds ρ g → K ds ρ g) → gw d ρ fun ρ' => wb { nx := K, bk := k.nx, ct := K } ds ρ' g)
    (he : ∀ ds ρ g, I xs.length ds ρ g → k.nx ds ρ g) : forY gw wb xs k ds ρ g :=
  forYI_k83 I k xs 0 h0 (fun i d ds ρ g K e h K1 => hs i d ds ρ g K e (by rw [Nat.zero_add] at h; exact h) (by rw [Nat.zero_add] at K1; exact K1)) (fun ds ρ g h => he ds ρ g (by rw [Nat.zero_add] at h; exact h))
theorem p_Desk_walk (ds : List D) (g : Gq) (q : List D → Gq → Prop) (hl : ds.length = 1) (h : d_Desk_walk ds g q) : w_Desk_walk (kEndY q) [] (startD ["self", "version", "word"] ds) g := by
  obtain ⟨k, d, rfl, ⟨h, hc⟩, hs, hq⟩ := h
  simp [w_Desk_walk]
  refine ⟨_, _, h, cls_in hc, _, fs_states, _, rfl, ?_⟩
  refine forYW_k83 (M := stq) (fun i es ρ g' => g' = g ∧ es = (enL 0 (txts d.st)).take i ∧ ∃ y1 y2, ρ = [.im (.ob k), y1, y2]) _ ⟨rfl, rfl, _, _, rfl⟩ (fun i e es ρ g' K hd hI hK => ?_) (fun es ρ g' hI => ?_)
  · obtain ⟨rfl, rfl, y1, y2, rfl⟩ := hI
    have hd' := hd
    rw [enL_get] at hd
    cases hx : (txts d.st)[i]? with
    | none => rw [hx] at hd; cases hd
    | some x =>
      rw [hx] at hd
      cases hd
      simp
      refine ⟨?_, small_line (by decide), hK _ _ _ ⟨rfl, ?_, _, _, rfl⟩⟩
      · have : ∀ (ds : List D) (n : Nat), (enL n ds).length = ds.length := fun ds => by
          induction ds with
          | nil => intro n; rfl
          | cons d ds ih => intro n; show (enL (n + 1) ds).length + 1 = _; rw [ih]; rfl
        have hs : (1000000 : Nat) < sizeLine := lt_line (by decide)
        have e1 : (enL 0 (txts d.st)).length ≤ 1000 := by rw [this]; unfold txts; rw [List.length_map]; assumption
        omega
      · rw [List.take_succ, hd']
        simp
  · obtain ⟨rfl, rfl, y1, y2, rfl⟩ := hI
    rw [List.take_length]
    exact hq
theorem p_Desk_len (ds : List D) (g : Gq) (q : D → Gq → Prop) (ex : Exn → Gq → Prop) (hl : ds.length = 1) (h : d_Desk_len ds g q ex) : w_Desk_len ex (kEndQ q) (startD ["self"] ds) g := by
  obtain ⟨k, d, rfl, ⟨h, hc⟩, hl, hq⟩ := h
  simp [w_Desk_len]
  exact ⟨_, _, h, cls_in hc, _, fs_now, small_line (by omega), _, Nat.le_refl _, hq⟩
theorem p_Desk_str (ds : List D) (g : Gq) (q : D → Gq → Prop) (ex : Exn → Gq → Prop) (hl : ds.length = 1) (h : d_Desk_str ds g q ex) : w_Desk_str ex (kEndQ q) (startD ["self"] ds) g := by
  obtain ⟨k, d, rfl, ⟨h, hc⟩, hs, hq⟩ := h
  have hw := hs.w
  have hd := hs.dn
  simp [w_Desk_str]
  have l1 := dec_len (n := d.w.length) (by omega)
  have l2 := dec_len (n := d.dn.length) (by omega)
  refine ⟨_, _, h, cls_in hc, _, fs_now, ?_⟩
  simp only [sm_len1]
  refine ⟨small_line (by omega), log_small (by omega), small_line (by omega), small_line (by omega), _, _, h, cls_in hc, _, fs_done, ?_⟩
  simp only [sm_len3]
  refine ⟨log_small (by omega), small_line (by omega), small_line (by omega), _, Nat.le_refl _, ?_⟩
  have e : strX d.w.length d.dn.length = dec ((d.w.length : Nat) : Int) ++ 32 :: 108 :: 101 :: 116 :: 116 :: 101 :: 114 :: 115 :: 44 :: 32 :: (dec ((d.dn.length : Nat) : Int) ++ [32, 101, 100, 105, 116, 115]) := by
    unfold strX
    simp
  rw [e] at hq
  exact hq
theorem p_LoggedDesk_log (ds : List D) (g : Gq) (q : D → Gq → Prop) (ex : Exn → Gq → Prop) (hl : ds.length = 1) (h : d_LoggedDesk_log ds g q ex) : w_LoggedDesk_log ex (kEndQ q) (startD ["self"] ds) g := by
  obtain ⟨k, d, rfl, ⟨h, hc⟩, hl, hq⟩ := h
  simp [w_LoggedDesk_log]
  exact ⟨_, _, h, by simpa using lg_mem hl, _, fs_rows hl, _, Nat.le_refl _, hq⟩
theorem p_l_order (ds : List D) (g : Nat) (q : D → Nat → Prop) (ex : Exn → Nat → Prop) (hl : ds.length = 1) (h : d_l_order_k65 ds g q ex) : w_l_order ex (kEndS q) (startD ["_law_word_here", "_law_tails", "_law_place", "_law_tail"] ds) g := by
  obtain ⟨w, rfl, hw, hq⟩ := h
  simp [w_l_order]
  refine ⟨small_line (by omega), by omega, by rw [rngL_len]; exact small_line (by omega), ?_⟩
  rw [rngL_0]
  refine lcW_all (M := stg) _ (fun i : Nat => pairTI (w.drop i, (i : Int))) (List.range w.length) (fun i hi k1 k0 hk => ?_) ?_
  · simp
    refine ⟨small_line (by omega), small_line (by decide), ?_⟩
    rw [cut_from]
    exact hk
  · refine ⟨(List.range w.length).map fun i : Nat => (w.drop i, (i : Int)), by rw [List.map_map]; rfl, fun ys hp hs => ?_⟩
    have yl := hp.length_eq
    rw [List.length_map, List.length_range] at yl
    have so := sorted_TO hp hs
    refine ⟨small_line (by rw [List.length_map]; omega), ?_⟩
    refine lcW_all (M := stg) pairTI (fun y : List Nat × Int => D.int y.2) ys (fun y hy k1 k0 hk => ?_) ?_
    · unfold pairTI
      simp [gwT]
      exact hk
    rw [so]
    exact ⟨_, Nat.le_refl _, hq⟩
theorem p_l_is_letter (ds : List D) (g : Nat) (q : D → Nat → Prop) (ex : Exn → Nat → Prop) (hl : ds.length = 1) (h : d_l_letter ds g q ex) : w_l_is_letter ex (kEndS q) (startD ["_law_value"] ds) g := by
  obtain ⟨v, rfl, ⟨t, ht⟩, hs, hq⟩ := h
  simp [w_l_is_letter]
  refine ⟨_, ht, ?_⟩
  cases v with
  | str x =>
    cases ht
    simp [isTyp]
    refine ⟨small_line (Nat.le_trans hs (by decide)), ?_⟩
    match x, hq with
    | [], hq => simp; exact ⟨_, Nat.le_refl _, hq⟩
    | [c], hq =>
      have e : isLetD (.str [c]) = decide (c ∈ abcW) := abc_in.symm
      rw [e] at hq
      simp at hq ⊢
      exact ⟨_, Nat.le_refl _, hq⟩
    | a :: b :: c, hq =>
      simp
      exact ⟨_, Nat.le_refl _, hq⟩
  | ob => cases ht
  | exn => cases ht
  | tx => cases ht
  | cl => cases ht
  | _ =>
    cases ht
    simp [isTyp]
    exact ⟨_, Nat.le_refl _, hq⟩
theorem p_l_is_simple (ds : List D) (g : Nat) (q : D → Nat → Prop) (ex : Exn → Nat → Prop) (hl : ds.length = 1) (h : d_l_simple ds g q ex) : w_l_is_simple ex (kEndS q) (startD ["_law_word_here", "_law_place"] ds) g := by
  obtain ⟨w, rfl, hw, hq⟩ := h
  simp [w_l_is_simple]
  refine ⟨small_line (by omega), by omega, by rw [rngL_len]; exact small_line (by omega), ?_⟩
  rw [rngL_1]
  refine lcW_map (M := stg) _ (fun i : Nat => D.int i) (fun i => !decide (w < w.drop i)) _ (fun i hi k1 k0 hk => ?_) ?_
  · simp
    refine ⟨small_line (by omega), ?_⟩
    rw [cut_from]
    have hm := List.mem_range'_1.mp hi
    have ne : w.drop i ≠ w := fun z => by
      have := congrArg List.length z
      rw [List.length_drop] at this
      omega
    by_cases c : w < w.drop i
    · rw [if_neg (List.not_lt.mpr (List.le_of_lt c))]
      simpa [c] using hk
    · rw [if_pos (Decidable.byContradiction fun z => ne (List.le_antisymm (List.not_lt.mp c) (List.not_lt.mp z)))]
      simpa [c] using hk
  · refine ⟨g, Nat.le_refl _, ?_⟩
    have e2 : (((List.range' 1 (w.length - 1)).filter fun i => !decide (w < w.drop i)).map fun i : Nat => D.int i).isEmpty = simpW w := by
      unfold simpW
      rw [Bool.eq_iff_iff, List.isEmpty_iff, List.map_eq_nil_iff, List.filter_eq_nil_iff, List.all_eq_true]
      exact forall_congr' fun i => forall_congr' fun _ => by simp
    show q (.bl ((((List.range' 1 (w.length - 1)).filter fun i => !decide (w < w.drop i)).map fun i : Nat => D.int i).isEmpty)) g
    rw [e2]
    exact hq
theorem ix_bl (n : Nat) {ys : List D} {r : D → Prop} (hy : ys.all flatD = true) (h : r (.int (n : Nat))) : ixD (D.bl true) (List.replicate n (.bl false) ++ .bl true :: ys) r := by
  refine ⟨rfl, ?_, n, ⟨_, by rw [List.getElem?_append_right (by simp)]; simp; rfl, by decide⟩, fun m z hm e => ?_, h⟩
  · rw [List.all_append, List.all_cons, hy, List.all_replicate]
    simp [flatD]
  · rw [List.getElem?_append_left (by simpa using hm), List.getElem?_replicate_of_lt hm] at e
    cases e
    decide
theorem p_l_name (ds : List D) (g : Nat) (q : D → Nat → Prop) (ex : Exn → Nat → Prop) (hl : ds.length = 1) (h : d_l_nameR ds g q ex) : w_l_name ex (kEndS q) (startD ["_law_error", "_law_names", "_law_flags", "_law_bases"] ds) g := by
  obtain ⟨⟨c, ns, vs⟩, rfl, hx, hq⟩ := h
  simp only [nameR, List.mem_cons, List.not_mem_nil, or_false] at hx
  rcases hx with rfl | rfl
  all_goals
    simp +decide [w_l_name, isX]
    first | refine ix_bl 14 rfl ?_ | refine ix_bl 7 rfl ?_ | refine ix_bl 3 rfl ?_ | refine ix_bl 13 rfl ?_ | refine ⟨by rintro x ((rfl | rfl | rfl) | rfl) <;> rfl, ?_⟩ | refine ⟨by rintro x ((rfl | rfl) | rfl) <;> rfl, ?_⟩
    all_goals try first | refine ix_bl 14 rfl ?_ | refine ix_bl 7 rfl ?_ | refine ix_bl 3 rfl ?_ | refine ix_bl 2 rfl ?_ | refine ix_bl 10 rfl ?_ | refine ix_bl 6 rfl ?_ | refine ix_bl 11 rfl ?_ | refine ix_bl 5 rfl ?_ | refine ix_bl 8 rfl ?_ | refine ix_bl 4 rfl ?_
    all_goals
      simp +decide
      refine ⟨_, rfl, by decide, ?_⟩
      rw [if_pos (by decide)]
      first | refine ix_bl 13 rfl ?_ | refine ix_bl 14 rfl ?_ | refine ix_bl 7 rfl ?_ | refine ix_bl 3 rfl ?_ | refine ix_bl 2 rfl ?_ | refine ix_bl 10 rfl ?_ | refine ix_bl 6 rfl ?_ | refine ix_bl 11 rfl ?_ | refine ix_bl 5 rfl ?_ | refine ix_bl 8 rfl ?_ | refine ix_bl 4 rfl ?_
      refine ⟨_, rfl, _, Nat.le_refl _, ?_⟩
      exact hq
theorem p_l_field (ds : List D) (g : Nat) (q : D → Nat → Prop) (ex : Exn → Nat → Prop) (hl : ds.length = 1) (h : d_l_fieldR ds g q ex) : w_l_field ex (kEndS q) (startD ["_law_error"] ds) g := by
  obtain ⟨x, rfl, hx, hq⟩ := h
  rcases hx with ⟨v, rfl⟩ | ⟨v, rfl⟩
  all_goals
    simp +decide [w_l_field, isX, fldX]
    exact ⟨_, Nat.le_refl _, by simpa [exF, xNotSimple] using hq⟩
theorem p_word_error (ds : List D) (g : Nat) (q : D → Nat → Prop) (ex : Exn → Nat → Prop) (hl : ds.length = 1) (h : d_word_error ds g q ex) : w_word_error ex (kEndS q) (startD ["value", "place", "sign"] ds) g := by
  obtain ⟨v, rfl, ⟨t, ht⟩, hs, hq⟩ := h
  simp [w_word_error]
  refine ⟨_, ht, ?_⟩
  cases v with
  | str x =>
    cases ht
    have sx := small_line (n := x.length) (Nat.le_trans hs (by decide))
    simp [isTyp, sx]
    by_cases c1 : x = []
    · rw [wErr_bad (.inl c1)] at hq
      rw [if_neg (by rw [c1]; decide)]
      exact ⟨small_line (by decide), _, Nat.le_refl _, hq⟩
    · have pos := List.length_pos_iff.mpr c1
      rw [if_pos (by omega)]
      by_cases c2 : (x.length : Int) ≤ 24
      · rw [if_pos c2]
        have nc : ¬ (x = [] ∨ 24 < x.length) := fun z => by
          rcases z with z | z
          · exact c1 z
          · omega
        refine forW_word (M := stg) (fun i ρ (g' : Nat) => g' = g ∧ (∀ j (hj : j < i) (hj2 : j < x.length), isLt x[j] = true) ∧ ∃ y1 y2, ρ = [.im (.str x), y1, y2]) _ ⟨rfl, fun j hj => by omega, _, _, rfl⟩ (fun i d ρ g' K hd hI hK => ?_) (fun ρ g' hI => ?_)
        · obtain ⟨rfl, hI, y1, y2, rfl⟩ := hI
          obtain ⟨e, he, rfl⟩ := en_get hd
          rw [List.getElem?_map] at he
          have hi : i < x.length := by
            cases h : x[i]? with
            | none => rw [h] at he; cases he
            | some c => exact (List.getElem?_eq_some_iff.mp h).1
          rw [List.getElem?_eq_getElem hi] at he
          cases he
          simp [gwT]
          refine ⟨_, rfl, ok_str, by simp [szD], ?_⟩
          simp
          rw [show isLetD (D.str [x[i]]) = isLt x[i] from rfl]
          cases cl : isLt x[i] with
          | false =>
            rw [if_neg (by decide)]
            have := wErr_at nc hi cl fun j hj => hI j hj (by omega)
            rw [this] at hq
            exact ⟨small_line (by decide), _, Nat.le_refl _, hq⟩
          | true =>
            rw [if_pos rfl]
            refine hK _ _ ⟨rfl, fun j hj hj2 => ?_, _, _, rfl⟩
            by_cases e : j = i
            · subst e; exact cl
            · exact hI j (by omega) hj2
        · obtain ⟨rfl, hI, y1, y2, rfl⟩ := hI
          rw [enL_len, List.length_map] at hI
          have : wErr (.str x) = .non := wErr_ok nc fun c hc => by
            obtain ⟨j, hj, rfl⟩ := List.getElem_of_mem hc
            exact hI j hj hj
          rw [this] at hq
          simp
          exact ⟨_, Nat.le_refl _, hq⟩
      · rw [if_neg c2]
        rw [wErr_bad (.inr (by omega))] at hq
        exact ⟨small_line (by decide), _, Nat.le_refl _, hq⟩
  | ob => cases ht
  | exn => cases ht
  | tx => cases ht
  | cl => cases ht
  | _ =>
    cases ht
    simp [isTyp]
    exact ⟨small_line (by decide), _, Nat.le_refl _, hq⟩
theorem p_Desk_order (ds : List D) (g : Gq) (q : D → Gq → Prop) (ex : Exn → Gq → Prop) (hl : ds.length = 1) (h : d_Desk_order ds g q ex) : w_Desk_order ex (kEndQ q) (startD ["self"] ds) g := by
  obtain ⟨k, d, rfl, ⟨h, hc⟩, hl, hq⟩ := h
  simp [w_Desk_order]
  exact ⟨_, _, h, cls_in hc, _, fs_now, rfl, _, rfl, hl, fun _ => ⟨_, Nat.le_refl _, hq⟩⟩
theorem p_SimpleDesk_accept (ds : List D) (g : Gq) (q : D → Gq → Prop) (ex : Exn → Gq → Prop) (hl : ds.length = 2) (h : d_SimpleDesk_accept ds g q ex) : w_SimpleDesk_accept ex (kEndQ q) (startD ["self", "word"] ds) g := by
  obtain ⟨k, w, rfl, hw, hq⟩ := h
  simp [w_SimpleDesk_accept]
  refine ⟨by simp [obsA, obsD], w, rfl, by omega, ?_⟩
  by_cases hs : simpW w = true
  · rw [if_pos hs] at hq
    simp [hs]
    intro _
    exact ⟨_, Nat.le_refl _, hq⟩
  · rw [if_neg hs] at hq
    have hs : simpW w = false := by simpa using hs
    simp [hs]
    intro _
    refine ⟨by simp [obsA, obsD], w, rfl, by omega, ?_⟩
    intro _
    have hne : 0 < (tOrd w).length := by
      rw [tOrd_len]
      cases w with
      | nil => exact absurd hs (by decide)
      | cons a b => simp
    cases ho : tOrd w with
    | nil => rw [ho] at hne; cases hne
    | cons i r =>
      refine ⟨.int (i : Nat), atI_ofNat (j := 0) rfl, ?_⟩
      have hq : ex ⟨"NotSimple", ["place"], [.int ((tOrd w).headD 0 : Nat)]⟩ g := hq
      rw [ho] at hq
      exact hq
theorem p_l_pick (ds : List D) (g : Nat) (q : D → Nat → Prop) (ex : Exn → Nat → Prop) (hl : ds.length = 2) (h : d_l_pick ds g q ex) : w_l_pick ex (kEndS q) (startD ["_law_stream_here", "_law_items"] ds) g := by
  obtain ⟨c, xs, rfl, hc, hne, hlen, hg, hq⟩ := h
  have hpos : 0 < xs.length := List.length_pos_iff.mpr hne
  cases c with
  | lst ds =>
    cases hc
    simp [w_l_pick]
    refine draw_n hpos (by omega) hg fun v hv => ?_
    simp
    exact ⟨_, atI_ofNat (List.getElem?_eq_getElem hv), _, Nat.le_refl _, hq _ (List.getElem_mem hv)⟩
  | tup ds =>
    cases hc
    simp [w_l_pick]
    refine draw_n hpos (by omega) hg fun v hv => ?_
    simp
    exact ⟨_, atI_ofNat (List.getElem?_eq_getElem hv), _, Nat.le_refl _, hq _ (List.getElem_mem hv)⟩
  | str x =>
    cases hc
    rw [List.length_map] at hpos hlen
    simp [w_l_pick]
    refine ⟨small_line hlen, draw_n hpos (by omega) hg fun v hv => ?_⟩
    simp
    exact ⟨small_line hlen, _, atI_ofNat (List.getElem?_eq_getElem hv), _, Nat.le_refl _, hq _ (List.mem_map.mpr ⟨_, List.getElem_mem hv, rfl⟩)⟩
  | _ => cases hc
theorem p_l_odd (ds : List D) (g : Nat) (q : D → Nat → Prop) (ex : Exn → Nat → Prop) (hl : ds.length = 1) (h : d_l_oddF ds g q ex) : w_l_odd ex (kEndS q) (startD ["_law_stream_here", "_law_some"] ds) g := by
  obtain ⟨rfl, hg, hq⟩ := h
  unfold w_l_odd
  simp only [wSeq, wSet, wI, wL, wLst, wACons, wANil, wC, wTup, wNeg, wBin, sm_asI, sm_pow]
  refine ⟨⟨by decide, by decide, by decide⟩, small_line (by decide), small_line (by decide), small_line (by decide), small_line (by decide), small_line (by decide), ?_⟩
  simp only [wRet, wBin, wL, wBinN, wLst, wVar, wACons, wANil, wC, wTup]
  refine ⟨_, rfl, small_line (by decide), ?_⟩
  rw [sm_mul2]
  refine ⟨by decide, small_line (by decide), by decide, small_line (by decide), ?_⟩
  rw [sm_cat]
  refine ⟨small_line (by decide), ?_⟩
  refine (fun {P : List D → Prop} (A B : List D) (e : A ++ B = oddF) (k : ∀ L, L = oddF → P L) => (k _ e : P (A ++ B))) (P := fun L => wCallB 2 d_l_draw (wACons (wVar 0) (wACons (wC (D.int 24)) wANil)) (xk ex) _ g fun y g2 => oIx (.lst L) y fun d => (kEndS q).rt d g2) _ _ rfl fun L hL => ?_
  simp only [wCallB, wACons, wVar, wC, wANil]
  refine ⟨_, rfl, ?_⟩
  refine ⟨rfl, draw_l (k := 24) hg fun v hv => ?_⟩
  rw [sm_ix1]
  have hv2 : v < L.length := by rw [hL]; exact hv
  exact ⟨_, atI_ofNat (List.getElem?_eq_getElem hv2), _, Nat.le_refl _, hq _ (hL ▸ List.getElem_mem hv2)⟩
theorem p_l_due_seen (ds : List D) (g : Nat) (q : D → Nat → Prop) (ex : Exn → Nat → Prop) (hl : ds.length = 1) (h : d_l_due_seenV ds g q ex) : w_l_due_seen ex (kEndS q) (startD ["_law_model", "_law_word_here", "_law_done", "_law_text"] ds) g := by
  obtain ⟨w, rfl, hw, hr, hq⟩ := h
  simp [w_l_due_seen, mod1]
  refine ⟨_, atI_ofNat (j := 0) rfl, ?_⟩
  refine ⟨.str w, by rfl, ?_⟩
  refine ⟨_, atI_ofNat (j := 1) rfl, ?_⟩
  simp
  have l1 := dec_len hw
  have l2 : (dec 0).length = 1 := by decide
  refine ⟨small_line (by omega), Nat.lt_of_le_of_lt (Nat.log2_le_self _) (by omega), small_line (by omega), small_line (by omega), small_line (by omega), w, rfl, hw, ?_⟩
  refine ⟨small_line (by omega), small_line (by decide), _, rfl, ?_, _, Nat.le_refl _, ?_⟩
  · unfold seenD strX at hr
    simpa using hr
  · unfold seenD strX at hq
    simpa using hq
theorem p_is_word (ds : List D) (g : Nat) (q : D → Nat → Prop) (ex : Exn → Nat → Prop) (hl : ds.length = 1) (h : d_is_word ds g q ex) : w_is_word ex (kEndS q) (startD ["value"] ds) g := by
  obtain ⟨v, rfl, ht, hs, hq⟩ := h
  simp [w_is_word]
  exact ⟨v, rfl, ht, hs, by simp; exact ⟨_, Nat.le_refl _, hq⟩⟩
theorem p_check_word (ds : List D) (g : Nat) (q : D → Nat → Prop) (ex : Exn → Nat → Prop) (hl : ds.length = 1) (h : d_check_word ds g q ex) : w_check_word ex (kEndS q) (startD ["value", "error"] ds) g := by
  obtain ⟨v, rfl, hv, hq⟩ := h
  simp [w_check_word]
  refine ⟨v, rfl, hv.ok, hv.sz, ?_⟩
  by_cases c : isN (wErr v) = true
  · rw [if_pos c] at hq
    rw [if_pos c]
    exact ⟨_, Nat.le_refl _, hq⟩
  · rw [if_neg c] at hq
    rw [if_neg c]
    exact hq
theorem p_l_word (ds : List D) (g : Nat) (q : D → Nat → Prop) (ex : Exn → Nat → Prop) (hl : ds.length = 2) (h : d_l_word ds g q ex) : w_l_word ex (kEndS q) (startD ["_law_stream_here", "_law_most", "_law_size", "_law_way", "_law_letters", "_law_word_here", "_law_k"] ds) g := by
  obtain ⟨most, rfl, h1, h2, hg, hq⟩ := h
  simp [w_l_word]
  refine draw_n (by omega) (by omega) (by omega) fun v hv => ?_
  simp
  refine draw_l (k := 6) (by omega) fun way hway => ?_
  simp
  have hLs : ∀ x ∈ [[97, 98], [97, 98, 99], [97], [97, 122], [97, 98, 99, 100, 101, 102, 103, 104, 105, 106, 107, 108, 109, 110, 111, 112, 113, 114, 115, 116, 117, 118, 119, 120, 121, 122], [97, 98]], x ≠ [] ∧ x.length ≤ 26 ∧ ∀ c ∈ x, 97 ≤ c ∧ c < 123 := by decide
  have hix : ∃ x : List Nat, ([[97, 98], [97, 98, 99], [97], [97, 122], [97, 98, 99, 100, 101, 102, 103, 104, 105, 106, 107, 108, 109, 110, 111, 112, 113, 114, 115, 116, 117, 118, 119, 120, 121, 122], [97, 98]] : List (List Nat))[way]? = some x := ⟨_, List.getElem?_eq_getElem (by simpa using hway)⟩
  obtain ⟨x, hx⟩ := hix
  obtain ⟨hx0, hxl, hxL⟩ := hLs x (List.mem_of_getElem? hx)
  have e1 : (1 : Int) + v = ((v + 1 : Nat) : Int) := by omega
  refine ⟨small_line (by decide), .str x, atI_ofNat (by
    have := congrArg (Option.map D.str) hx
    rw [← List.getElem?_map] at this
    exact this), by omega, by omega, by rw [rngL_len]; exact small_line (by omega), ?_⟩
  rw [e1, rngL_0]
  refine lcW_draw _ (fun _ d => IsL d) 1 (g + 40) (List.range (v + 1)) (by rw [List.length_range]; omega) (fun i hi g1 k1 k0 hg1 hk => ?_) fun ys hy => ?_
  · simp
    refine pick_of (by omega) rfl (by simpa using hx0) (by rw [List.length_map]; omega) fun d hd => hk d ?_
    obtain ⟨c, hc, rfl⟩ := List.mem_map.mp hd
    exact ⟨c, rfl, hxL c hc⟩
  · obtain ⟨hy1, hy2⟩ := paired_all hy
    rw [List.length_range] at hy2
    rw [List.length_range]
    refine join_letters hy1 (by omega) fun cs hL hc => ?_
    have fin : ∀ g', g' ≤ g + 40 → ∃ n, g' ≤ n ∧ q (.str cs) n := fun g' h => ⟨g + 40, h, hq cs (by omega) (by omega) hL⟩
    simp
    split
    · refine draw_l (k := 2) (by omega) fun u hu => ?_
      simp
      split
      · refine draw_l (k := 4) (by omega) fun t ht => ?_
        simp
        have e2 : (1 : Int) + t = ((t + 1 : Nat) : Int) := by omega
        rw [e2, cut_to]
        have el : (cs.take (t + 1)).length ≤ 30 := by rw [List.length_take]; omega
        have ep : 1 ≤ (cs.take (t + 1)).length := by rw [List.length_take]; omega
        have em : (v + 1) * 1 ≤ (v + 1) * (cs.take (t + 1)).length := Nat.mul_le_mul_left _ ep
        have em2 : (v + 1) * (cs.take (t + 1)).length ≤ 30 * 30 := Nat.mul_le_mul (by omega) el
        refine ⟨small_line (by omega), by omega, small_line (by rw [Nat.mul_comm]; omega), by omega, small_line (by omega), g + 40, by omega, ?_⟩
        have e3 : (v : Int) + 1 = ((v + 1 : Nat) : Int) := by omega
        rw [e3, cut_to]
        have hrl := rep_len (cs.take (t + 1)) (v + 1)
        exact hq _ (by rw [List.length_take, hrl]; omega) (by rw [List.length_take]; omega) (lets_take (lets_rep (lets_take hL _) _) _)
      · exact fin _ (by omega)
    · exact fin _ (by omega)
theorem p_l_spoilt (ds : List D) (g : Nat) (q : D → Nat → Prop) (ex : Exn → Nat → Prop) (hl : ds.length = 2) (h : d_l_spoilt_k66 ds g q ex) : w_l_spoilt ex (kEndS q) (startD ["_law_stream_here", "_law_text", "_law_words", "_law_spot", "_law_place", "_law_way", "_law_sign", "_law_word_here"] ds) g := by
  obtain ⟨t, rfl, hl, ht, hg, hq⟩ := h
  simp [w_l_spoilt]
  have wg := wgt_spl t
  have ne := spl_ne t []
  have lw : (splL [32] t).length ≤ t.length + 1 := by unfold wgt at wg; omega
  have pw : 0 < (splL [32] t).length := List.length_pos_iff.mpr ne
  have mem : ∀ y ∈ splL [32] t, ∀ c ∈ y, c < 128 := fun y hy c hc => by
    rcases spl_mem t [] y c hy hc with z | z
    · cases z
    · exact ht c z
  have e0 : (t.length : Int) + 1 = ((t.length + 1 : Nat) : Int) := by omega
  rw [e0]
  refine ⟨small_line (by omega), small_line (by omega), draw_n (by omega) (by omega) (by omega) fun spot hspot => draw_n pw (by omega) (by omega) fun place hplace => draw_l (k := 7) (by omega) fun way hway => ?_⟩
  refine ⟨small_line (by decide), pick_of (by omega) rfl (by decide) (by decide) fun sd hsd => ?_⟩
  obtain ⟨sg, rfl, lsg, hsg⟩ : ∃ sg : List Nat, sd = .str sg ∧ sg.length ≤ 4 ∧ ∀ c ∈ sg, c < 128 := by
    have key : ∀ L : List (List Nat), (∀ y ∈ L, y.length ≤ 4 ∧ ∀ c ∈ y, c < 128) → ∀ d ∈ L.map D.str, ∃ sg : List Nat, d = .str sg ∧ sg.length ≤ 4 ∧ ∀ c ∈ sg, c < 128 := fun L hL d hd => by
      obtain ⟨y, hy, rfl⟩ := List.mem_map.mp hd
      exact ⟨y, rfl, hL y hy⟩
    exact key [[48], [49], [97], [32], [45], [43], [10], [122], [95], [65], [57], [119, 111, 114, 100]] (by decide) _ hsd
  simp
  by_cases c4 : way < 4
  · rw [if_pos (by omega)]
    have fin : ∀ (y : List Nat), y.length ≤ 4 → (∀ c ∈ y, c < 128) → oAdd (D.str (cutL t none (some (spot : Int)))) (D.str y) fun d => t.length ≤ sizeLine ∧ oAdd d (D.str (cutL t (some ((spot : Int) + if 0 < way then 1 else 0)) none)) fun d => ∃ n : Nat, g + 1 + 1 + 1 + 1 ≤ n ∧ q d n := fun y ly hy => by
      have e : ((spot : Int) + if 0 < way then 1 else 0) = ((spot + (if 0 < way then 1 else 0) : Nat) : Int) := by split <;> omega
      rw [e, cut_from, cut_to]
      simp
      refine ⟨small_line (by omega), small_line (by omega), small_line (by omega), _, Nat.le_refl _, hq _ _ ?_ ?_ (by omega)⟩
      · rw [List.length_append, List.length_append, List.length_take, List.length_drop]
        omega
      · intro c hc
        rcases List.mem_append.mp hc with hc | hc
        · exact ht c (List.mem_of_mem_take hc)
        · rcases List.mem_append.mp hc with hc | hc
          · exact hy c hc
          · exact ht c (List.mem_of_mem_drop hc)
    refine ⟨small_line (by omega), small_line (by decide), ?_⟩
    match way, c4 with
    | 0, _ => exact ⟨.str sg, rfl, fin sg lsg hsg⟩
    | 1, _ => exact ⟨.str [], rfl, fin [] (by decide) (fun _ z => by cases z)⟩
    | 2, _ => exact ⟨.str sg, rfl, fin sg lsg hsg⟩
    | 3, _ => exact ⟨.str [], rfl, fin [] (by decide) (fun _ z => by cases z)⟩
  · rw [if_neg (by omega)]
    refine ⟨small_line (by decide), small_line (by decide), pick_of (by omega) rfl (by decide) (by decide) fun wd hwd => ?_⟩
    obtain ⟨wd, rfl, lwd, hwd⟩ : ∃ sg : List Nat, wd = .str sg ∧ sg.length ≤ 30 ∧ ∀ c ∈ sg, c < 128 := by
      have key : ∀ L : List (List Nat), (∀ y ∈ L, y.length ≤ 30 ∧ ∀ c ∈ y, c < 128) → ∀ d ∈ L.map D.str, ∃ sg : List Nat, d = .str sg ∧ sg.length ≤ 30 ∧ ∀ c ∈ sg, c < 128 := fun L hL d hd => by
        obtain ⟨y, hy, rfl⟩ := List.mem_map.mp hd
        exact ⟨y, rfl, hL y hy⟩
      exact key [[], [48, 48], [45, 48], [48, 49], [45, 49], [50, 52], [49, 48, 48], [119, 111, 114, 100], [111, 114, 100, 101, 114], [66], [98, 97, 110, 97, 110, 97], [57, 57, 57, 57, 57, 57, 57, 57, 57, 57, 57, 57, 57, 57, 57, 57, 57, 57, 57, 57, 57, 57, 57, 57, 57, 57, 57, 57, 57, 57]] (by decide) _ hwd
    have e1 : (place : Int) + 1 = ((place + 1 : Nat) : Int) := by omega
    rw [e1, cut_to, cut_from, cut_from, ← List.map_take, ← List.map_drop, ← List.map_drop]
    have fin : ∀ ys : List (List Nat), wgt ys ≤ 2 * t.length + 40 → (∀ y ∈ ys, ∀ c ∈ y, c < 128) → oJoin [32] (.lst (ys.map D.str)) fun r => ∃ n : Nat, g + 1 + 1 + 1 + 1 + 1 ≤ n ∧ q r n := fun ys h1 h2 => by
      have hw : (ys.map fun y : List Nat => y.length).sum + ys.length ≤ 2 * t.length + 40 := h1
      refine ⟨_, ys, .inl rfl, rfl, ?_, _, Nat.le_refl _, hq _ _ (Nat.le_trans (jn_wgt ys) h1) (fun c hc => ?_) (by omega)⟩
      · show (ys.map fun y : List Nat => y.length).sum + ys.length * 1 ≤ 16777216
        omega
      · rcases jn_mem ys c hc with rfl | ⟨x, hx, hc⟩
        · decide
        · exact h2 x hx c hc
    generalize hws : splL [32] t = ws at *
    have wt : wgt (ws.take place) + wgt (ws.drop place) = wgt ws := by rw [← wgt_app, List.take_append_drop]
    have wd1 : wgt (ws.drop (place + 1)) ≤ wgt (ws.drop place) := by
      rw [← List.drop_drop]
      exact wgt_sub (List.drop_sublist _ _)
    have lt := List.length_take_le place ws
    have ld := List.length_drop (i := place) (l := ws)
    refine ⟨small_line (by decide), small_line (by rw [List.length_map]; omega), small_line (by rw [List.length_map, List.length_map, List.length_drop]; omega), small_line (by rw [List.length_map, List.length_map, List.length_drop]; omega), small_line (by rw [List.length_map]; omega), small_line (by decide), ?_⟩
    have hw3 : way = 4 ∨ way = 5 ∨ way = 6 := by omega
    rcases hw3 with rfl | rfl | rfl
    · refine ⟨_, rfl, ?_⟩
      have := fin (ws.take place ++ wd :: ws.drop (place + 1)) (by
        rw [wgt_app]
        unfold wgt at *
        simp at *
        omega) fun y hy => by
          rcases List.mem_append.mp hy with hy | hy
          · exact mem y (List.mem_of_mem_take hy)
          · rcases List.mem_cons.mp hy with rfl | hy
            · exact hwd
            · exact mem y (List.mem_of_mem_drop hy)
      rw [List.map_append, List.map_cons] at this
      exact this
    · refine ⟨_, rfl, ?_⟩
      have := fin (ws.take place ++ ws.drop (place + 1)) (by rw [wgt_app]; omega) fun y hy => by
          rcases List.mem_append.mp hy with hy | hy
          · exact mem y (List.mem_of_mem_take hy)
          · exact mem y (List.mem_of_mem_drop hy)
      rw [List.map_append] at this
      exact this
    · refine ⟨_, rfl, ?_⟩
      have := fin (ws ++ ws.drop place) (by rw [wgt_app]; omega) fun y hy => by
          rcases List.mem_append.mp hy with hy | hy
          · exact mem y hy
          · exact mem y (List.mem_of_mem_drop hy)
      rw [List.map_append] at this
      exact this

theorem p_l_expected (ds : List D) (g : Nat) (q : D → Nat → Prop) (ex : Exn → Nat → Prop) (hl : ds.length = 2) (h : d_l_expected ds g q ex) : w_l_expected ex (kEndS q) (startD ["_law_kind", "_law_text", "_law_words", "_law_one", "_law_kinds"] ds) g := by
  obtain ⟨n, v, rfl, hn, ⟨ov, hx⟩, hq⟩ := h
  unfold toldR at hq
  simp [w_l_expected]
  obtain ⟨t, ht⟩ := ov
  refine ⟨t, ht, ?_⟩
  cases v with
  | str x =>
    cases ht
    have lx := hx x rfl
    have ne := spl_ne x []
    have e1 : isTyp "str" "str" = true := by decide
    simp only [e1, sm_isB, if_true]
    refine ⟨x, rfl, small_line (by omega), ?_⟩
    cases hs : splL [32] x with
    | nil => exact (ne hs).elim
    | cons h r =>
      have wg : wgt (h :: r) = x.length + 1 := by rw [← hs]; exact wgt_spl x
      have eb : behW tWord (.str x) = if h = tWord then .inl r else .inr (.int 0) := by
        show (match splL [32] x with | h :: t => if h = tWord then Sum.inl t else Sum.inr (D.int 0) | [] => Sum.inr (D.int 0)) = _
        rw [hs]
      have ep : pwW (.str x) = match (if h = tWord then Sum.inl r else Sum.inr (D.int 0) : Sum (List (List Nat)) D) with
        | .inr d => .inr d
        | .inl [] => .inr (.int 1)
        | .inl (w :: t) => if isN (wErr (.str w)) = true then (if t = [] then .inl w else .inr (.int 2)) else .inr (.int 1) := by
        unfold pwW
        rw [eb]
        all_goals rfl
      rw [ep] at hq
      refine ⟨.str h, atI_ofNat (j := 0) rfl, ?_⟩
      simp only [sm_ne2, sm_isB]
      by_cases c : h = tWord
      · rw [if_neg (by simp [c])]
        rw [if_pos c] at hq
        cases r with
        | nil =>
          simp
          exact ⟨small_line (by decide), _, Nat.le_refl _, hq⟩
        | cons w r =>
          have lw : w.length ≤ 9001 := by
            unfold wgt at wg
            simp at wg
            omega
          rw [if_neg (by simp; omega)]
          refine ⟨.str w, atI_ofNat (j := 1) rfl, ?_⟩
          simp
          refine ⟨small_line (by omega), ?_⟩
          have hq : q (match (if isN (wErr (.str w)) = true then (if r = [] then .inl w else .inr (.int 2)) else .inr (.int 1) : Sum (List Nat) D) with | .inr d => exD (xBadText d) | .inl w => match accX (smpC (kCls n)) w with | .inr x => exD x | .inl u => .lst [.str (rep (seenD u [])), .non, .lst [.tup [.int 0, .str u]], .lst [.bl true, .bl (n == 1 || n == 3), .bl (n == 2 || n == 3)], .tup []]) g := hq
          by_cases c1 : 1 ≤ w.length
          · rw [if_pos (by omega)]
            by_cases c2 : w.length ≤ 24
            · rw [if_pos (by omega)]
              refine ⟨.str w, atI_ofNat (j := 1) rfl, _, rfl, by rw [List.length_map]; exact small_line (by omega), ?_⟩
              refine lcW_map (M := stg) (fun c : Nat => D.str [c]) (fun c : Nat => D.str [c]) (fun c => !isLt c) w (fun c _ k1 k0 z => by
                simp only [gwN]
                simp
                refine ⟨.str [c], rfl, ⟨_, rfl⟩, by show (1 : Nat) ≤ _; decide, ?_⟩
                rw [show isLetD (.str [c]) = isLt c from rfl]
                simp only [sm_isB]
                cases cl : isLt c with
                | true =>
                  rw [cl] at z
                  simpa using z
                | false =>
                  rw [cl] at z
                  simpa using z) ?_
              by_cases c3 : ∀ c ∈ w, isLt c = true
              · have e3 : w.filter (fun c => !isLt c) = [] := List.filter_eq_nil_iff.mpr fun c hc => by
                  rw [c3 c hc]
                  decide
                rw [e3, List.map_nil, if_pos rfl]
                have e4 : isN (wErr (.str w)) = true := wErr_non.mpr ⟨⟨c1, c2⟩, c3⟩
                rw [if_pos e4] at hq
                cases r with
                | nil =>
                  rw [if_neg (by simp)]
                  rw [if_pos rfl] at hq
                  have hq : q (match accX (smpC (kCls n)) w with | .inr x => exD x | .inl u => .lst [.str (rep (seenD u [])), .non, .lst [.tup [.int 0, .str u]], .lst [.bl true, .bl (n == 1 || n == 3), .bl (n == 2 || n == 3)], .tup []]) g := hq
                  refine ⟨small_line (by decide), ?_⟩
                  rcases n with _ | _ | _ | _ | n
                  · simp [eqF]
                    have e : accX (smpC (kCls 0)) w = .inl w := by
                      unfold accX
                      rw [if_neg (by rw [show smpC (kCls 0) = false by decide]; simp)]
                    rw [e] at hq
                    refine ⟨small_line (by decide), small_line (by decide), .str w, atI_ofNat (j := 1) rfl, small_line (by decide), small_line (by decide), w, rfl, by omega, seen_ok (new_V cls_D c1 c2 c3), .str w, atI_ofNat (j := 1) rfl, small_line (by decide), small_line (by decide), small_line (by decide), _, Nat.le_refl _, ?_⟩
                    exact hq
                  · simp [eqF]
                    refine ⟨.str w, atI_ofNat (j := 1) rfl, w, rfl, by omega, ?_⟩
                    have e : accX (smpC (kCls 1)) w = if simpW w = false then .inr (xNotSimple w) else .inl w := by
                      unfold accX
                      rw [show smpC (kCls 1) = true by decide]
                      simp only [true_and]
                    rw [e] at hq
                    by_cases cs : simpW w = true
                    · rw [if_neg (by rw [cs]; decide)] at hq
                      simp only [cs, sm_isB, if_true]
                      refine ⟨small_line (by decide), small_line (by decide), .str w, atI_ofNat (j := 1) rfl, small_line (by decide), small_line (by decide), w, rfl, by omega, seen_ok (new_V cls_D c1 c2 c3), .str w, atI_ofNat (j := 1) rfl, small_line (by decide), small_line (by decide), small_line (by decide), _, Nat.le_refl _, ?_⟩
                      exact hq
                    · have cs : simpW w = false := by simpa using cs
                      rw [if_pos cs] at hq
                      simp only [cs, sm_isB, Bool.false_eq_true, if_false]
                      refine ⟨.str w, atI_ofNat (j := 1) rfl, w, rfl, by omega, ?_⟩
                      cases ho : tOrd w with
                      | nil =>
                        have := tOrd_len w
                        rw [ho] at this
                        simp at this
                        omega
                      | cons i r =>
                        refine ⟨.int (i : Nat), atI_ofNat (j := 0) rfl, small_line (by decide), _, Nat.le_refl _, ?_⟩
                        have hq : q (exD ⟨"NotSimple", ["place"], [.int ((tOrd w).headD 0 : Nat)]⟩) g := hq
                        rw [ho] at hq
                        exact hq
                  · simp [eqF]
                    have e : accX (smpC (kCls 2)) w = .inl w := by
                      unfold accX
                      rw [if_neg (by rw [show smpC (kCls 2) = false by decide]; simp)]
                    rw [e] at hq
                    refine ⟨small_line (by decide), small_line (by decide), .str w, atI_ofNat (j := 1) rfl, small_line (by decide), small_line (by decide), w, rfl, by omega, seen_ok (new_V cls_D c1 c2 c3), .str w, atI_ofNat (j := 1) rfl, small_line (by decide), small_line (by decide), small_line (by decide), _, Nat.le_refl _, ?_⟩
                    exact hq
                  · simp [eqF]
                    refine ⟨.str w, atI_ofNat (j := 1) rfl, w, rfl, by omega, ?_⟩
                    have e : accX (smpC (kCls 3)) w = if simpW w = false then .inr (xNotSimple w) else .inl w := by
                      unfold accX
                      rw [show smpC (kCls 3) = true by decide]
                      simp only [true_and]
                    rw [e] at hq
                    by_cases cs : simpW w = true
                    · rw [if_neg (by rw [cs]; decide)] at hq
                      simp only [cs, sm_isB, if_true]
                      refine ⟨small_line (by decide), small_line (by decide), .str w, atI_ofNat (j := 1) rfl, small_line (by decide), small_line (by decide), w, rfl, by omega, seen_ok (new_V cls_D c1 c2 c3), .str w, atI_ofNat (j := 1) rfl, small_line (by decide), small_line (by decide), small_line (by decide), _, Nat.le_refl _, ?_⟩
                      exact hq
                    · have cs : simpW w = false := by simpa using cs
                      rw [if_pos cs] at hq
                      simp only [cs, sm_isB, Bool.false_eq_true, if_false]
                      refine ⟨.str w, atI_ofNat (j := 1) rfl, w, rfl, by omega, ?_⟩
                      cases ho : tOrd w with
                      | nil =>
                        have := tOrd_len w
                        rw [ho] at this
                        simp at this
                        omega
                      | cons i r =>
                        refine ⟨.int (i : Nat), atI_ofNat (j := 0) rfl, small_line (by decide), _, Nat.le_refl _, ?_⟩
                        have hq : q (exD ⟨"NotSimple", ["place"], [.int ((tOrd w).headD 0 : Nat)]⟩) g := hq
                        rw [ho] at hq
                        exact hq
                  · omega
                | cons y r =>
                  rw [if_pos (by simp; omega)]
                  exact ⟨small_line (by decide), _, Nat.le_refl _, hq⟩
              · have e3 : w.filter (fun c => !isLt c) ≠ [] := fun z => c3 fun c hc => by
                  have := List.filter_eq_nil_iff.mp z c hc
                  simpa using this
                rw [if_neg (fun z => e3 (List.map_eq_nil_iff.mp z))]
                have e4 : ¬ isN (wErr (.str w)) = true := fun z => c3 (wErr_non.mp z).2
                rw [if_neg e4] at hq
                exact ⟨small_line (by decide), _, Nat.le_refl _, hq⟩
            · rw [if_neg (by omega)]
              have e4 : ¬ isN (wErr (.str w)) = true := fun z => c2 (wErr_non.mp z).1.2
              rw [if_neg e4] at hq
              exact ⟨small_line (by decide), _, Nat.le_refl _, hq⟩
          · rw [if_neg (by omega)]
            have e4 : ¬ isN (wErr (.str w)) = true := fun z => c1 (wErr_non.mp z).1.1
            rw [if_neg e4] at hq
            exact ⟨small_line (by decide), _, Nat.le_refl _, hq⟩
      · rw [if_pos (by simp [c])]
        rw [if_neg c] at hq
        exact ⟨small_line (by decide), _, Nat.le_refl _, hq⟩
  | ob => cases ht
  | exn => cases ht
  | tx => cases ht
  | cl => cases ht
  | _ =>
    cases ht
    exact ⟨small_line (by decide), _, Nat.le_refl _, hq⟩
theorem p_parse_word (ds : List D) (g : Nat) (q : D → Nat → Prop) (ex : Exn → Nat → Prop) (hl : ds.length = 1) (h : d_parse_word ds g q ex) : w_parse_word ex (kEndS q) (startD ["text", "words"] ds) g := by
  obtain ⟨v, rfl, hx, hq⟩ := h
  simp [w_parse_word]
  refine ⟨tWord, v, rfl, hx, ?_⟩
  unfold pwW at hq
  cases hb : behW tWord v with
  | inr d =>
    rw [hb] at hq
    exact hq
  | inl t =>
    rw [hb] at hq
    have tm := beh_len hx hb
    cases t with
    | nil =>
      simp [txts]
      exact hq
    | cons w t =>
      have hw := tm.2 w (List.mem_cons_self ..)
      simp [txts]
      refine ⟨.str w, atI_ofNat (j := 0) rfl, _, rfl, ⟨_, rfl⟩, by show w.length ≤ 100000; omega, ?_⟩
      by_cases c : isN (wErr (.str w)) = true
      · rw [c]
        simp only [if_pos c] at hq
        simp
        by_cases c2 : t = []
        · subst c2
          rw [if_pos rfl] at hq
          simp
          exact ⟨.str w, atI_ofNat (j := 0) rfl, _, Nat.le_refl _, hq⟩
        · rw [if_neg c2] at hq
          have := List.length_pos_iff.mpr c2
          rw [if_pos (by omega)]
          exact hq
      · simp only [if_neg c] at hq
        have : isN (wErr (.str w)) = false := by simpa using c
        rw [this]
        simp
        exact hq
theorem pf_1 {u : D} : putFd "now" u [] = [(("now" : Str), u)] := rfl
theorem pf_2 {a u : D} : putFd "states" u [(("now" : Str), a)] = [(("now" : Str), a), (("states" : Str), u)] := by
  simp only [putFd]
  rw [if_neg (by decide)]
theorem pf_3 {a b u : D} : putFd "done" u [(("now" : Str), a), (("states" : Str), b)] = [(("now" : Str), a), (("states" : Str), b), (("done" : Str), u)] := by
  simp only [putFd]
  rw [if_neg (by decide), if_neg (by decide)]
theorem pf_4 {a b c u : D} : putFd "wanted" u [(("now" : Str), a), (("states" : Str), b), (("done" : Str), c)] = [(("now" : Str), a), (("states" : Str), b), (("done" : Str), c), (("wanted" : Str), u)] := by
  simp only [putFd]
  rw [if_neg (by decide), if_neg (by decide), if_neg (by decide)]
theorem pf_5 {a b c d u : D} : putFd "is_busy" u [(("now" : Str), a), (("states" : Str), b), (("done" : Str), c), (("wanted" : Str), d)] = [(("now" : Str), a), (("states" : Str), b), (("done" : Str), c), (("wanted" : Str), d), ("is_busy", u)] := by
  simp only [putFd]
  rw [if_neg (by decide), if_neg (by decide), if_neg (by decide), if_neg (by decide)]
theorem p_Desk_init (ds : List D) (g : Gq) (q : D → Gq → Prop) (ex : Exn → Gq → Prop) (hl : ds.length = 2) (h : d_Desk_init ds g q ex) : w_Desk_init ex (kEndQ q) (startD ["self", "word"] ds) g := by
  obtain ⟨k, c, v, rfl, h, hc, hv, hq⟩ := h
  simp [w_Desk_init]
  refine ⟨by simp [obsA, hv.ob], v, rfl, hv, ?_⟩
  by_cases cw : isN (wErr v) = true
  · rw [if_pos cw] at hq
    rw [if_pos cw]
    intro _
    obtain ⟨x, rfl, h1, h2, hx⟩ := wErr_word cw
    refine ⟨_, _, h, rfl, accSp c, acc_tab hc, acc_run (by omega) ?_⟩
    have e : letX (.str x) = x := rfl
    rw [e] at hq
    cases ca : accX (smpC c) x with
    | inr y =>
      rw [ca] at hq
      exact hq
    | inl u =>
      rw [ca] at hq
      have := acc_inl ca
      subst this
      refine ⟨_, _, h, cls_in hc, by decide, small_line (by decide), _, _, set_at h, cls_in hc, by rw [pf_1]; exact (by simp), _, _, set_at h, cls_in hc, by rw [pf_1, pf_2]; exact (by simp), _, _, set_at h, cls_in hc, by rw [pf_1, pf_2, pf_3]; exact (by simp), _, _, set_at h, cls_in hc, by rw [pf_1, pf_2, pf_3, pf_4]; exact (by simp), _, Nat.le_refl _, ?_⟩
      rw [pf_1, pf_2, pf_3, pf_4, pf_5]
      exact hq
  · rw [if_neg cw] at hq
    rw [if_neg cw]
    exact fun _ => hq
theorem p_l_seen (ds : List D) (g : Gq) (q : D → Gq → Prop) (ex : Exn → Gq → Prop) (hl : ds.length = 1) (h : d_l_seen ds g q ex) : w_l_seen ex (kEndQ q) (startD ["_law_desk"] ds) g := by
  obtain ⟨k, d, rfl, ⟨h, hc⟩, hs, hr, hq⟩ := h
  have hw := hs.w
  simp [w_l_seen]
  refine ⟨_, ⟨_, h⟩, d_Desk_word, tab_in hc, k, d, rfl, ⟨h, hc⟩, ?_⟩
  refine ⟨_, ⟨_, h⟩, d_Desk_order, tab_in hc, k, d, rfl, ⟨h, hc⟩, by omega, ?_⟩
  refine ⟨_, ⟨_, h⟩, d_Desk_version, tab_in hc, k, d, rfl, ⟨h, hc⟩, ?_⟩
  refine ⟨_, _, h, fs_none (by decide), d_Desk_edits, tab_in hc, k, d, rfl, ⟨h, hc⟩, ?_⟩
  refine ⟨_, ⟨_, h⟩, d_Desk_len, tab_in hc, k, d, rfl, ⟨h, hc⟩, by omega, ?_⟩
  refine ⟨_, rfl, by omega, by omega, _, ⟨_, h⟩, d_Desk_str, tab_in hc, k, d, rfl, ⟨h, hc⟩, hs, _, rfl, small_line (by decide), _, rfl, hr, _, Nat.le_refl _, ?_⟩
  exact hq
theorem p_l_start (ds : List D) (g : Nat) (q : D → Nat → Prop) (ex : Exn → Nat → Prop) (hl : ds.length = 3) (h : d_l_start ds g q ex) : w_l_start ex (kEndS q) (startD ["_law_stream_here", "_law_kind", "_law_most", "_law_word_here"] ds) g := by
  obtain ⟨n, m, rfl, hn, hm1, hm2, hg, hq⟩ := h
  simp [w_l_start]
  refine ⟨m, rfl, by omega, by omega, by omega, fun w h1 h2 h3 => ?_⟩
  have hw := lets_lt h3
  refine ⟨small_line (by decide), ?_⟩
  have plain : (n = 0 ∨ n = 2) → smpC (kCls n) = false := fun h => by
    rcases h with rfl | rfl <;> decide
  have e : (eqF (D.int 0) (D.int ↑n) = true ∨ eqF (D.int 2) (D.int ↑n) = true) ↔ (n = 0 ∨ n = 2) := by
    have hn : n = 0 ∨ n = 1 ∨ n = 2 ∨ n = 3 := by omega
    rcases hn with rfl | rfl | rfl | rfl <;> simp [eqF]
  by_cases c : n = 0 ∨ n = 2
  · rw [if_pos (e.mpr c)]
    exact ⟨_, Nat.le_refl _, hq w _ h1 h2 hw (by unfold accX; rw [if_neg (fun z => by rw [plain c] at z; cases z.1)]) (by omega)⟩
  · rw [if_neg (fun z => c (e.mp z))]
    refine ⟨w, rfl, by omega, ?_⟩
    simp only [sm_isB]
    by_cases s : simpW w = true
    · rw [if_pos s]
      exact ⟨_, Nat.le_refl _, hq w _ h1 h2 hw (acc_simp s) (by omega)⟩
    · rw [if_neg s]
      have hl : w.length - 1 < 24 := by omega
      simp
      exact ⟨small_line (by omega), by omega, Nat.le_succ_of_le (small_line (by omega)), by omega, small_line (by omega), _, Nat.le_refl _, hq _ _ (by simp) (by simp; omega) (fun c hc => by
        rcases List.mem_append.mp hc with z | z
        · rw [List.eq_of_mem_replicate z]; rfl
        · rw [List.mem_singleton.mp z]; rfl) (acc_simp (ab_simp hl)) (by omega)⟩
theorem p_LoggedDesk_init (ds : List D) (g : Gq) (q : D → Gq → Prop) (ex : Exn → Gq → Prop) (hl : ds.length = 2) (h : d_LoggedDesk_init ds g q ex) : w_LoggedDesk_init ex (kEndQ q) (startD ["self", "word", "__class__"] ds) g := by
  obtain ⟨k, c, v, rfl, h, hc, hl, hv, hq⟩ := h
  simp [w_LoggedDesk_init]
  refine ⟨_, ⟨_, h⟩, d_Desk_init, lg_tab hl, k, c, v, rfl, h, hc, hv, ?_⟩
  by_cases cw : isN (wErr v) = true
  · rw [if_pos cw] at hq
    rw [if_pos cw]
    cases ca : accX (smpC c) (letX v) with
    | inr y =>
      rw [ca] at hq
      exact hq
    | inl u =>
      rw [ca] at hq
      refine ⟨_, _, set_at h, ?_, (by show (5 : Nat) < 1000; decide), _, Nat.le_refl _, ?_⟩
      · simpa using lg_mem hl
      · rw [new_fs hl]
        have hq : q .non ⟨g.n, g.S.set k (newDk c u).ob⟩ := hq
        show q .non ⟨g.n, (g.S.set k _).set k _⟩
        rw [set_set]
        exact hq
  · rw [if_neg cw] at hq
    rw [if_neg cw]
    exact hq
theorem pw_ok {v : D} {w : List Nat} (h : pwW v = .inl w) : isN (wErr (.str w)) = true := by
  unfold pwW at h
  split at h
  · cases h
  · cases h
  · split at h
    · split at h
      · cases h
        assumption
      · cases h
    · cases h
theorem p_Desk_read (ds : List D) (g : Gq) (q : D → Gq → Prop) (ex : Exn → Gq → Prop) (hl : ds.length = 2) (h : d_Desk_read ds g q ex) : w_Desk_read ex (kEndQ q) (startD ["cls", "text"] ds) g := by
  obtain ⟨c, v, rfl, hc, ht, ho, h⟩ := h
  simp [w_Desk_read]
  refine ⟨iniSp c, sp_tab hc rfl, ?_, v, rfl, ht, ?_⟩
  · simp [obsA, ho]
  · unfold readG at h
    cases hw : pwW v with
    | inr d =>
      rw [hw] at h
      intro _
      exact h
    | inl w =>
      rw [hw] at h
      dsimp only at h
      intro _
      have a1 : isN (wErr (.str w)) = true := pw_ok hw
      have key : ∀ (S : List Ob) (n : Nat) (q' : D → Gq → Prop) (ex' : Exn → Gq → Prop), (match accX (smpC c) w with | .inl u => q' .non ⟨n, S ++ [(newDk c u).ob, .aux]⟩ | .inr x => ex' x ⟨n, S ++ [.ins c [], .aux]⟩) → iniSp c [.ob S.length, .str w] ⟨n, S ++ [.ins c [], .aux]⟩ q' ex' := fun S n q' ex' h => by
        have e2 : ∀ u : Ob, (S ++ [Ob.ins c [], Ob.aux]).set S.length u = S ++ [u, .aux] := fun u => by
          rw [List.set_append_right _ _ (Nat.le_refl _), Nat.sub_self]
          rfl
        have e3 : (S ++ [Ob.ins c [], Ob.aux])[S.length]? = some (.ins c []) := by
          rw [List.getElem?_append_right (Nat.le_refl _), Nat.sub_self]
          rfl
        have wl : w.length ≤ 1000 := by
          obtain ⟨x, hx, h1, h2, h3⟩ := wErr_word a1
          cases hx
          omega
        unfold iniSp
        by_cases lg : lgdC c = true
        · rw [if_pos lg]
          refine ⟨S.length, c, .str w, rfl, e3, hc, lg, word_arg wl, ?_⟩
          rw [if_pos a1, show letX (.str w) = w from rfl]
          cases ea : accX (smpC c) w with
          | inl u =>
            rw [ea] at h
            show q' .non ⟨n, (S ++ [Ob.ins c [], Ob.aux]).set S.length _⟩
            rw [e2]
            exact h
          | inr x =>
            rw [ea] at h
            exact h
        · rw [if_neg lg]
          refine ⟨S.length, c, .str w, rfl, e3, hc, word_arg wl, ?_⟩
          rw [if_pos a1, show letX (.str w) = w from rfl]
          cases ea : accX (smpC c) w with
          | inl u =>
            rw [ea] at h
            have e : (newDk c u).ob = .ins c [("now", .str u), ("states", .tup [.str u]), ("done", .tup []), ("wanted", .non), ("is_busy", .bl false)] := by
              unfold Dk.ob Dk.fs
              rw [if_neg (by show ¬ lgdC c = true; exact lg)]
              rfl
            dsimp only at h
            rw [e] at h
            show q' .non ⟨n, (S ++ [Ob.ins c [], Ob.aux]).set S.length _⟩
            rw [e2]
            exact h
          | inr x =>
            rw [ea] at h
            exact h
      refine key _ _ _ _ ?_
      cases e2 : accX (smpC c) w with
      | inl u =>
        rw [e2] at h
        exact ⟨rfl, _, Nat.le_refl _, h⟩
      | inr x =>
        rw [e2] at h
        exact h
theorem rd_tab {c : Str} (hc : clsOk c) : (c, d_Desk_read) ∈ TC_read := by
  simp only [clsOk, CLS, List.mem_cons, List.not_mem_nil, or_false] at hc
  rcases hc with rfl | rfl | rfl | rfl <;> simp [TC_read]
theorem p_l_read (ds : List D) (g : Gq) (q : D → Gq → Prop) (ex : Exn → Gq → Prop) (hl : ds.length = 2) (h : d_l_read ds g q ex) : w_l_read ex (kEndQ q) (startD ["_law_kind", "_law_text"] ds) g := by
  obtain ⟨n, v, rfl, hn, ht, ho, h⟩ := h
  have hc : clsOk (kCls n) := by
    rcases n with _ | _ | _ | _ | n <;> first | omega | simp [kCls, clsOk, CLS]
  rcases n with _ | _ | _ | _ | n <;> try omega
  all_goals
    simp [w_l_read]
    exact ⟨d_Desk_read, rd_tab hc, _, v, rfl, hc, ht, ho, readG_mono (fun _ _ z => ⟨_, Nat.le_refl _, z⟩) (fun _ _ z => z) h⟩
theorem isO_run {tab : List (Str × Bool)} {we : EW stq} {ρ : DEnv} {g : Gq} {q : D → Gq → Prop} {k : Nat} {cls : Str} {fs : List (Str × D)} {b : Bool} (h : ∀ q : D → Gq → Prop, q (.ob k) g → we ρ g q) (hk : g.S[k]? = some (.ins cls fs)) (ht : (cls, b) ∈ tab) (hq : q (.bl b) g) : wIsO tab we ρ g q := h _ (.inl ⟨k, cls, fs, b, rfl, hk, ht, hq⟩)
theorem p_l_told (ds : List D) (g : Gq) (q : D → Gq → Prop) (ex : Exn → Gq → Prop) (hl : ds.length = 2) (h : d_l_toldR ds g q ex) : w_l_told ex (kEndQ q) (startD ["_law_kind", "_law_text", "_law_desk", "_law_error", "_law_kinds"] ds) g := by
  obtain ⟨n, v, rfl, hn, ht, ho, hq⟩ := h
  simp [w_l_told, -wIsO]
  refine ⟨n, v, rfl, hn, ht, ho, ?_⟩
  unfold readG
  unfold toldR at hq
  cases hw : pwW v with
  | inr d =>
    rw [hw] at hq
    dsimp only at hq ⊢
    simp [isX]
    have od : obsD d = true := by
      rcases pw_out v with ⟨w, hw2, _⟩ | ⟨d2, hw2, hd⟩
      · rw [hw] at hw2
        cases hw2
      · rw [hw] at hw2
        cases hw2
        rcases hd with rfl | ⟨i, _, rfl⟩ <;> rfl
    refine .inr ⟨by simp [obsA, obsD, od], xBadText d, rfl, by simp [nameR], fun _ => ?_⟩
    refine ⟨by simp [obsA, obsD, od], xBadText d, rfl, .inl ⟨d, rfl⟩, fun _ => ⟨small_line (by decide), _, Nat.le_refl _, ?_⟩⟩
    have := hq []
    rw [List.append_nil] at this
    exact this
  | inl w =>
    rw [hw] at hq
    dsimp only at hq ⊢
    cases ea : accX (smpC (kCls n)) w with
    | inr x =>
      rw [ea] at hq
      dsimp only at hq ⊢
      have hc : clsOk (kCls n) := by
        rcases n with _ | _ | _ | _ | n <;> first | omega | simp [kCls, clsOk, CLS]
      have e1 : x = xNotSimple w := by
        unfold accX at ea
        split at ea
        · cases ea
          rfl
        · cases ea
      have e2 := (acc_ex hc ea).2
      subst e1
      refine .inr ⟨by simp, by simpa [obsA, obsD] using e2, xNotSimple w, rfl, by simp [nameR], fun _ => ?_⟩
      refine ⟨by simpa [obsA, obsD] using e2, xNotSimple w, rfl, .inr ⟨w, rfl⟩, fun _ => ⟨small_line (by decide), _, Nat.le_refl _, ?_⟩⟩
      exact hq _
    | inl u =>
      rw [ea] at hq
      dsimp only at hq ⊢
      have hS : (g.S ++ [(newDk (kCls n) u).ob, Ob.aux])[g.S.length]? = some (newDk (kCls n) u).ob := by
        rw [List.getElem?_append_right (Nat.le_refl _), Nat.sub_self]
        rfl
      have hS' : (g.S ++ [(newDk (kCls n) u).ob, Ob.aux])[g.S.length]? = some (.ins (kCls n) (newDk (kCls n) u).fs) := hS
      have hc : clsOk (kCls n) := by
        rcases n with _ | _ | _ | _ | n <;> first | omega | simp [kCls, clsOk, CLS]
      have ua : u = w := by
        unfold accX at ea
        split at ea
        · cases ea
        · cases ea
          rfl
      have wl : u.length ≤ 24 ∧ 1 ≤ u.length ∧ ∀ c ∈ u, isLt c = true := by
        rw [ua]
        have := wErr_non.mp (pw_ok hw)
        exact ⟨this.1.2, this.1.1, this.2⟩
      have nv : (newDk (kCls n) u).V := new_V hc wl.2.1 wl.1 wl.2.2
      have hn' : n = 0 ∨ n = 1 ∨ n = 2 ∨ n = 3 := by omega
      rcases hn' with rfl | rfl | rfl | rfl
      all_goals
        refine isO_run (fun q h => by simpa using h) hS' (b := true) (by decide +kernel) ?_
        first
          | refine isO_run (fun q h => by simpa using h) hS' (b := false) (by decide +kernel) ?_
          | refine isO_run (fun q h => by simpa using h) hS' (b := true) (by decide +kernel) ?_
        first
          | refine isO_run (fun q h => by simpa using h) hS' (b := false) (by decide +kernel) ?_
          | refine isO_run (fun q h => by simpa using h) hS' (b := true) (by decide +kernel) ?_
        refine ⟨small_line (by decide), g.S.length, newDk _ u, rfl, ⟨hS, hc⟩, ?_, ?_, ?_⟩
        · exact ⟨by show u.length ≤ 800; omega, by show 1 ≤ 900; decide, Nat.zero_le _, Nat.zero_le _⟩
        · exact seen_ok nv
        · refine ⟨_, rfl, _, ⟨_, hS'⟩, d_Desk_pattern, tab_in hc, g.S.length, newDk _ u, rfl, ⟨hS, hc⟩, ?_⟩
          refine ⟨_, rfl, _, _, hS', fs_none (by decide), d_Desk_walk, by simp [TG_walk, kCls], g.S.length, newDk _ u, rfl, ⟨hS, hc⟩, by show 1 ≤ 1000; decide, ?_⟩
          dsimp only
          first
            | (rw [if_neg (by omega)]
               exact ⟨small_line (by decide), _, Nat.le_refl _, hq _⟩)
            | (rw [if_pos (by omega)]
               refine ⟨_, rfl, _, ⟨_, hS'⟩, d_LoggedDesk_log, by simp [T_log, kCls], g.S.length, newDk _ u, rfl, ⟨hS, hc⟩, rfl, ?_⟩
               exact ⟨small_line (by decide), _, Nat.le_refl _, hq _⟩)
def okV83 (v : D) : Prop := txO v ∧ obsD v = true
theorem okV83_str {x : List Nat} (h : ∀ c ∈ x, c < 128) (hl : x.length ≤ 9000) : okV83 (.str x) := ⟨txO_str h hl, rfl⟩
theorem seen_chr {u : List Nat} (hL : ∀ c ∈ u, isLt c = true) (hl : u.length ≤ 24) : chD (seenD u []) := by
  refine chD_lst fun d hd => ?_
  simp only [List.mem_cons, List.not_mem_nil, or_false] at hd
  rcases hd with rfl | rfl | rfl | rfl | rfl | rfl
  · exact chD_str fun c hc => lt_small (hL c hc)
  · exact chD_nats _
  · exact chD_int _
  · exact chD_tup fun _ h => by cases h
  · exact chD_int _
  · refine chD_str fun c hc => ?_
    unfold strX at hc
    simp only [List.mem_append] at hc
    rcases hc with ((h | h) | h) | h
    · exact dec_chars (by omega) c h
    · exact (show ∀ c ∈ [32, 108, 101, 116, 116, 101, 114, 115, 44, 32], c < 1114112 by decide) c h
    · exact dec_chars (by simp) c h
    · exact (show ∀ c ∈ [32, 101, 100, 105, 116, 115], c < 1114112 by decide) c h
theorem seen_short {u : List Nat} (hL : ∀ c ∈ u, isLt c = true) (hl : u.length ≤ 24) : (rep (seenD u [])).length ≤ 2000 := by
  have h : RB 2000 2 (seenD u []) := by
    refine (rb_lst (n := 300) (k := 1) fun x hx => ?_).mono (by simp) (by decide)
    simp only [List.mem_cons, List.not_mem_nil, or_false] at hx
    rcases hx with rfl | rfl | rfl | rfl | rfl | rfl
    · exact (rb_str fun c hc => lt_small (hL c hc)).mono (by omega) (by omega)
    · refine (rb_nats fun i hi => ?_).mono ?_ (by omega)
      · have := (tOrd_lt hi)
        omega
      · have : (tOrd u).length = u.length := by unfold tOrd; simp
        omega
    · exact (rb_nat (by simp)).mono (by omega) (by omega)
    · exact (rb_tup (n := 0) (k := 0) (fun e he => by cases he)).mono (by simp) (by omega)
    · exact (rb_nat (by omega)).mono (by omega) (by omega)
    · exact (rb_strX (by omega) (by simp)).mono (by omega) (by omega)
  have := h.len
  exact this
theorem toldR_rb {n : Nat} (hn : n < 4) {v : D} : RB 200000 4 (toldR n v) := by
  unfold toldR
  have eR : ∀ c ∈ nameR, (clsT c).length ≤ 20 ∧ ∀ k ∈ clsT c, k < 1114112 := by decide
  have ex : ∀ (c : Str) (x : D), c ∈ nameR → RB 1000 0 x → RB 200000 4 (.lst [.str (clsT c), x]) := fun c x hc hx =>
    (rb_lst (n := 1000) (k := 0) (all_cons ((rb_str (eR c hc).2).mono (by have := (eR c hc).1; omega) (Nat.le_refl _)) (all_cons hx all_nil))).mono (by simp) (by decide)
  rcases pw_out v with ⟨w, hw, wl, wL⟩ | ⟨d, hw, hd⟩
  · rw [hw]
    dsimp only
    unfold accX
    by_cases c : smpC (kCls n) = true ∧ simpW w = false
    · rw [if_pos c]
      refine ex "NotSimple" _ (by decide) ((rb_nat (i := (tOrd w).headD 0) ?_).mono (by decide) (Nat.le_refl _))
      cases ho : tOrd w with
      | nil => decide
      | cons i r =>
        have := tOrd_lt (w := w) (i := i) (by rw [ho]; exact List.mem_cons_self)
        show i < 1000
        omega
    · rw [if_neg c]
      refine (rb_lst (n := 20010) (k := 3) (all_cons ?_ (all_cons ?_ (all_cons ?_ (all_cons ?_ (all_cons ?_ all_nil)))))).mono (by simp) (by decide)
      · exact (rb_str (chD_rep (seen_chr wL wl))).mono (by have := seen_short wL wl; omega) (by decide)
      · exact rb_non.mono (by decide) (by decide)
      · exact (rb_lst (n := 600) (k := 1) (all_cons ((rb_tup (n := 250) (k := 0) (all_cons ((rb_nat (i := 0) (by decide)).mono (by decide) (Nat.le_refl _)) (all_cons ((rb_str fun c hc => lt_small (wL c hc)).mono (by omega) (Nat.le_refl _)) all_nil))).mono (by simp) (by decide)) all_nil)).mono (by simp) (by decide)
      · exact (rb_lst (n := 5) (k := 0) (all_cons (rb_bl _) (all_cons (rb_bl _) (all_cons (rb_bl _) all_nil)))).mono (by simp) (by decide)
      · exact (rb_tup (n := 0) (k := 0) (fun e he => by cases he)).mono (by simp) (by decide)
  · rw [hw]
    refine ex "BadText" _ (by decide) ?_
    rcases hd with rfl | ⟨i, hi, rfl⟩
    · exact rb_non.mono (by decide) (Nat.le_refl _)
    · exact (rb_nat (by omega)).mono (by decide) (Nat.le_refl _)
theorem four {n : Nat} {x : D} (hd : (rngL 0 4)[n]? = some x) : n < 4 ∧ x = .int (n : Int) := by
  have h1 := (List.getElem?_eq_some_iff.mp hd).1
  rw [rngL_len] at h1
  have h2 : n < 4 := by omega
  refine ⟨h2, ?_⟩
  have e : rngL 0 4 = [.int 0, .int 1, .int 2, .int 3] := rfl
  rw [e] at hd
  have : n = 0 ∨ n = 1 ∨ n = 2 ∨ n = 3 := by omega
  rcases this with rfl | rfl | rfl | rfl <;> (cases hd; rfl)
theorem p_law : w_law kLawQ (rhoLaw 10 1) ⟨0, [.raw, .raw]⟩ := by
  unfold w_law
  refine seq_mid (fun ρ g => True) (fun ρ g _ => rfl) (fun X hX => ?_)
  simp
  refine forW_word (M := stq) (fun i ρ (g : Gq) => g.n ≤ 1000 * i ∧ ∃ y2 y3 y4 y5 y6 y7 y8 y9, ρ = [.no, .im (.ob 0), y2, y3, y4, y5, y6, y7, y8, y9]) _ ⟨Nat.zero_le _, _, _, _, _, _, _, _, _, rfl⟩ (fun i x ρ g1 K1 hd hI hK => ?_) (fun ρ g1 hI => hX _ _ trivial)
  obtain ⟨hn1, y2, y3, y4, y5, y6, y7, y8, y9, rfl⟩ := hI
  have hi : i < 4 ∧ x = .int (i : Int) := four hd
  obtain ⟨hi, rfl⟩ := hi
  simp only [gwN]
  refine seq_mid (fun ρ g2 => ∃ w : List Nat, w.length ≤ 24 ∧ (∀ c ∈ w, isLt c = true) ∧ g2.n ≤ g1.n + 200 ∧ ρ = [.no, .im (.ob 0), .im (.int (i : Int)), .im (.str ([119, 111, 114, 100, 32] ++ w)), y4, y5, y6, y7, y8, y9]) ?_ (fun X hX => ?_)
  · rintro ρ g2 ⟨w, wl, wL, hg2, rfl⟩
    obtain ⟨T, hT⟩ : ∃ T : List Nat, T = [119, 111, 114, 100, 32] ++ w := ⟨_, rfl⟩
    have tl : T.length = 5 + w.length := by rw [hT, List.length_append]; rfl
    have tc : ∀ c ∈ T, c < 128 := by
      rw [hT]
      intro c hc
      rcases List.mem_append.mp hc with hc | hc
      · exact (show ∀ c ∈ [119, 111, 114, 100, 32], c < 128 by decide) c hc
      · have := wL c hc
        simp [isLt] at this
        omega
    rw [← hT]
    refine seq_mid (fun ρ g3 => ∃ V : List D, (∀ v ∈ V, okV83 v) ∧ V.length = 9 ∧ g3.n ≤ g1.n + 210 ∧ ρ = [.no, .im (.ob 0), .im (.int (i : Int)), .im (.str T), .im (.lst V), y5, y6, y7, y8, y9]) ?_ (fun X2 hX2 => ?_)
    · rintro ρ g3 ⟨V, hV, lV, hg3, rfl⟩
      refine seq_mid (fun ρ g4 => ∃ (V : List D) (y5 y6 : Sl), (∀ v ∈ V, okV83 v) ∧ V.length = 17 ∧ g4.n ≤ g1.n + 300 ∧ ρ = [.no, .im (.ob 0), .im (.int (i : Int)), .im (.str T), .im (.lst V), y5, y6, y7, y8, y9]) ?_ (fun X3 hX3 => ?_)
      · rintro ρ g4 ⟨V, y5, y6, hV, lV, hg4, rfl⟩
        simp
        refine forW_word (M := stq) (fun n ρ (g : Gq) => g.n = g4.n ∧ ∃ y7 y8 y9, ρ = [.no, .im (.ob 0), .im (.int (i : Int)), .im (.str T), .im (.lst V), y5, y6, y7, y8, y9]) _ ⟨rfl, _, _, _, rfl⟩ (fun n x ρ g5 K5 hd hI hK5 => ?_) (fun ρ g5 hI => ?_)
        · obtain ⟨e5, y7, y8, y9, rfl⟩ := hI
          have hn : n < 4 ∧ x = .int (n : Int) := four hd
          obtain ⟨hn, rfl⟩ := hn
          simp
          refine forW_word (M := stq) (fun m ρ (g : Gq) => g.n = g4.n ∧ ∃ y8 y9, ρ = [.no, .im (.ob 0), .im (.int (i : Int)), .im (.str T), .im (.lst V), y5, y6, .im (.int (n : Int)), y8, y9]) _ ⟨e5, _, _, rfl⟩ (fun m v ρ g6 K6 hd6 hI hK6 => ?_) (fun ρ g6 hI => ?_)
          · obtain ⟨e6, y8, y9, rfl⟩ := hI
            obtain ⟨⟨hv, rv⟩, ov⟩ := hV v (List.mem_of_getElem? hd6)
            simp
            refine rep_call rv (by decide) (by decide) ?_
            refine ⟨n, v, rfl, hn, hv, ov, fun T2 => ?_⟩
            refine rep_call (toldR_rb hn) (by decide) (by decide) ?_
            refine ⟨by simp [obsA, obsD, ov], n, v, rfl, hn, hv, fun _ => ?_⟩
            refine rep_call (toldR_rb hn) (by decide) (by decide) ?_
            simp
            refine rep_call rv (by decide) (by decide) ?_
            simp
            exact hK6 _ _ ⟨e6, _, _, rfl⟩
          · obtain ⟨e6, y8, y9, rfl⟩ := hI
            exact hK5 _ _ ⟨e6, _, _, _, rfl⟩
        · obtain ⟨e5, y7, y8, y9, rfl⟩ := hI
          exact hK _ _ ⟨by rw [e5]; omega, _, _, _, _, _, _, _, _, rfl⟩
      · simp
        refine forW_word (M := stq) (fun j ρ (g : Gq) => g.n ≤ g3.n + 10 * j ∧ ∃ (V : List D) (y5 y6 : Sl), (∀ v ∈ V, okV83 v) ∧ V.length = 9 + 2 * j ∧ ρ = [.no, .im (.ob 0), .im (.int (i : Int)), .im (.str T), .im (.lst V), y5, y6, y7, y8, y9]) _ ⟨Nat.le_refl _, V, _, _, hV, lV, rfl⟩ (fun j x ρ g4 K4 hd hI hK4 => ?_) (fun ρ g4 hI => ?_)
        · obtain ⟨e4, V, y5, y6, hV, lV, rfl⟩ := hI
          obtain ⟨hj, rfl⟩ := four hd
          simp
          refine ⟨rfl, T, rfl, by omega, tc, by omega, fun u n5 hu uc hn5 _ => ?_⟩
          refine ⟨rfl, u, rfl, by omega, uc, by show n5 + 5 ≤ _; omega, fun u2 n6 hu2 uc2 hn6 _ => ?_⟩
          have hn6 : n6 ≤ n5 + 5 := hn6
          refine ⟨small_line (by decide), small_line (by omega), ?_⟩
          refine hK4 _ _ ⟨by show n6 ≤ _; omega, V ++ [.str u, .str u2], _, _, all_app hV (all_cons (okV83_str uc (by omega)) (all_cons (okV83_str uc2 (by omega)) all_nil)), ?_, rfl⟩
          rw [List.length_append, lV]
          simp
          omega
        · obtain ⟨e4, V, y5, y6, hV, lV, rfl⟩ := hI
          rw [rngL_len] at e4 lV
          exact hX3 _ _ ⟨V, y5, y6, hV, by omega, by omega, rfl⟩
    · simp
      refine ⟨small_line (by omega), small_line (by omega), rfl, rfl, by omega, fun ov hov oov => ?_⟩
      refine ⟨small_line (by decide), small_line (by omega), small_line (by decide), ?_⟩
      refine hX2 _ _ ⟨_, ?_, rfl, by show g2.n + 1 ≤ _; omega, rfl⟩
      have c32 : ∀ c : Nat, c < 128 → ∀ x ∈ T ++ [c], x < 128 := fun c hc x hx => by
        rcases List.mem_append.mp hx with h | h
        · exact tc x h
        · rw [List.mem_singleton.mp h]; exact hc
      refine all_cons (okV83_str tc (by omega)) (all_cons (okV83_str (c32 32 (by decide)) (by simp; omega)) (all_cons (okV83_str (by decide) (by decide)) (all_cons (okV83_str ?_ (by simp; omega)) (all_cons ⟨txO_odd hov, oov⟩ (all_cons ⟨txO_lst tc (by omega), rfl⟩ (all_cons (okV83_str (c32 65 (by decide)) (by simp; omega)) (all_cons (okV83_str (by decide) (by decide)) (all_cons (okV83_str (by decide) (by decide)) all_nil))))))))
      intro c hc
      simp only [List.mem_cons] at hc
      rcases hc with rfl | rfl | rfl | rfl | rfl | h
      · decide
      · decide
      · decide
      · decide
      · decide
      · exact tc c h
  · simp
    refine ⟨rfl, 24, rfl, by decide, by decide, by omega, fun w w1 w2 wL _ => ?_⟩
    refine ⟨rfl, 1, 24, rfl, by decide, by decide, by decide, by show g1.n + 40 + 100 ≤ _; omega, fun u g2 u1 u2 u3 _ hg2 _ => ?_⟩
    have hg2 : g2 ≤ g1.n + 40 + 100 := hg2
    refine ⟨small_line (by decide), ?_⟩
    have wL := lets_lt wL
    have hm : (i : Int) % 2 = 0 ∨ (i : Int) % 2 = 1 := by omega
    have fin : ∀ (u : List Nat) (n : Nat), n ≤ g1.n + 150 → u.length ≤ 24 → (∀ c ∈ u, isLt c = true) → oAdd (D.str [119, 111, 114, 100, 32]) (.str u) fun d => X [Sl.no, Sl.im (D.ob 0), Sl.im (D.int ↑i), Sl.im d, y4, y5, y6, y7, y8, y9] ⟨n, g1.S⟩ := fun u n hn hu hL => by
      simp only [sm_add2, List.length_cons, List.length_nil]
      exact ⟨small_line (by omega), hX _ _ ⟨u, hu, hL, by show n ≤ _; omega, rfl⟩⟩
    rcases hm with hm | hm
    · rw [hm]
      exact ⟨.str w, atI_ofNat (j := 0) rfl, fin w _ (by omega) w2 wL⟩
    · rw [hm]
      exact ⟨.str u, atI_ofNat (j := 1) rfl, fin u _ (by omega) u2 u3⟩
end LW
set_option Elab.async false
set_option linter.all false
set_option maxRecDepth 100000
set_option maxHeartbeats 4000000
namespace LW
open PySem L2 DL
theorem all_mk {l : PySem.W.OpenLaw} {w : World} {K : PySem.W.Frag} {h : Heap} {nm_BadText qn_BadText : Str} {N_BadText I_BadText : Addr} {bs_BadText bm_BadText sb_BadText : List Value} {sn_BadText : List Str} {ab_BadText : Bool} {col_BadText : Option Bool} {dd_BadText : Option Addr} {m0_BadText m1_BadText m2_BadText m3_BadText m5_BadText : Option Value} {o1_BadText doc_BadText pm_BadText cdv_BadText ct_BadText : Value} {od_BadText an_BadText : Option Addr} {osl_BadText : Array (Option Value)} {p1_BadText p2_BadText q1_BadText q2_BadText q3_BadText q4_BadText : Pos} {nm_BadWord qn_BadWord : Str} {N_BadWord I_BadWord : Addr} {bs_BadWord bm_BadWord sb_BadWord : List Value} {sn_BadWord : List Str} {ab_BadWord : Bool} {col_BadWord : Option Bool} {dd_BadWord : Option Addr} {m0_BadWord m1_BadWord m2_BadWord m3_BadWord m5_BadWord : Option Value} {o1_BadWord doc_BadWord pm_BadWord cdv_BadWord ct_BadWord : Value} {od_BadWord an_BadWord : Option Addr} {osl_BadWord : Array (Option Value)} {p1_BadWord p2_BadWord q1_BadWord q2_BadWord q3_BadWord q4_BadWord : Pos} {nm_NotSimple qn_NotSimple : Str} {N_NotSimple I_NotSimple : Addr} {bs_NotSimple bm_NotSimple sb_NotSimple : List Value} {sn_NotSimple : List Str} {ab_NotSimple : Bool} {col_NotSimple : Option Bool} {dd_NotSimple : Option Addr} {m0_NotSimple m1_NotSimple m2_NotSimple m3_NotSimple m5_NotSimple : Option Value} {o1_NotSimple doc_NotSimple pm_NotSimple cdv_NotSimple ct_NotSimple : Value} {od_NotSimple an_NotSimple : Option Addr} {osl_NotSimple : Array (Option Value)} {p1_NotSimple p2_NotSimple q1_NotSimple q2_NotSimple q3_NotSimple q4_NotSimple : Pos} {C_Desk C_SimpleDesk C_LoggedDesk C_LoggedSimpleDesk : Addr} {C_BadText C_BadWord C_NotSimple C_BadLetter C_TooManyEdits C_Busy C_LastLetter C_TooLong C_NoPlace C_BadEdits C_BadEdit C_NothingToUndo C_Rejected C_NoVersion C_NoIndex C_TailError : Addr} {tk1 tk2 tk3 : Nat} {fm_Desk_init : Addr} {od_Desk_init an_Desk_init : Option Addr} {sl_Desk_init : Array (Option Value)} {oc_Desk_init kV_Desk_init dc_Desk_init pm_Desk_init ct_Desk_init : Value} {cd_Desk_init : Value} {fm_Desk_read : Addr} {od_Desk_read an_Desk_read : Option Addr} {sl_Desk_read : Array (Option Value)} {oc_Desk_read kV_Desk_read dc_Desk_read pm_Desk_read ct_Desk_read : Value} {cd_Desk_read : Value} {fm_Desk_word : Addr} {od_Desk_word an_Desk_word : Option Addr} {sl_Desk_word : Array (Option Value)} {oc_Desk_word kV_Desk_word dc_Desk_word pm_Desk_word ct_Desk_word : Value} {cd_Desk_word : Value} {fm_Desk_order : Addr} {od_Desk_order an_Desk_order : Option Addr} {sl_Desk_order : Array (Option Value)} {oc_Desk_order kV_Desk_order dc_Desk_order pm_Desk_order ct_Desk_order : Value} {cd_Desk_order : Value} {fm_Desk_version : Addr} {od_Desk_version an_Desk_version : Option Addr} {sl_Desk_version : Array (Option Value)} {oc_Desk_version kV_Desk_version dc_Desk_version pm_Desk_version ct_Desk_version : Value} {cd_Desk_version : Value} {fm_Desk_pattern : Addr} {od_Desk_pattern an_Desk_pattern : Option Addr} {sl_Desk_pattern : Array (Option Value)} {oc_Desk_pattern kV_Desk_pattern dc_Desk_pattern pm_Desk_pattern ct_Desk_pattern : Value} {cd_Desk_pattern : Value} {fm_Desk_accept : Addr} {od_Desk_accept an_Desk_accept : Option Addr} {sl_Desk_accept : Array (Option Value)} {oc_Desk_accept kV_Desk_accept dc_Desk_accept pm_Desk_accept ct_Desk_accept : Value} {cd_Desk_accept : Value} {fm_Desk_edits : Addr} {od_Desk_edits an_Desk_edits : Option Addr} {sl_Desk_edits : Array (Option Value)} {oc_Desk_edits kV_Desk_edits dc_Desk_edits pm_Desk_edits ct_Desk_edits : Value} {cd_Desk_edits : Value} {fm_Desk_walk : Addr} {od_Desk_walk an_Desk_walk : Option Addr} {sl_Desk_walk : Array (Option Value)} {oc_Desk_walk kV_Desk_walk dc_Desk_walk pm_Desk_walk ct_Desk_walk : Value} {cd_Desk_walk : Value} {fm_Desk_len : Addr} {od_Desk_len an_Desk_len : Option Addr} {sl_Desk_len : Array (Option Value)} {oc_Desk_len kV_Desk_len dc_Desk_len pm_Desk_len ct_Desk_len : Value} {cd_Desk_len : Value} {fm_Desk_str : Addr} {od_Desk_str an_Desk_str : Option Addr} {sl_Desk_str : Array (Option Value)} {oc_Desk_str kV_Desk_str dc_Desk_str pm_Desk_str ct_Desk_str : Value} {cd_Desk_str : Value} {fm_SimpleDesk_accept : Addr} {od_SimpleDesk_accept an_SimpleDesk_accept : Option Addr} {sl_SimpleDesk_accept : Array (Option Value)} {oc_SimpleDesk_accept kV_SimpleDesk_accept dc_SimpleDesk_accept pm_SimpleDesk_accept ct_SimpleDesk_accept : Value} {cd_SimpleDesk_accept : Value} {fm_LoggedDesk_init : Addr} {od_LoggedDesk_init an_LoggedDesk_init : Option Addr} {sl_LoggedDesk_init : Array (Option Value)} {oc_LoggedDesk_init kV_LoggedDesk_init dc_LoggedDesk_init pm_LoggedDesk_init ct_LoggedDesk_init : Value} {fm_LoggedDesk_log : Addr} {od_LoggedDesk_log an_LoggedDesk_log : Option Addr} {sl_LoggedDesk_log : Array (Option Value)} {oc_LoggedDesk_log kV_LoggedDesk_log dc_LoggedDesk_log pm_LoggedDesk_log ct_LoggedDesk_log : Value} {cd_LoggedDesk_log : Value} {pr_Desk_word : Addr} {re_Desk_word : List Value} {pr_Desk_order : Addr} {re_Desk_order : List Value} {pr_Desk_version : Addr} {re_Desk_version : List Value} {pr_Desk_pattern : Addr} {re_Desk_pattern : List Value} {pr_LoggedDesk_log : Addr} {re_LoggedDesk_log : List Value} {cj_Desk_read : Addr} {cr_Desk_read : List Value} {cq_LoggedDesk_init cc_LoggedDesk_init : Addr} {q2_LoggedDesk_init c2_LoggedDesk_init : Option Addr} {q3_LoggedDesk_init c3_LoggedDesk_init : Array (Option Value)} {q1_LoggedDesk_init c1_LoggedDesk_init : Value} {vs_LoggedDesk_init : Array Value} {fi_LoggedDesk_init : Str} {tf_LoggedDesk_init : Tok} {cd_LoggedDesk : ClassData} {mg : Str → Option Value} {fa f1 f2 f3 f4 f5 f6 f7 f8 f9 f10 f11 f12 f13 f14 f15 f16 f17 f18 f19 f20 f21 f22 f23 f24 f25 f26 : Addr} (X : K.In h) (G : h.Ns mainGlobals mg) (hfa : mg "law" = some (.ref fa))
    {od1 an1 od2 an2 od3 an3 od4 an4 od5 an5 od6 an6 od7 an7 od8 an8 od9 an9 od10 an10 od11 an11 od12 an12 od13 an13 od14 an14 od15 an15 od16 an16 od17 an17 od18 an18 od19 an19 od20 an20 od21 an21 od22 an22 od23 an23 od24 an24 od25 an25 od26 an26 : Option Addr} {sl1 sl2 sl3 sl4 sl5 sl6 sl7 sl8 sl9 sl10 sl11 sl12 sl13 sl14 sl15 sl16 sl17 sl18 sl19 sl20 sl21 sl22 sl23 sl24 sl25 sl26 : Array (Option Value)} {oc1 kV1 dc1 pm1 cd1 ct1 oc2 kV2 dc2 pm2 cd2 ct2 oc3 kV3 dc3 pm3 cd3 ct3 oc4 kV4 dc4 pm4 cd4 ct4 oc5 kV5 dc5 pm5 cd5 ct5 oc6 kV6 dc6 pm6 cd6 ct6 oc7 kV7 dc7 pm7 cd7 ct7 oc8 kV8 dc8 pm8 cd8 ct8 oc9 kV9 dc9 pm9 cd9 ct9 oc10 kV10 dc10 pm10 cd10 ct10 oc11 kV11 dc11 pm11 cd11 ct11 oc12 kV12 dc12 pm12 cd12 ct12 oc13 kV13 dc13 pm13 cd13 ct13 oc14 kV14 dc14 pm14 cd14 ct14 oc15 kV15 dc15 pm15 cd15 ct15 oc16 kV16 dc16 pm16 cd16 ct16 oc17 kV17 dc17 pm17 cd17 ct17 oc18 kV18 dc18 pm18 cd18 ct18 oc19 kV19 dc19 pm19 cd19 ct19 oc20 kV20 dc20 pm20 cd20 ct20 oc21 kV21 dc21 pm21 cd21 ct21 oc22 kV22 dc22 pm22 cd22 ct22 oc23 kV23 dc23 pm23 cd23 ct23 oc24 kV24 dc24 pm24 cd24 ct24 oc25 kV25 dc25 pm25 cd25 ct25 oc26 kV26 dc26 pm26 cd26 ct26 : Value}
    (a1 : PySem.W.nsIn K mainGlobals "is_letter" = some (some (.ref f1))) (l1 : K.lookup f1 = some ⟨oc1, od1, .func (PySem.W.fnOf "is_letter" "is_letter" (defArgs s_is_letter) (defBody s_is_letter) (defScope s_is_letter) .none kV1 dc1 pm1 an1 cd1 ct1), sl1⟩) (c1 : PySem.W.codeIn K cd1 "is_letter" = true) (k1 : PySem.W.keepIn K (.ref f1) = true)
    (a2 : PySem.W.nsIn K mainGlobals "word_error" = some (some (.ref f2))) (l2 : K.lookup f2 = some ⟨oc2, od2, .func (PySem.W.fnOf "word_error" "word_error" (defArgs s_word_error) (defBody s_word_error) (defScope s_word_error) .none kV2 dc2 pm2 an2 cd2 ct2), sl2⟩) (c2 : PySem.W.codeIn K cd2 "word_error" = true) (k2 : PySem.W.keepIn K (.ref f2) = true)
    (a3 : PySem.W.nsIn K mainGlobals "is_word" = some (some (.ref f3))) (l3 : K.lookup f3 = some ⟨oc3, od3, .func (PySem.W.fnOf "is_word" "is_word" (defArgs s_is_word) (defBody s_is_word) (defScope s_is_word) .none kV3 dc3 pm3 an3 cd3 ct3), sl3⟩) (c3 : PySem.W.codeIn K cd3 "is_word" = true) (k3 : PySem.W.keepIn K (.ref f3) = true)
    (a4 : PySem.W.nsIn K mainGlobals "tail_order" = some (some (.ref f4))) (l4 : K.lookup f4 = some ⟨oc4, od4, .func (PySem.W.fnOf "tail_order" "tail_order" (defArgs s_tail_order) (defBody s_tail_order) (defScope s_tail_order) .none kV4 dc4 pm4 an4 cd4 ct4), sl4⟩) (c4 : PySem.W.codeIn K cd4 "tail_order" = true) (k4 : PySem.W.keepIn K (.ref f4) = true)
    (a5 : PySem.W.nsIn K mainGlobals "is_simple" = some (some (.ref f5))) (l5 : K.lookup f5 = some ⟨oc5, od5, .func (PySem.W.fnOf "is_simple" "is_simple" (defArgs s_is_simple) (defBody s_is_simple) (defScope s_is_simple) .none kV5 dc5 pm5 an5 cd5 ct5), sl5⟩) (c5 : PySem.W.codeIn K cd5 "is_simple" = true) (k5 : PySem.W.keepIn K (.ref f5) = true)
    (a6 : PySem.W.nsIn K mainGlobals "words_behind" = some (some (.ref f6))) (l6 : K.lookup f6 = some ⟨oc6, od6, .func (PySem.W.fnOf "words_behind" "words_behind" (defArgs s_words_behind) (defBody s_words_behind) (defScope s_words_behind) .none kV6 dc6 pm6 an6 cd6 ct6), sl6⟩) (c6 : PySem.W.codeIn K cd6 "words_behind" = true) (k6 : PySem.W.keepIn K (.ref f6) = true)
    (a7 : PySem.W.nsIn K mainGlobals "parse_word" = some (some (.ref f7))) (l7 : K.lookup f7 = some ⟨oc7, od7, .func (PySem.W.fnOf "parse_word" "parse_word" (defArgs s_parse_word) (defBody s_parse_word) (defScope s_parse_word) .none kV7 dc7 pm7 an7 cd7 ct7), sl7⟩) (c7 : PySem.W.codeIn K cd7 "parse_word" = true) (k7 : PySem.W.keepIn K (.ref f7) = true)
    (a8 : PySem.W.nsIn K mainGlobals "check_word" = some (some (.ref f8))) (l8 : K.lookup f8 = some ⟨oc8, od8, .func (PySem.W.fnOf "check_word" "check_word" (defArgs s_check_word) (defBody s_check_word) (defScope s_check_word) .none kV8 dc8 pm8 an8 cd8 ct8), sl8⟩) (c8 : PySem.W.codeIn K cd8 "check_word" = true) (k8 : PySem.W.keepIn K (.ref f8) = true)
    (a9 : PySem.W.nsIn K mainGlobals "_law_stream" = some (some (.ref f9))) (l9 : K.lookup f9 = some ⟨oc9, od9, .func (PySem.W.fnOf "_law_stream" "_law_stream" (defArgs sStream) (defBody sStream) (defScope sStream) .none kV9 dc9 pm9 an9 cd9 ct9), sl9⟩) (c9 : PySem.W.codeIn K cd9 "_law_stream" = true) (k9 : PySem.W.keepIn K (.ref f9) = true)
    (a10 : PySem.W.nsIn K mainGlobals "_law_draw" = some (some (.ref f10))) (l10 : K.lookup f10 = some ⟨oc10, od10, .func (PySem.W.fnOf "_law_draw" "_law_draw" (defArgs sDraw) (defBody sDraw) (defScope sDraw) .none kV10 dc10 pm10 an10 cd10 ct10), sl10⟩) (c10 : PySem.W.codeIn K cd10 "_law_draw" = true) (k10 : PySem.W.keepIn K (.ref f10) = true)
    (a11 : PySem.W.nsIn K mainGlobals "_law_pick" = some (some (.ref f11))) (l11 : K.lookup f11 = some ⟨oc11, od11, .func (PySem.W.fnOf "_law_pick" "_law_pick" (defArgs s_l_pick) (defBody s_l_pick) (defScope s_l_pick) .none kV11 dc11 pm11 an11 cd11 ct11), sl11⟩) (c11 : PySem.W.codeIn K cd11 "_law_pick" = true) (k11 : PySem.W.keepIn K (.ref f11) = true)
    (a12 : PySem.W.nsIn K mainGlobals "_law_odd" = some (some (.ref f12))) (l12 : K.lookup f12 = some ⟨oc12, od12, .func (PySem.W.fnOf "_law_odd" "_law_odd" (defArgs s_l_odd) (defBody s_l_odd) (defScope s_l_odd) .none kV12 dc12 pm12 an12 cd12 ct12), sl12⟩) (c12 : PySem.W.codeIn K cd12 "_law_odd" = true) (k12 : PySem.W.keepIn K (.ref f12) = true)
    (a13 : PySem.W.nsIn K mainGlobals "_law_word" = some (some (.ref f13))) (l13 : K.lookup f13 = some ⟨oc13, od13, .func (PySem.W.fnOf "_law_word" "_law_word" (defArgs s_l_word) (defBody s_l_word) (defScope s_l_word) .none kV13 dc13 pm13 an13 cd13 ct13), sl13⟩) (c13 : PySem.W.codeIn K cd13 "_law_word" = true) (k13 : PySem.W.keepIn K (.ref f13) = true)
    (a14 : PySem.W.nsIn K mainGlobals "_law_order" = some (some (.ref f14))) (l14 : K.lookup f14 = some ⟨oc14, od14, .func (PySem.W.fnOf "_law_order" "_law_order" (defArgs s_l_order) (defBody s_l_order) (defScope s_l_order) .none kV14 dc14 pm14 an14 cd14 ct14), sl14⟩) (c14 : PySem.W.codeIn K cd14 "_law_order" = true) (k14 : PySem.W.keepIn K (.ref f14) = true)
    (a15 : PySem.W.nsIn K mainGlobals "_law_is_letter" = some (some (.ref f15))) (l15 : K.lookup f15 = some ⟨oc15, od15, .func (PySem.W.fnOf "_law_is_letter" "_law_is_letter" (defArgs s_l_is_letter) (defBody s_l_is_letter) (defScope s_l_is_letter) .none kV15 dc15 pm15 an15 cd15 ct15), sl15⟩) (c15 : PySem.W.codeIn K cd15 "_law_is_letter" = true) (k15 : PySem.W.keepIn K (.ref f15) = true)
    (a16 : PySem.W.nsIn K mainGlobals "_law_is_simple" = some (some (.ref f16))) (l16 : K.lookup f16 = some ⟨oc16, od16, .func (PySem.W.fnOf "_law_is_simple" "_law_is_simple" (defArgs s_l_is_simple) (defBody s_l_is_simple) (defScope s_l_is_simple) .none kV16 dc16 pm16 an16 cd16 ct16), sl16⟩) (c16 : PySem.W.codeIn K cd16 "_law_is_simple" = true) (k16 : PySem.W.keepIn K (.ref f16) = true)
    (a17 : PySem.W.nsIn K mainGlobals "_law_name" = some (some (.ref f17))) (l17 : K.lookup f17 = some ⟨oc17, od17, .func (PySem.W.fnOf "_law_name" "_law_name" (defArgs s_l_name) (defBody s_l_name) (defScope s_l_name) .none kV17 dc17 pm17 an17 cd17 ct17), sl17⟩) (c17 : PySem.W.codeIn K cd17 "_law_name" = true) (k17 : PySem.W.keepIn K (.ref f17) = true)
    (a18 : PySem.W.nsIn K mainGlobals "_law_field" = some (some (.ref f18))) (l18 : K.lookup f18 = some ⟨oc18, od18, .func (PySem.W.fnOf "_law_field" "_law_field" (defArgs s_l_field) (defBody s_l_field) (defScope s_l_field) .none kV18 dc18 pm18 an18 cd18 ct18), sl18⟩) (c18 : PySem.W.codeIn K cd18 "_law_field" = true) (k18 : PySem.W.keepIn K (.ref f18) = true)
    (a19 : PySem.W.nsIn K mainGlobals "_law_seen" = some (some (.ref f19))) (l19 : K.lookup f19 = some ⟨oc19, od19, .func (PySem.W.fnOf "_law_seen" "_law_seen" (defArgs s_l_seen) (defBody s_l_seen) (defScope s_l_seen) .none kV19 dc19 pm19 an19 cd19 ct19), sl19⟩) (c19 : PySem.W.codeIn K cd19 "_law_seen" = true) (k19 : PySem.W.keepIn K (.ref f19) = true)
    (a20 : PySem.W.nsIn K mainGlobals "_law_due_seen" = some (some (.ref f20))) (l20 : K.lookup f20 = some ⟨oc20, od20, .func (PySem.W.fnOf "_law_due_seen" "_law_due_seen" (defArgs s_l_due_seen) (defBody s_l_due_seen) (defScope s_l_due_seen) .none kV20 dc20 pm20 an20 cd20 ct20), sl20⟩) (c20 : PySem.W.codeIn K cd20 "_law_due_seen" = true) (k20 : PySem.W.keepIn K (.ref f20) = true)
    (a21 : PySem.W.nsIn K mainGlobals "_law_start" = some (some (.ref f21))) (l21 : K.lookup f21 = some ⟨oc21, od21, .func (PySem.W.fnOf "_law_start" "_law_start" (defArgs s_l_start) (defBody s_l_start) (defScope s_l_start) .none kV21 dc21 pm21 an21 cd21 ct21), sl21⟩) (c21 : PySem.W.codeIn K cd21 "_law_start" = true) (k21 : PySem.W.keepIn K (.ref f21) = true)
    (a22 : PySem.W.nsIn K mainGlobals "_law_spoilt" = some (some (.ref f22))) (l22 : K.lookup f22 = some ⟨oc22, od22, .func (PySem.W.fnOf "_law_spoilt" "_law_spoilt" (defArgs s_l_spoilt) (defBody s_l_spoilt) (defScope s_l_spoilt) .none kV22 dc22 pm22 an22 cd22 ct22), sl22⟩) (c22 : PySem.W.codeIn K cd22 "_law_spoilt" = true) (k22 : PySem.W.keepIn K (.ref f22) = true)
    (a23 : PySem.W.nsIn K mainGlobals "_law_read" = some (some (.ref f23))) (l23 : K.lookup f23 = some ⟨oc23, od23, .func (PySem.W.fnOf "_law_read" "_law_read" (defArgs s_l_read) (defBody s_l_read) (defScope s_l_read) .none kV23 dc23 pm23 an23 cd23 ct23), sl23⟩) (c23 : PySem.W.codeIn K cd23 "_law_read" = true) (k23 : PySem.W.keepIn K (.ref f23) = true)
    (a24 : PySem.W.nsIn K mainGlobals "_law_told" = some (some (.ref f24))) (l24 : K.lookup f24 = some ⟨oc24, od24, .func (PySem.W.fnOf "_law_told" "_law_told" (defArgs s_l_told) (defBody s_l_told) (defScope s_l_told) .none kV24 dc24 pm24 an24 cd24 ct24), sl24⟩) (c24 : PySem.W.codeIn K cd24 "_law_told" = true) (k24 : PySem.W.keepIn K (.ref f24) = true)
    (a25 : PySem.W.nsIn K mainGlobals "_law_expected" = some (some (.ref f25))) (l25 : K.lookup f25 = some ⟨oc25, od25, .func (PySem.W.fnOf "_law_expected" "_law_expected" (defArgs s_l_expected) (defBody s_l_expected) (defScope s_l_expected) .none kV25 dc25 pm25 an25 cd25 ct25), sl25⟩) (c25 : PySem.W.codeIn K cd25 "_law_expected" = true) (k25 : PySem.W.keepIn K (.ref f25) = true)
    (a26 : PySem.W.nsIn K mainGlobals "law" = some (some (.ref f26))) (l26 : K.lookup f26 = some ⟨oc26, od26, .func (PySem.W.fnOf "law" "law" (defArgs s_law) (defBody s_law) (defScope s_law) .none kV26 dc26 pm26 an26 cd26 ct26), sl26⟩) (c26 : PySem.W.codeIn K cd26 "law" = true) (k26 : PySem.W.keepIn K (.ref f26) = true)
    (z1 : PySem.W.nsIn K mainGlobals "LookupError" = some none)
    (z2 : PySem.W.nsIn K mainGlobals "ValueError" = some none)
    (z3 : PySem.W.nsIn K mainGlobals "abs" = some none)
    (z4 : PySem.W.nsIn K mainGlobals "all" = some none)
    (z5 : PySem.W.nsIn K mainGlobals "enumerate" = some none)
    (z6 : PySem.W.nsIn K mainGlobals "int" = some none)
    (z7 : PySem.W.nsIn K mainGlobals "isinstance" = some none)
    (z8 : PySem.W.nsIn K mainGlobals "len" = some none)
    (z9 : PySem.W.nsIn K mainGlobals "list" = some none)
    (z10 : PySem.W.nsIn K mainGlobals "range" = some none)
    (z11 : PySem.W.nsIn K mainGlobals "repr" = some none)
    (z12 : PySem.W.nsIn K mainGlobals "sorted" = some none)
    (z13 : PySem.W.nsIn K mainGlobals "str" = some none)
    (z14 : PySem.W.nsIn K mainGlobals "super" = some none)
    (z15 : PySem.W.nsIn K mainGlobals "tuple" = some none)
    (y1 : PySem.W.nsIn K mainGlobals "LETTERS" = some (some (.str "abcdefghijklmnopqrstuvwxyz" tk1)))
    (y2 : PySem.W.nsIn K mainGlobals "MAX_WORD" = some (some (.int 24 tk2)))
    (y3 : PySem.W.nsIn K mainGlobals "WORD" = some (some (.str "word" tk3)))
    (aC_BadText : PySem.W.nsIn K mainGlobals "BadText" = some (some (.ref C_BadText)))
    (aC_BadWord : PySem.W.nsIn K mainGlobals "BadWord" = some (some (.ref C_BadWord)))
    (aC_NotSimple : PySem.W.nsIn K mainGlobals "NotSimple" = some (some (.ref C_NotSimple)))
    (aC_BadLetter : PySem.W.nsIn K mainGlobals "BadLetter" = some (some (.ref C_BadLetter)))
    (aC_TooManyEdits : PySem.W.nsIn K mainGlobals "TooManyEdits" = some (some (.ref C_TooManyEdits)))
    (aC_Busy : PySem.W.nsIn K mainGlobals "Busy" = some (some (.ref C_Busy)))
    (aC_LastLetter : PySem.W.nsIn K mainGlobals "LastLetter" = some (some (.ref C_LastLetter)))
    (aC_TooLong : PySem.W.nsIn K mainGlobals "TooLong" = some (some (.ref C_TooLong)))
    (aC_NoPlace : PySem.W.nsIn K mainGlobals "NoPlace" = some (some (.ref C_NoPlace)))
    (aC_BadEdits : PySem.W.nsIn K mainGlobals "BadEdits" = some (some (.ref C_BadEdits)))
    (aC_BadEdit : PySem.W.nsIn K mainGlobals "BadEdit" = some (some (.ref C_BadEdit)))
    (aC_NothingToUndo : PySem.W.nsIn K mainGlobals "NothingToUndo" = some (some (.ref C_NothingToUndo)))
    (aC_Rejected : PySem.W.nsIn K mainGlobals "Rejected" = some (some (.ref C_Rejected)))
    (aC_NoVersion : PySem.W.nsIn K mainGlobals "NoVersion" = some (some (.ref C_NoVersion)))
    (aC_NoIndex : PySem.W.nsIn K mainGlobals "NoIndex" = some (some (.ref C_NoIndex)))
    (aC_TailError : PySem.W.nsIn K mainGlobals "TailError" = some (some (.ref C_TailError)))
    (aC_Desk : PySem.W.nsIn K mainGlobals "Desk" = some (some (.ref C_Desk)))
    (pg_Desk : PySem.W.plainGet K C_Desk Str.empty = true)
    (hd_Desk : PySem.W.hasDictIn K C_Desk = true)
    (po_Desk : PySem.W.plainOver K C_Desk = true)
    (sA_Desk : PySem.W.findIn K (.ref C_Desk) "__setattr__" = some (some (.builtin "object.__setattr__")))
    (aC_SimpleDesk : PySem.W.nsIn K mainGlobals "SimpleDesk" = some (some (.ref C_SimpleDesk)))
    (pg_SimpleDesk : PySem.W.plainGet K C_SimpleDesk Str.empty = true)
    (hd_SimpleDesk : PySem.W.hasDictIn K C_SimpleDesk = true)
    (po_SimpleDesk : PySem.W.plainOver K C_SimpleDesk = true)
    (sA_SimpleDesk : PySem.W.findIn K (.ref C_SimpleDesk) "__setattr__" = some (some (.builtin "object.__setattr__")))
    (aC_LoggedDesk : PySem.W.nsIn K mainGlobals "LoggedDesk" = some (some (.ref C_LoggedDesk)))
    (pg_LoggedDesk : PySem.W.plainGet K C_LoggedDesk Str.empty = true)
    (hd_LoggedDesk : PySem.W.hasDictIn K C_LoggedDesk = true)
    (po_LoggedDesk : PySem.W.plainOver K C_LoggedDesk = true)
    (sA_LoggedDesk : PySem.W.findIn K (.ref C_LoggedDesk) "__setattr__" = some (some (.builtin "object.__setattr__")))
    (aC_LoggedSimpleDesk : PySem.W.nsIn K mainGlobals "LoggedSimpleDesk" = some (some (.ref C_LoggedSimpleDesk)))
    (pg_LoggedSimpleDesk : PySem.W.plainGet K C_LoggedSimpleDesk Str.empty = true)
    (hd_LoggedSimpleDesk : PySem.W.hasDictIn K C_LoggedSimpleDesk = true)
    (po_LoggedSimpleDesk : PySem.W.plainOver K C_LoggedSimpleDesk = true)
    (sA_LoggedSimpleDesk : PySem.W.findIn K (.ref C_LoggedSimpleDesk) "__setattr__" = some (some (.builtin "object.__setattr__")))
    (fD_Desk_accept : PySem.W.findIn K (.ref C_Desk) "accept" = some (some (.ref fm_Desk_accept)))
    (fD_SimpleDesk_accept : PySem.W.findIn K (.ref C_SimpleDesk) "accept" = some (some (.ref fm_SimpleDesk_accept)))
    (fD_LoggedDesk_accept : PySem.W.findIn K (.ref C_LoggedDesk) "accept" = some (some (.ref fm_Desk_accept)))
    (fD_LoggedSimpleDesk_accept : PySem.W.findIn K (.ref C_LoggedSimpleDesk) "accept" = some (some (.ref fm_SimpleDesk_accept)))
    (fD_Desk_str : PySem.W.findIn K (.ref C_Desk) "__str__" = some (some (.ref fm_Desk_str)))
    (fD_SimpleDesk_str : PySem.W.findIn K (.ref C_SimpleDesk) "__str__" = some (some (.ref fm_Desk_str)))
    (fD_LoggedDesk_str : PySem.W.findIn K (.ref C_LoggedDesk) "__str__" = some (some (.ref fm_Desk_str)))
    (fD_LoggedSimpleDesk_str : PySem.W.findIn K (.ref C_LoggedSimpleDesk) "__str__" = some (some (.ref fm_Desk_str)))
    (fD_Desk_len : PySem.W.findIn K (.ref C_Desk) "__len__" = some (some (.ref fm_Desk_len)))
    (fD_SimpleDesk_len : PySem.W.findIn K (.ref C_SimpleDesk) "__len__" = some (some (.ref fm_Desk_len)))
    (fD_LoggedDesk_len : PySem.W.findIn K (.ref C_LoggedDesk) "__len__" = some (some (.ref fm_Desk_len)))
    (fD_LoggedSimpleDesk_len : PySem.W.findIn K (.ref C_LoggedSimpleDesk) "__len__" = some (some (.ref fm_Desk_len)))
    (fD_Desk_edits : PySem.W.findIn K (.ref C_Desk) "edits" = some (some (.ref fm_Desk_edits)))
    (fD_SimpleDesk_edits : PySem.W.findIn K (.ref C_SimpleDesk) "edits" = some (some (.ref fm_Desk_edits)))
    (fD_LoggedDesk_edits : PySem.W.findIn K (.ref C_LoggedDesk) "edits" = some (some (.ref fm_Desk_edits)))
    (fD_LoggedSimpleDesk_edits : PySem.W.findIn K (.ref C_LoggedSimpleDesk) "edits" = some (some (.ref fm_Desk_edits)))
    (fD_Desk_version : PySem.W.findIn K (.ref C_Desk) "version" = some (some (.ref pr_Desk_version)))
    (pG_Desk_version : PySem.W.specialIn K (.ref pr_Desk_version) "__get__" = some (some (.builtin "property.__get__")))
    (pT_Desk_version : PySem.W.takesIn K (.ref pr_Desk_version) = some true)
    (pR_Desk_version : PySem.W.recIn K pr_Desk_version "property" = some (.ref fm_Desk_version :: re_Desk_version))
    (fD_SimpleDesk_version : PySem.W.findIn K (.ref C_SimpleDesk) "version" = some (some (.ref pr_Desk_version)))
    (fD_LoggedDesk_version : PySem.W.findIn K (.ref C_LoggedDesk) "version" = some (some (.ref pr_Desk_version)))
    (fD_LoggedSimpleDesk_version : PySem.W.findIn K (.ref C_LoggedSimpleDesk) "version" = some (some (.ref pr_Desk_version)))
    (fD_Desk_order : PySem.W.findIn K (.ref C_Desk) "order" = some (some (.ref pr_Desk_order)))
    (pG_Desk_order : PySem.W.specialIn K (.ref pr_Desk_order) "__get__" = some (some (.builtin "property.__get__")))
    (pT_Desk_order : PySem.W.takesIn K (.ref pr_Desk_order) = some true)
    (pR_Desk_order : PySem.W.recIn K pr_Desk_order "property" = some (.ref fm_Desk_order :: re_Desk_order))
    (fD_SimpleDesk_order : PySem.W.findIn K (.ref C_SimpleDesk) "order" = some (some (.ref pr_Desk_order)))
    (fD_LoggedDesk_order : PySem.W.findIn K (.ref C_LoggedDesk) "order" = some (some (.ref pr_Desk_order)))
    (fD_LoggedSimpleDesk_order : PySem.W.findIn K (.ref C_LoggedSimpleDesk) "order" = some (some (.ref pr_Desk_order)))
    (fD_Desk_word : PySem.W.findIn K (.ref C_Desk) "word" = some (some (.ref pr_Desk_word)))
    (pG_Desk_word : PySem.W.specialIn K (.ref pr_Desk_word) "__get__" = some (some (.builtin "property.__get__")))
    (pT_Desk_word : PySem.W.takesIn K (.ref pr_Desk_word) = some true)
    (pR_Desk_word : PySem.W.recIn K pr_Desk_word "property" = some (.ref fm_Desk_word :: re_Desk_word))
    (fD_SimpleDesk_word : PySem.W.findIn K (.ref C_SimpleDesk) "word" = some (some (.ref pr_Desk_word)))
    (fD_LoggedDesk_word : PySem.W.findIn K (.ref C_LoggedDesk) "word" = some (some (.ref pr_Desk_word)))
    (fD_LoggedSimpleDesk_word : PySem.W.findIn K (.ref C_LoggedSimpleDesk) "word" = some (some (.ref pr_Desk_word)))
    (mr_LoggedDesk_LoggedDesk : PySem.W.mroIn K C_LoggedDesk (.ref C_LoggedDesk) = some true)
    (su_LoggedDesk_LoggedDesk_init : PySem.W.ks_superIn K C_LoggedDesk C_LoggedDesk "__init__" = some (some (.ref fm_Desk_init)))
    (fI_Desk_init : PySem.W.fnIn K fm_Desk_init = true)
    (op_ : PySem.W.nsIn K cStatics "thirdparty.any" = some none)
    (mr_LoggedSimpleDesk_LoggedDesk : PySem.W.mroIn K C_LoggedSimpleDesk (.ref C_LoggedDesk) = some true)
    (su_LoggedSimpleDesk_LoggedDesk_init : PySem.W.ks_superIn K C_LoggedSimpleDesk C_LoggedDesk "__init__" = some (some (.ref fm_Desk_init)))
    (fD_Desk_init : PySem.W.findIn K (.ref C_Desk) "__init__" = some (some (.ref fm_Desk_init)))
    (mk_Desk : PySem.W.makesIn K C_Desk = true)
    (kc_Desk : PySem.W.keepIn K (.ref C_Desk) = true)
    (fD_SimpleDesk_init : PySem.W.findIn K (.ref C_SimpleDesk) "__init__" = some (some (.ref fm_Desk_init)))
    (mk_SimpleDesk : PySem.W.makesIn K C_SimpleDesk = true)
    (kc_SimpleDesk : PySem.W.keepIn K (.ref C_SimpleDesk) = true)
    (fD_LoggedDesk_init : PySem.W.findIn K (.ref C_LoggedDesk) "__init__" = some (some (.ref fm_LoggedDesk_init)))
    (mk_LoggedDesk : PySem.W.makesIn K C_LoggedDesk = true)
    (kc_LoggedDesk : PySem.W.keepIn K (.ref C_LoggedDesk) = true)
    (fD_LoggedSimpleDesk_init : PySem.W.findIn K (.ref C_LoggedSimpleDesk) "__init__" = some (some (.ref fm_LoggedDesk_init)))
    (mk_LoggedSimpleDesk : PySem.W.makesIn K C_LoggedSimpleDesk = true)
    (kc_LoggedSimpleDesk : PySem.W.keepIn K (.ref C_LoggedSimpleDesk) = true)
    (jr_Desk : PySem.W.readsIn K C_Desk (.type "type") = true)
    (jg_Desk : PySem.W.specialIn K (.ref C_Desk) "__getattribute__" = some (some (.builtin "type.__getattribute__")))
    (jA_Desk_read : PySem.W.findCls K (.ref C_Desk) (.type "type") "read" = some (.get (.builtin "classmethod.__get__") (.ref cj_Desk_read) .none (.ref C_Desk)))
    (jR_Desk_read : PySem.W.recIn K cj_Desk_read "classmethod" = some (.ref fm_Desk_read :: cr_Desk_read))
    (fI_Desk_read : PySem.W.fnIn K fm_Desk_read = true)
    (jr_SimpleDesk : PySem.W.readsIn K C_SimpleDesk (.type "type") = true)
    (jg_SimpleDesk : PySem.W.specialIn K (.ref C_SimpleDesk) "__getattribute__" = some (some (.builtin "type.__getattribute__")))
    (jA_SimpleDesk_read : PySem.W.findCls K (.ref C_SimpleDesk) (.type "type") "read" = some (.get (.builtin "classmethod.__get__") (.ref cj_Desk_read) .none (.ref C_SimpleDesk)))
    (jr_LoggedDesk : PySem.W.readsIn K C_LoggedDesk (.type "type") = true)
    (jg_LoggedDesk : PySem.W.specialIn K (.ref C_LoggedDesk) "__getattribute__" = some (some (.builtin "type.__getattribute__")))
    (jA_LoggedDesk_read : PySem.W.findCls K (.ref C_LoggedDesk) (.type "type") "read" = some (.get (.builtin "classmethod.__get__") (.ref cj_Desk_read) .none (.ref C_LoggedDesk)))
    (jr_LoggedSimpleDesk : PySem.W.readsIn K C_LoggedSimpleDesk (.type "type") = true)
    (jg_LoggedSimpleDesk : PySem.W.specialIn K (.ref C_LoggedSimpleDesk) "__getattribute__" = some (some (.builtin "type.__getattribute__")))
    (jA_LoggedSimpleDesk_read : PySem.W.findCls K (.ref C_LoggedSimpleDesk) (.type "type") "read" = some (.get (.builtin "classmethod.__get__") (.ref cj_Desk_read) .none (.ref C_LoggedSimpleDesk)))
    (fD_LoggedDesk_log : PySem.W.findIn K (.ref C_LoggedDesk) "log" = some (some (.ref pr_LoggedDesk_log)))
    (pG_LoggedDesk_log : PySem.W.specialIn K (.ref pr_LoggedDesk_log) "__get__" = some (some (.builtin "property.__get__")))
    (pT_LoggedDesk_log : PySem.W.takesIn K (.ref pr_LoggedDesk_log) = some true)
    (pR_LoggedDesk_log : PySem.W.recIn K pr_LoggedDesk_log "property" = some (.ref fm_LoggedDesk_log :: re_LoggedDesk_log))
    (fD_LoggedSimpleDesk_log : PySem.W.findIn K (.ref C_LoggedSimpleDesk) "log" = some (some (.ref pr_LoggedDesk_log)))
    (fD_Desk_walk : PySem.W.findIn K (.ref C_Desk) "walk" = some (some (.ref fm_Desk_walk)))
    (fD_SimpleDesk_walk : PySem.W.findIn K (.ref C_SimpleDesk) "walk" = some (some (.ref fm_Desk_walk)))
    (fD_LoggedDesk_walk : PySem.W.findIn K (.ref C_LoggedDesk) "walk" = some (some (.ref fm_Desk_walk)))
    (fD_LoggedSimpleDesk_walk : PySem.W.findIn K (.ref C_LoggedSimpleDesk) "walk" = some (some (.ref fm_Desk_walk)))
    (fD_Desk_pattern : PySem.W.findIn K (.ref C_Desk) "pattern" = some (some (.ref pr_Desk_pattern)))
    (pG_Desk_pattern : PySem.W.specialIn K (.ref pr_Desk_pattern) "__get__" = some (some (.builtin "property.__get__")))
    (pT_Desk_pattern : PySem.W.takesIn K (.ref pr_Desk_pattern) = some true)
    (pR_Desk_pattern : PySem.W.recIn K pr_Desk_pattern "property" = some (.ref fm_Desk_pattern :: re_Desk_pattern))
    (fD_SimpleDesk_pattern : PySem.W.findIn K (.ref C_SimpleDesk) "pattern" = some (some (.ref pr_Desk_pattern)))
    (fD_LoggedDesk_pattern : PySem.W.findIn K (.ref C_LoggedDesk) "pattern" = some (some (.ref pr_Desk_pattern)))
    (fD_LoggedSimpleDesk_pattern : PySem.W.findIn K (.ref C_LoggedSimpleDesk) "pattern" = some (some (.ref pr_Desk_pattern)))
    (lM_Desk_init : K.lookup fm_Desk_init = some ⟨oc_Desk_init, od_Desk_init, .func (PySem.W.fnOf "__init__" "Desk.__init__" (defArgs s_Desk_init) (defBody s_Desk_init) (defScope s_Desk_init) .none kV_Desk_init dc_Desk_init pm_Desk_init an_Desk_init cd_Desk_init ct_Desk_init), sl_Desk_init⟩)
    (cM_Desk_init : PySem.W.codeIn K cd_Desk_init "Desk.__init__" = true)
    (kM_Desk_init : PySem.W.keepIn K (.ref fm_Desk_init) = true)
    (tM_Desk_init : PySem.W.typeIn K (.ref fm_Desk_init) = some (.type "function"))
    (lM_Desk_read : K.lookup fm_Desk_read = some ⟨oc_Desk_read, od_Desk_read, .func (PySem.W.fnOf "read" "Desk.read" (defArgs s_Desk_read) (defBody s_Desk_read) (defScope s_Desk_read) .none kV_Desk_read dc_Desk_read pm_Desk_read an_Desk_read cd_Desk_read ct_Desk_read), sl_Desk_read⟩)
    (cM_Desk_read : PySem.W.codeIn K cd_Desk_read "Desk.read" = true)
    (kM_Desk_read : PySem.W.keepIn K (.ref fm_Desk_read) = true)
    (lM_Desk_word : K.lookup fm_Desk_word = some ⟨oc_Desk_word, od_Desk_word, .func (PySem.W.fnOf "word" "Desk.word" (defArgs s_Desk_word) (defBody s_Desk_word) (defScope s_Desk_word) .none kV_Desk_word dc_Desk_word pm_Desk_word an_Desk_word cd_Desk_word ct_Desk_word), sl_Desk_word⟩)
    (cM_Desk_word : PySem.W.codeIn K cd_Desk_word "Desk.word" = true)
    (kM_Desk_word : PySem.W.keepIn K (.ref fm_Desk_word) = true)
    (lM_Desk_order : K.lookup fm_Desk_order = some ⟨oc_Desk_order, od_Desk_order, .func (PySem.W.fnOf "order" "Desk.order" (defArgs s_Desk_order) (defBody s_Desk_order) (defScope s_Desk_order) .none kV_Desk_order dc_Desk_order pm_Desk_order an_Desk_order cd_Desk_order ct_Desk_order), sl_Desk_order⟩)
    (cM_Desk_order : PySem.W.codeIn K cd_Desk_order "Desk.order" = true)
    (kM_Desk_order : PySem.W.keepIn K (.ref fm_Desk_order) = true)
    (lM_Desk_version : K.lookup fm_Desk_version = some ⟨oc_Desk_version, od_Desk_version, .func (PySem.W.fnOf "version" "Desk.version" (defArgs s_Desk_version) (defBody s_Desk_version) (defScope s_Desk_version) .none kV_Desk_version dc_Desk_version pm_Desk_version an_Desk_version cd_Desk_version ct_Desk_version), sl_Desk_version⟩)
    (cM_Desk_version : PySem.W.codeIn K cd_Desk_version "Desk.version" = true)
    (kM_Desk_version : PySem.W.keepIn K (.ref fm_Desk_version) = true)
    (lM_Desk_pattern : K.lookup fm_Desk_pattern = some ⟨oc_Desk_pattern, od_Desk_pattern, .func (PySem.W.fnOf "pattern" "Desk.pattern" (defArgs s_Desk_pattern) (defBody s_Desk_pattern) (defScope s_Desk_pattern) .none kV_Desk_pattern dc_Desk_pattern pm_Desk_pattern an_Desk_pattern cd_Desk_pattern ct_Desk_pattern), sl_Desk_pattern⟩)
    (cM_Desk_pattern : PySem.W.codeIn K cd_Desk_pattern "Desk.pattern" = true)
    (kM_Desk_pattern : PySem.W.keepIn K (.ref fm_Desk_pattern) = true)
    (lM_Desk_accept : K.lookup fm_Desk_accept = some ⟨oc_Desk_accept, od_Desk_accept, .func (PySem.W.fnOf "accept" "Desk.accept" (defArgs s_Desk_accept) (defBody s_Desk_accept) (defScope s_Desk_accept) .none kV_Desk_accept dc_Desk_accept pm_Desk_accept an_Desk_accept cd_Desk_accept ct_Desk_accept), sl_Desk_accept⟩)
    (cM_Desk_accept : PySem.W.codeIn K cd_Desk_accept "Desk.accept" = true)
    (kM_Desk_accept : PySem.W.keepIn K (.ref fm_Desk_accept) = true)
    (tM_Desk_accept : PySem.W.typeIn K (.ref fm_Desk_accept) = some (.type "function"))
    (lM_Desk_edits : K.lookup fm_Desk_edits = some ⟨oc_Desk_edits, od_Desk_edits, .func (PySem.W.fnOf "edits" "Desk.edits" (defArgs s_Desk_edits) (defBody s_Desk_edits) (defScope s_Desk_edits) .none kV_Desk_edits dc_Desk_edits pm_Desk_edits an_Desk_edits cd_Desk_edits ct_Desk_edits), sl_Desk_edits⟩)
    (cM_Desk_edits : PySem.W.codeIn K cd_Desk_edits "Desk.edits" = true)
    (kM_Desk_edits : PySem.W.keepIn K (.ref fm_Desk_edits) = true)
    (tM_Desk_edits : PySem.W.typeIn K (.ref fm_Desk_edits) = some (.type "function"))
    (lM_Desk_walk : K.lookup fm_Desk_walk = some ⟨oc_Desk_walk, od_Desk_walk, .func (PySem.W.fnOf "walk" "Desk.walk" (defArgs s_Desk_walk) (defBody s_Desk_walk) (defScope s_Desk_walk) .none kV_Desk_walk dc_Desk_walk pm_Desk_walk an_Desk_walk cd_Desk_walk ct_Desk_walk), sl_Desk_walk⟩)
    (cM_Desk_walk : PySem.W.codeIn K cd_Desk_walk "Desk.walk" = true)
    (kM_Desk_walk : PySem.W.keepIn K (.ref fm_Desk_walk) = true)
    (tM_Desk_walk : PySem.W.typeIn K (.ref fm_Desk_walk) = some (.type "function"))
    (lM_Desk_len : K.lookup fm_Desk_len = some ⟨oc_Desk_len, od_Desk_len, .func (PySem.W.fnOf "__len__" "Desk.__len__" (defArgs s_Desk_len) (defBody s_Desk_len) (defScope s_Desk_len) .none kV_Desk_len dc_Desk_len pm_Desk_len an_Desk_len cd_Desk_len ct_Desk_len), sl_Desk_len⟩)
    (cM_Desk_len : PySem.W.codeIn K cd_Desk_len "Desk.__len__" = true)
    (kM_Desk_len : PySem.W.keepIn K (.ref fm_Desk_len) = true)
    (tM_Desk_len : PySem.W.typeIn K (.ref fm_Desk_len) = some (.type "function"))
    (lM_Desk_str : K.lookup fm_Desk_str = some ⟨oc_Desk_str, od_Desk_str, .func (PySem.W.fnOf "__str__" "Desk.__str__" (defArgs s_Desk_str) (defBody s_Desk_str) (defScope s_Desk_str) .none kV_Desk_str dc_Desk_str pm_Desk_str an_Desk_str cd_Desk_str ct_Desk_str), sl_Desk_str⟩)
    (cM_Desk_str : PySem.W.codeIn K cd_Desk_str "Desk.__str__" = true)
    (kM_Desk_str : PySem.W.keepIn K (.ref fm_Desk_str) = true)
    (tM_Desk_str : PySem.W.typeIn K (.ref fm_Desk_str) = some (.type "function"))
    (lM_SimpleDesk_accept : K.lookup fm_SimpleDesk_accept = some ⟨oc_SimpleDesk_accept, od_SimpleDesk_accept, .func (PySem.W.fnOf "accept" "SimpleDesk.accept" (defArgs s_SimpleDesk_accept) (defBody s_SimpleDesk_accept) (defScope s_SimpleDesk_accept) .none kV_SimpleDesk_accept dc_SimpleDesk_accept pm_SimpleDesk_accept an_SimpleDesk_accept cd_SimpleDesk_accept ct_SimpleDesk_accept), sl_SimpleDesk_accept⟩)
    (cM_SimpleDesk_accept : PySem.W.codeIn K cd_SimpleDesk_accept "SimpleDesk.accept" = true)
    (kM_SimpleDesk_accept : PySem.W.keepIn K (.ref fm_SimpleDesk_accept) = true)
    (tM_SimpleDesk_accept : PySem.W.typeIn K (.ref fm_SimpleDesk_accept) = some (.type "function"))
    (lM_LoggedDesk_init : K.lookup fm_LoggedDesk_init = some ⟨oc_LoggedDesk_init, od_LoggedDesk_init, .func (PySem.W.ksFn "__init__" "LoggedDesk.__init__" (defArgs s_LoggedDesk_init) (defBody s_LoggedDesk_init) (defScope s_LoggedDesk_init) .none kV_LoggedDesk_init dc_LoggedDesk_init pm_LoggedDesk_init an_LoggedDesk_init (.ref cq_LoggedDesk_init) ct_LoggedDesk_init cc_LoggedDesk_init), sl_LoggedDesk_init⟩)
    (cM_LoggedDesk_init : PySem.W.codeIn K (.ref cq_LoggedDesk_init) "LoggedDesk.__init__" = true)
    (kM_LoggedDesk_init : PySem.W.keepIn K (.ref fm_LoggedDesk_init) = true)
    (lQ_LoggedDesk_init : K.lookup cq_LoggedDesk_init = some ⟨q1_LoggedDesk_init, q2_LoggedDesk_init, .fields vs_LoggedDesk_init, q3_LoggedDesk_init⟩)
    (vQ_LoggedDesk_init : vs_LoggedDesk_init[2]? = some (.str fi_LoggedDesk_init tf_LoggedDesk_init))
    (fQ_LoggedDesk_init : ((l.prog.main.file : Str) == fi_LoggedDesk_init) = true)
    (lC_LoggedDesk_init : K.lookup cc_LoggedDesk_init = some ⟨c1_LoggedDesk_init, c2_LoggedDesk_init, .cell (some (.ref C_LoggedDesk)), c3_LoggedDesk_init⟩)
    (dC_LoggedDesk : PySem.W.clsIn K C_LoggedDesk = some cd_LoggedDesk)
    (tP_ : (l.prog.main.scope.names.lookup ("super" : Str)).isSome = false)
    (tM_LoggedDesk_init : PySem.W.typeIn K (.ref fm_LoggedDesk_init) = some (.type "function"))
    (lM_LoggedDesk_log : K.lookup fm_LoggedDesk_log = some ⟨oc_LoggedDesk_log, od_LoggedDesk_log, .func (PySem.W.fnOf "log" "LoggedDesk.log" (defArgs s_LoggedDesk_log) (defBody s_LoggedDesk_log) (defScope s_LoggedDesk_log) .none kV_LoggedDesk_log dc_LoggedDesk_log pm_LoggedDesk_log an_LoggedDesk_log cd_LoggedDesk_log ct_LoggedDesk_log), sl_LoggedDesk_log⟩)
    (cM_LoggedDesk_log : PySem.W.codeIn K cd_LoggedDesk_log "LoggedDesk.log" = true)
    (kM_LoggedDesk_log : PySem.W.keepIn K (.ref fm_LoggedDesk_log) = true)
    (ga_BadText : PySem.W.findIn K (.ref C_BadText) "__getattribute__" = some (some (.builtin "BaseException.__getattribute__")))
    (gg_BadText : PySem.W.findIn K (.ref C_BadText) "__getattr__" = some none)
    (eb_BadText : PySem.W.subIn K (.ref C_BadText) (.type "BaseException") = some true)
    (hd_BadText : PySem.W.hasDictIn K C_BadText = true)
    (kc_BadText : PySem.W.keepIn K (.ref C_BadText) = true)
    (ty_BadText : PySem.W.typeIn K (.ref C_BadText) = some (.type "type"))
    (xL_BadText : K.lookup C_BadText = some (excClassObj nm_BadText qn_BadText C_BadText N_BadText bs_BadText bm_BadText true sn_BadText sb_BadText ab_BadText col_BadText dd_BadText m0_BadText m1_BadText m2_BadText m3_BadText m5_BadText "ValueError.__new__"))
    (te_BadText : PySem.W.excTail [.type "ValueError", .type "Exception", .type "BaseException", .type "object"] bm_BadText = true)
    (sa_BadText : PySem.W.findIn K (.ref C_BadText) "__setattr__" = some (some (.builtin "object.__setattr__")))
    (tk_BadText : PySem.W.takerIn K C_BadText "index" = some none)
    (iC_BadText : PySem.W.findIn K (.ref C_BadText) "__init__" = some (some (.ref I_BadText)))
    (tI_BadText : PySem.W.typeIn K (.ref I_BadText) = some (.type "function"))
    (lI_BadText : K.lookup I_BadText = some ⟨o1_BadText, od_BadText, .func (PySem.W.fnOf "__init__" "BadText.__init__" (xA "index" p1_BadText p2_BadText) (xB "index" q1_BadText q2_BadText q3_BadText q4_BadText) (xS "index") .none .none doc_BadText pm_BadText an_BadText cdv_BadText ct_BadText), osl_BadText⟩)
    (cI_BadText : PySem.W.codeIn K cdv_BadText "BadText.__init__" = true)
    (ga_BadWord : PySem.W.findIn K (.ref C_BadWord) "__getattribute__" = some (some (.builtin "BaseException.__getattribute__")))
    (gg_BadWord : PySem.W.findIn K (.ref C_BadWord) "__getattr__" = some none)
    (eb_BadWord : PySem.W.subIn K (.ref C_BadWord) (.type "BaseException") = some true)
    (hd_BadWord : PySem.W.hasDictIn K C_BadWord = true)
    (kc_BadWord : PySem.W.keepIn K (.ref C_BadWord) = true)
    (ty_BadWord : PySem.W.typeIn K (.ref C_BadWord) = some (.type "type"))
    (xL_BadWord : K.lookup C_BadWord = some (excClassObj nm_BadWord qn_BadWord C_BadWord N_BadWord bs_BadWord bm_BadWord true sn_BadWord sb_BadWord ab_BadWord col_BadWord dd_BadWord m0_BadWord m1_BadWord m2_BadWord m3_BadWord m5_BadWord "ValueError.__new__"))
    (te_BadWord : PySem.W.excTail [.type "ValueError", .type "Exception", .type "BaseException", .type "object"] bm_BadWord = true)
    (sa_BadWord : PySem.W.findIn K (.ref C_BadWord) "__setattr__" = some (some (.builtin "object.__setattr__")))
    (tk_BadWord : PySem.W.takerIn K C_BadWord "error" = some none)
    (iC_BadWord : PySem.W.findIn K (.ref C_BadWord) "__init__" = some (some (.ref I_BadWord)))
    (tI_BadWord : PySem.W.typeIn K (.ref I_BadWord) = some (.type "function"))
    (lI_BadWord : K.lookup I_BadWord = some ⟨o1_BadWord, od_BadWord, .func (PySem.W.fnOf "__init__" "BadWord.__init__" (xA "error" p1_BadWord p2_BadWord) (xB "error" q1_BadWord q2_BadWord q3_BadWord q4_BadWord) (xS "error") .none .none doc_BadWord pm_BadWord an_BadWord cdv_BadWord ct_BadWord), osl_BadWord⟩)
    (cI_BadWord : PySem.W.codeIn K cdv_BadWord "BadWord.__init__" = true)
    (ga_NotSimple : PySem.W.findIn K (.ref C_NotSimple) "__getattribute__" = some (some (.builtin "BaseException.__getattribute__")))
    (gg_NotSimple : PySem.W.findIn K (.ref C_NotSimple) "__getattr__" = some none)
    (eb_NotSimple : PySem.W.subIn K (.ref C_NotSimple) (.type "BaseException") = some true)
    (hd_NotSimple : PySem.W.hasDictIn K C_NotSimple = true)
    (ha_NotSimple : PySem.W.findIn K (.ref C_NotSimple) "__class__" = some (some (.builtin "object.__class__")))
    (hm_NotSimple : PySem.W.mroIn K C_NotSimple (.type "object") = some true)
    (hn_ : PySem.W.specialIn K (.builtin "object.__class__") "__get__" = some (some (.builtin "getset_descriptor.__get__")))
    (ht_ : PySem.W.takesIn K (.builtin "object.__class__") = some true)
    (sb_NotSimple_BadLetter : PySem.W.subIn K (.ref C_NotSimple) (.ref C_BadLetter) = some false)
    (sb_NotSimple_NotSimple : PySem.W.subIn K (.ref C_NotSimple) (.ref C_NotSimple) = some true)
    (eb_BadLetter : PySem.W.subIn K (.ref C_BadLetter) (.type "BaseException") = some true)
    (hd_BadLetter : PySem.W.hasDictIn K C_BadLetter = true)
    (ty_BadLetter : PySem.W.typeIn K (.ref C_BadLetter) = some (.type "type"))
    (ga_TooManyEdits : PySem.W.findIn K (.ref C_TooManyEdits) "__getattribute__" = some (some (.builtin "BaseException.__getattribute__")))
    (gg_TooManyEdits : PySem.W.findIn K (.ref C_TooManyEdits) "__getattr__" = some none)
    (eb_TooManyEdits : PySem.W.subIn K (.ref C_TooManyEdits) (.type "BaseException") = some true)
    (hd_TooManyEdits : PySem.W.hasDictIn K C_TooManyEdits = true)
    (ha_TooManyEdits : PySem.W.findIn K (.ref C_TooManyEdits) "__class__" = some (some (.builtin "object.__class__")))
    (hm_TooManyEdits : PySem.W.mroIn K C_TooManyEdits (.type "object") = some true)
    (sb_TooManyEdits_BadLetter : PySem.W.subIn K (.ref C_TooManyEdits) (.ref C_BadLetter) = some false)
    (sb_TooManyEdits_TooManyEdits : PySem.W.subIn K (.ref C_TooManyEdits) (.ref C_TooManyEdits) = some true)
    (ga_Busy : PySem.W.findIn K (.ref C_Busy) "__getattribute__" = some (some (.builtin "BaseException.__getattribute__")))
    (gg_Busy : PySem.W.findIn K (.ref C_Busy) "__getattr__" = some none)
    (eb_Busy : PySem.W.subIn K (.ref C_Busy) (.type "BaseException") = some true)
    (hd_Busy : PySem.W.hasDictIn K C_Busy = true)
    (ha_Busy : PySem.W.findIn K (.ref C_Busy) "__class__" = some (some (.builtin "object.__class__")))
    (hm_Busy : PySem.W.mroIn K C_Busy (.type "object") = some true)
    (sb_Busy_BadLetter : PySem.W.subIn K (.ref C_Busy) (.ref C_BadLetter) = some false)
    (sb_Busy_Busy : PySem.W.subIn K (.ref C_Busy) (.ref C_Busy) = some true)
    (ga_LastLetter : PySem.W.findIn K (.ref C_LastLetter) "__getattribute__" = some (some (.builtin "BaseException.__getattribute__")))
    (gg_LastLetter : PySem.W.findIn K (.ref C_LastLetter) "__getattr__" = some none)
    (eb_LastLetter : PySem.W.subIn K (.ref C_LastLetter) (.type "BaseException") = some true)
    (hd_LastLetter : PySem.W.hasDictIn K C_LastLetter = true)
    (ha_LastLetter : PySem.W.findIn K (.ref C_LastLetter) "__class__" = some (some (.builtin "object.__class__")))
    (hm_LastLetter : PySem.W.mroIn K C_LastLetter (.type "object") = some true)
    (sb_LastLetter_BadLetter : PySem.W.subIn K (.ref C_LastLetter) (.ref C_BadLetter) = some false)
    (sb_LastLetter_LastLetter : PySem.W.subIn K (.ref C_LastLetter) (.ref C_LastLetter) = some true)
    (ga_TooLong : PySem.W.findIn K (.ref C_TooLong) "__getattribute__" = some (some (.builtin "BaseException.__getattribute__")))
    (gg_TooLong : PySem.W.findIn K (.ref C_TooLong) "__getattr__" = some none)
    (eb_TooLong : PySem.W.subIn K (.ref C_TooLong) (.type "BaseException") = some true)
    (hd_TooLong : PySem.W.hasDictIn K C_TooLong = true)
    (ha_TooLong : PySem.W.findIn K (.ref C_TooLong) "__class__" = some (some (.builtin "object.__class__")))
    (hm_TooLong : PySem.W.mroIn K C_TooLong (.type "object") = some true)
    (sb_TooLong_BadLetter : PySem.W.subIn K (.ref C_TooLong) (.ref C_BadLetter) = some false)
    (sb_TooLong_TooLong : PySem.W.subIn K (.ref C_TooLong) (.ref C_TooLong) = some true)
    (ha_BadWord : PySem.W.findIn K (.ref C_BadWord) "__class__" = some (some (.builtin "object.__class__")))
    (hm_BadWord : PySem.W.mroIn K C_BadWord (.type "object") = some true)
    (sb_BadWord_BadLetter : PySem.W.subIn K (.ref C_BadWord) (.ref C_BadLetter) = some false)
    (sb_BadWord_BadWord : PySem.W.subIn K (.ref C_BadWord) (.ref C_BadWord) = some true)
    (ga_BadLetter : PySem.W.findIn K (.ref C_BadLetter) "__getattribute__" = some (some (.builtin "BaseException.__getattribute__")))
    (gg_BadLetter : PySem.W.findIn K (.ref C_BadLetter) "__getattr__" = some none)
    (ha_BadLetter : PySem.W.findIn K (.ref C_BadLetter) "__class__" = some (some (.builtin "object.__class__")))
    (hm_BadLetter : PySem.W.mroIn K C_BadLetter (.type "object") = some true)
    (sb_BadLetter_BadLetter : PySem.W.subIn K (.ref C_BadLetter) (.ref C_BadLetter) = some true)
    (ha_BadText : PySem.W.findIn K (.ref C_BadText) "__class__" = some (some (.builtin "object.__class__")))
    (hm_BadText : PySem.W.mroIn K C_BadText (.type "object") = some true)
    (sb_BadText_BadLetter : PySem.W.subIn K (.ref C_BadText) (.ref C_BadLetter) = some false)
    (sb_BadText_BadText : PySem.W.subIn K (.ref C_BadText) (.ref C_BadText) = some true)
    (ga_NoPlace : PySem.W.findIn K (.ref C_NoPlace) "__getattribute__" = some (some (.builtin "BaseException.__getattribute__")))
    (gg_NoPlace : PySem.W.findIn K (.ref C_NoPlace) "__getattr__" = some none)
    (eb_NoPlace : PySem.W.subIn K (.ref C_NoPlace) (.type "BaseException") = some true)
    (hd_NoPlace : PySem.W.hasDictIn K C_NoPlace = true)
    (ha_NoPlace : PySem.W.findIn K (.ref C_NoPlace) "__class__" = some (some (.builtin "object.__class__")))
    (hm_NoPlace : PySem.W.mroIn K C_NoPlace (.type "object") = some true)
    (sb_NoPlace_BadLetter : PySem.W.subIn K (.ref C_NoPlace) (.ref C_BadLetter) = some false)
    (sb_NoPlace_NoPlace : PySem.W.subIn K (.ref C_NoPlace) (.ref C_NoPlace) = some true)
    (sb_NotSimple_BadEdits : PySem.W.subIn K (.ref C_NotSimple) (.ref C_BadEdits) = some false)
    (eb_BadEdits : PySem.W.subIn K (.ref C_BadEdits) (.type "BaseException") = some true)
    (hd_BadEdits : PySem.W.hasDictIn K C_BadEdits = true)
    (ty_BadEdits : PySem.W.typeIn K (.ref C_BadEdits) = some (.type "type"))
    (sb_TooManyEdits_BadEdits : PySem.W.subIn K (.ref C_TooManyEdits) (.ref C_BadEdits) = some false)
    (sb_Busy_BadEdits : PySem.W.subIn K (.ref C_Busy) (.ref C_BadEdits) = some false)
    (sb_LastLetter_BadEdits : PySem.W.subIn K (.ref C_LastLetter) (.ref C_BadEdits) = some false)
    (sb_TooLong_BadEdits : PySem.W.subIn K (.ref C_TooLong) (.ref C_BadEdits) = some false)
    (sb_BadWord_BadEdits : PySem.W.subIn K (.ref C_BadWord) (.ref C_BadEdits) = some false)
    (sb_BadLetter_BadEdits : PySem.W.subIn K (.ref C_BadLetter) (.ref C_BadEdits) = some false)
    (sb_BadText_BadEdits : PySem.W.subIn K (.ref C_BadText) (.ref C_BadEdits) = some false)
    (sb_NoPlace_BadEdits : PySem.W.subIn K (.ref C_NoPlace) (.ref C_BadEdits) = some false)
    (sb_NotSimple_BadEdit : PySem.W.subIn K (.ref C_NotSimple) (.ref C_BadEdit) = some false)
    (eb_BadEdit : PySem.W.subIn K (.ref C_BadEdit) (.type "BaseException") = some true)
    (hd_BadEdit : PySem.W.hasDictIn K C_BadEdit = true)
    (ty_BadEdit : PySem.W.typeIn K (.ref C_BadEdit) = some (.type "type"))
    (sb_TooManyEdits_BadEdit : PySem.W.subIn K (.ref C_TooManyEdits) (.ref C_BadEdit) = some false)
    (sb_Busy_BadEdit : PySem.W.subIn K (.ref C_Busy) (.ref C_BadEdit) = some false)
    (sb_LastLetter_BadEdit : PySem.W.subIn K (.ref C_LastLetter) (.ref C_BadEdit) = some false)
    (sb_TooLong_BadEdit : PySem.W.subIn K (.ref C_TooLong) (.ref C_BadEdit) = some false)
    (sb_BadWord_BadEdit : PySem.W.subIn K (.ref C_BadWord) (.ref C_BadEdit) = some false)
    (sb_BadLetter_BadEdit : PySem.W.subIn K (.ref C_BadLetter) (.ref C_BadEdit) = some false)
    (sb_BadText_BadEdit : PySem.W.subIn K (.ref C_BadText) (.ref C_BadEdit) = some false)
    (sb_NoPlace_BadEdit : PySem.W.subIn K (.ref C_NoPlace) (.ref C_BadEdit) = some false)
    (sb_NotSimple_Busy : PySem.W.subIn K (.ref C_NotSimple) (.ref C_Busy) = some false)
    (ty_Busy : PySem.W.typeIn K (.ref C_Busy) = some (.type "type"))
    (sb_TooManyEdits_Busy : PySem.W.subIn K (.ref C_TooManyEdits) (.ref C_Busy) = some false)
    (sb_LastLetter_Busy : PySem.W.subIn K (.ref C_LastLetter) (.ref C_Busy) = some false)
    (sb_TooLong_Busy : PySem.W.subIn K (.ref C_TooLong) (.ref C_Busy) = some false)
    (sb_BadWord_Busy : PySem.W.subIn K (.ref C_BadWord) (.ref C_Busy) = some false)
    (sb_BadLetter_Busy : PySem.W.subIn K (.ref C_BadLetter) (.ref C_Busy) = some false)
    (sb_BadText_Busy : PySem.W.subIn K (.ref C_BadText) (.ref C_Busy) = some false)
    (sb_NoPlace_Busy : PySem.W.subIn K (.ref C_NoPlace) (.ref C_Busy) = some false)
    (sb_NotSimple_BadWord : PySem.W.subIn K (.ref C_NotSimple) (.ref C_BadWord) = some false)
    (sb_TooManyEdits_BadWord : PySem.W.subIn K (.ref C_TooManyEdits) (.ref C_BadWord) = some false)
    (sb_Busy_BadWord : PySem.W.subIn K (.ref C_Busy) (.ref C_BadWord) = some false)
    (sb_LastLetter_BadWord : PySem.W.subIn K (.ref C_LastLetter) (.ref C_BadWord) = some false)
    (sb_TooLong_BadWord : PySem.W.subIn K (.ref C_TooLong) (.ref C_BadWord) = some false)
    (sb_BadLetter_BadWord : PySem.W.subIn K (.ref C_BadLetter) (.ref C_BadWord) = some false)
    (sb_BadText_BadWord : PySem.W.subIn K (.ref C_BadText) (.ref C_BadWord) = some false)
    (sb_NoPlace_BadWord : PySem.W.subIn K (.ref C_NoPlace) (.ref C_BadWord) = some false)
    (sb_NotSimple_BadText : PySem.W.subIn K (.ref C_NotSimple) (.ref C_BadText) = some false)
    (sb_TooManyEdits_BadText : PySem.W.subIn K (.ref C_TooManyEdits) (.ref C_BadText) = some false)
    (sb_Busy_BadText : PySem.W.subIn K (.ref C_Busy) (.ref C_BadText) = some false)
    (sb_LastLetter_BadText : PySem.W.subIn K (.ref C_LastLetter) (.ref C_BadText) = some false)
    (sb_TooLong_BadText : PySem.W.subIn K (.ref C_TooLong) (.ref C_BadText) = some false)
    (sb_BadWord_BadText : PySem.W.subIn K (.ref C_BadWord) (.ref C_BadText) = some false)
    (sb_BadLetter_BadText : PySem.W.subIn K (.ref C_BadLetter) (.ref C_BadText) = some false)
    (sb_NoPlace_BadText : PySem.W.subIn K (.ref C_NoPlace) (.ref C_BadText) = some false)
    (sb_NotSimple_NothingToUndo : PySem.W.subIn K (.ref C_NotSimple) (.ref C_NothingToUndo) = some false)
    (eb_NothingToUndo : PySem.W.subIn K (.ref C_NothingToUndo) (.type "BaseException") = some true)
    (hd_NothingToUndo : PySem.W.hasDictIn K C_NothingToUndo = true)
    (ty_NothingToUndo : PySem.W.typeIn K (.ref C_NothingToUndo) = some (.type "type"))
    (sb_TooManyEdits_NothingToUndo : PySem.W.subIn K (.ref C_TooManyEdits) (.ref C_NothingToUndo) = some false)
    (sb_Busy_NothingToUndo : PySem.W.subIn K (.ref C_Busy) (.ref C_NothingToUndo) = some false)
    (sb_LastLetter_NothingToUndo : PySem.W.subIn K (.ref C_LastLetter) (.ref C_NothingToUndo) = some false)
    (sb_TooLong_NothingToUndo : PySem.W.subIn K (.ref C_TooLong) (.ref C_NothingToUndo) = some false)
    (sb_BadWord_NothingToUndo : PySem.W.subIn K (.ref C_BadWord) (.ref C_NothingToUndo) = some false)
    (sb_BadLetter_NothingToUndo : PySem.W.subIn K (.ref C_BadLetter) (.ref C_NothingToUndo) = some false)
    (sb_BadText_NothingToUndo : PySem.W.subIn K (.ref C_BadText) (.ref C_NothingToUndo) = some false)
    (sb_NoPlace_NothingToUndo : PySem.W.subIn K (.ref C_NoPlace) (.ref C_NothingToUndo) = some false)
    (ty_NotSimple : PySem.W.typeIn K (.ref C_NotSimple) = some (.type "type"))
    (sb_TooManyEdits_NotSimple : PySem.W.subIn K (.ref C_TooManyEdits) (.ref C_NotSimple) = some false)
    (sb_Busy_NotSimple : PySem.W.subIn K (.ref C_Busy) (.ref C_NotSimple) = some false)
    (sb_LastLetter_NotSimple : PySem.W.subIn K (.ref C_LastLetter) (.ref C_NotSimple) = some false)
    (sb_TooLong_NotSimple : PySem.W.subIn K (.ref C_TooLong) (.ref C_NotSimple) = some false)
    (sb_BadWord_NotSimple : PySem.W.subIn K (.ref C_BadWord) (.ref C_NotSimple) = some false)
    (sb_BadLetter_NotSimple : PySem.W.subIn K (.ref C_BadLetter) (.ref C_NotSimple) = some false)
    (sb_BadText_NotSimple : PySem.W.subIn K (.ref C_BadText) (.ref C_NotSimple) = some false)
    (sb_NoPlace_NotSimple : PySem.W.subIn K (.ref C_NoPlace) (.ref C_NotSimple) = some false)
    (sb_NotSimple_LastLetter : PySem.W.subIn K (.ref C_NotSimple) (.ref C_LastLetter) = some false)
    (ty_LastLetter : PySem.W.typeIn K (.ref C_LastLetter) = some (.type "type"))
    (sb_TooManyEdits_LastLetter : PySem.W.subIn K (.ref C_TooManyEdits) (.ref C_LastLetter) = some false)
    (sb_Busy_LastLetter : PySem.W.subIn K (.ref C_Busy) (.ref C_LastLetter) = some false)
    (sb_TooLong_LastLetter : PySem.W.subIn K (.ref C_TooLong) (.ref C_LastLetter) = some false)
    (sb_BadWord_LastLetter : PySem.W.subIn K (.ref C_BadWord) (.ref C_LastLetter) = some false)
    (sb_BadLetter_LastLetter : PySem.W.subIn K (.ref C_BadLetter) (.ref C_LastLetter) = some false)
    (sb_BadText_LastLetter : PySem.W.subIn K (.ref C_BadText) (.ref C_LastLetter) = some false)
    (sb_NoPlace_LastLetter : PySem.W.subIn K (.ref C_NoPlace) (.ref C_LastLetter) = some false)
    (sb_NotSimple_TooManyEdits : PySem.W.subIn K (.ref C_NotSimple) (.ref C_TooManyEdits) = some false)
    (ty_TooManyEdits : PySem.W.typeIn K (.ref C_TooManyEdits) = some (.type "type"))
    (sb_Busy_TooManyEdits : PySem.W.subIn K (.ref C_Busy) (.ref C_TooManyEdits) = some false)
    (sb_LastLetter_TooManyEdits : PySem.W.subIn K (.ref C_LastLetter) (.ref C_TooManyEdits) = some false)
    (sb_TooLong_TooManyEdits : PySem.W.subIn K (.ref C_TooLong) (.ref C_TooManyEdits) = some false)
    (sb_BadWord_TooManyEdits : PySem.W.subIn K (.ref C_BadWord) (.ref C_TooManyEdits) = some false)
    (sb_BadLetter_TooManyEdits : PySem.W.subIn K (.ref C_BadLetter) (.ref C_TooManyEdits) = some false)
    (sb_BadText_TooManyEdits : PySem.W.subIn K (.ref C_BadText) (.ref C_TooManyEdits) = some false)
    (sb_NoPlace_TooManyEdits : PySem.W.subIn K (.ref C_NoPlace) (.ref C_TooManyEdits) = some false)
    (sb_NotSimple_TooLong : PySem.W.subIn K (.ref C_NotSimple) (.ref C_TooLong) = some false)
    (ty_TooLong : PySem.W.typeIn K (.ref C_TooLong) = some (.type "type"))
    (sb_TooManyEdits_TooLong : PySem.W.subIn K (.ref C_TooManyEdits) (.ref C_TooLong) = some false)
    (sb_Busy_TooLong : PySem.W.subIn K (.ref C_Busy) (.ref C_TooLong) = some false)
    (sb_LastLetter_TooLong : PySem.W.subIn K (.ref C_LastLetter) (.ref C_TooLong) = some false)
    (sb_BadWord_TooLong : PySem.W.subIn K (.ref C_BadWord) (.ref C_TooLong) = some false)
    (sb_BadLetter_TooLong : PySem.W.subIn K (.ref C_BadLetter) (.ref C_TooLong) = some false)
    (sb_BadText_TooLong : PySem.W.subIn K (.ref C_BadText) (.ref C_TooLong) = some false)
    (sb_NoPlace_TooLong : PySem.W.subIn K (.ref C_NoPlace) (.ref C_TooLong) = some false)
    (sb_NotSimple_Rejected : PySem.W.subIn K (.ref C_NotSimple) (.ref C_Rejected) = some false)
    (eb_Rejected : PySem.W.subIn K (.ref C_Rejected) (.type "BaseException") = some true)
    (hd_Rejected : PySem.W.hasDictIn K C_Rejected = true)
    (ty_Rejected : PySem.W.typeIn K (.ref C_Rejected) = some (.type "type"))
    (sb_TooManyEdits_Rejected : PySem.W.subIn K (.ref C_TooManyEdits) (.ref C_Rejected) = some false)
    (sb_Busy_Rejected : PySem.W.subIn K (.ref C_Busy) (.ref C_Rejected) = some false)
    (sb_LastLetter_Rejected : PySem.W.subIn K (.ref C_LastLetter) (.ref C_Rejected) = some false)
    (sb_TooLong_Rejected : PySem.W.subIn K (.ref C_TooLong) (.ref C_Rejected) = some false)
    (sb_BadWord_Rejected : PySem.W.subIn K (.ref C_BadWord) (.ref C_Rejected) = some false)
    (sb_BadLetter_Rejected : PySem.W.subIn K (.ref C_BadLetter) (.ref C_Rejected) = some false)
    (sb_BadText_Rejected : PySem.W.subIn K (.ref C_BadText) (.ref C_Rejected) = some false)
    (sb_NoPlace_Rejected : PySem.W.subIn K (.ref C_NoPlace) (.ref C_Rejected) = some false)
    (sb_NotSimple_NoVersion : PySem.W.subIn K (.ref C_NotSimple) (.ref C_NoVersion) = some false)
    (eb_NoVersion : PySem.W.subIn K (.ref C_NoVersion) (.type "BaseException") = some true)
    (hd_NoVersion : PySem.W.hasDictIn K C_NoVersion = true)
    (ty_NoVersion : PySem.W.typeIn K (.ref C_NoVersion) = some (.type "type"))
    (sb_TooManyEdits_NoVersion : PySem.W.subIn K (.ref C_TooManyEdits) (.ref C_NoVersion) = some false)
    (sb_Busy_NoVersion : PySem.W.subIn K (.ref C_Busy) (.ref C_NoVersion) = some false)
    (sb_LastLetter_NoVersion : PySem.W.subIn K (.ref C_LastLetter) (.ref C_NoVersion) = some false)
    (sb_TooLong_NoVersion : PySem.W.subIn K (.ref C_TooLong) (.ref C_NoVersion) = some false)
    (sb_BadWord_NoVersion : PySem.W.subIn K (.ref C_BadWord) (.ref C_NoVersion) = some false)
    (sb_BadLetter_NoVersion : PySem.W.subIn K (.ref C_BadLetter) (.ref C_NoVersion) = some false)
    (sb_BadText_NoVersion : PySem.W.subIn K (.ref C_BadText) (.ref C_NoVersion) = some false)
    (sb_NoPlace_NoVersion : PySem.W.subIn K (.ref C_NoPlace) (.ref C_NoVersion) = some false)
    (sb_NotSimple_NoPlace : PySem.W.subIn K (.ref C_NotSimple) (.ref C_NoPlace) = some false)
    (ty_NoPlace : PySem.W.typeIn K (.ref C_NoPlace) = some (.type "type"))
    (sb_TooManyEdits_NoPlace : PySem.W.subIn K (.ref C_TooManyEdits) (.ref C_NoPlace) = some false)
    (sb_Busy_NoPlace : PySem.W.subIn K (.ref C_Busy) (.ref C_NoPlace) = some false)
    (sb_LastLetter_NoPlace : PySem.W.subIn K (.ref C_LastLetter) (.ref C_NoPlace) = some false)
    (sb_TooLong_NoPlace : PySem.W.subIn K (.ref C_TooLong) (.ref C_NoPlace) = some false)
    (sb_BadWord_NoPlace : PySem.W.subIn K (.ref C_BadWord) (.ref C_NoPlace) = some false)
    (sb_BadLetter_NoPlace : PySem.W.subIn K (.ref C_BadLetter) (.ref C_NoPlace) = some false)
    (sb_BadText_NoPlace : PySem.W.subIn K (.ref C_BadText) (.ref C_NoPlace) = some false)
    (sb_NotSimple_NoIndex : PySem.W.subIn K (.ref C_NotSimple) (.ref C_NoIndex) = some false)
    (eb_NoIndex : PySem.W.subIn K (.ref C_NoIndex) (.type "BaseException") = some true)
    (hd_NoIndex : PySem.W.hasDictIn K C_NoIndex = true)
    (ty_NoIndex : PySem.W.typeIn K (.ref C_NoIndex) = some (.type "type"))
    (sb_TooManyEdits_NoIndex : PySem.W.subIn K (.ref C_TooManyEdits) (.ref C_NoIndex) = some false)
    (sb_Busy_NoIndex : PySem.W.subIn K (.ref C_Busy) (.ref C_NoIndex) = some false)
    (sb_LastLetter_NoIndex : PySem.W.subIn K (.ref C_LastLetter) (.ref C_NoIndex) = some false)
    (sb_TooLong_NoIndex : PySem.W.subIn K (.ref C_TooLong) (.ref C_NoIndex) = some false)
    (sb_BadWord_NoIndex : PySem.W.subIn K (.ref C_BadWord) (.ref C_NoIndex) = some false)
    (sb_BadLetter_NoIndex : PySem.W.subIn K (.ref C_BadLetter) (.ref C_NoIndex) = some false)
    (sb_BadText_NoIndex : PySem.W.subIn K (.ref C_BadText) (.ref C_NoIndex) = some false)
    (sb_NoPlace_NoIndex : PySem.W.subIn K (.ref C_NoPlace) (.ref C_NoIndex) = some false)
    (sb_NotSimple_LookupError : PySem.W.subIn K (.ref C_NotSimple) (.type "LookupError") = some false)
    (sx_LookupError : PySem.W.subIn K (.type "LookupError") (.type "BaseException") = some true)
    (sb_TooManyEdits_LookupError : PySem.W.subIn K (.ref C_TooManyEdits) (.type "LookupError") = some false)
    (sb_Busy_LookupError : PySem.W.subIn K (.ref C_Busy) (.type "LookupError") = some false)
    (sb_LastLetter_LookupError : PySem.W.subIn K (.ref C_LastLetter) (.type "LookupError") = some false)
    (sb_TooLong_LookupError : PySem.W.subIn K (.ref C_TooLong) (.type "LookupError") = some false)
    (sb_BadWord_LookupError : PySem.W.subIn K (.ref C_BadWord) (.type "LookupError") = some false)
    (sb_BadLetter_LookupError : PySem.W.subIn K (.ref C_BadLetter) (.type "LookupError") = some false)
    (sb_BadText_LookupError : PySem.W.subIn K (.ref C_BadText) (.type "LookupError") = some false)
    (sb_NoPlace_LookupError : PySem.W.subIn K (.ref C_NoPlace) (.type "LookupError") = some true)
    (sb_NotSimple_ValueError : PySem.W.subIn K (.ref C_NotSimple) (.type "ValueError") = some true)
    (sx_ValueError : PySem.W.subIn K (.type "ValueError") (.type "BaseException") = some true)
    (sb_TooManyEdits_ValueError : PySem.W.subIn K (.ref C_TooManyEdits) (.type "ValueError") = some true)
    (sb_Busy_ValueError : PySem.W.subIn K (.ref C_Busy) (.type "ValueError") = some true)
    (sb_LastLetter_ValueError : PySem.W.subIn K (.ref C_LastLetter) (.type "ValueError") = some true)
    (sb_TooLong_ValueError : PySem.W.subIn K (.ref C_TooLong) (.type "ValueError") = some true)
    (sb_BadWord_ValueError : PySem.W.subIn K (.ref C_BadWord) (.type "ValueError") = some true)
    (sb_BadLetter_ValueError : PySem.W.subIn K (.ref C_BadLetter) (.type "ValueError") = some true)
    (sb_BadText_ValueError : PySem.W.subIn K (.ref C_BadText) (.type "ValueError") = some true)
    (sb_NoPlace_ValueError : PySem.W.subIn K (.ref C_NoPlace) (.type "ValueError") = some false)
    (sb_NotSimple_TailError : PySem.W.subIn K (.ref C_NotSimple) (.ref C_TailError) = some true)
    (eb_TailError : PySem.W.subIn K (.ref C_TailError) (.type "BaseException") = some true)
    (hd_TailError : PySem.W.hasDictIn K C_TailError = true)
    (ty_TailError : PySem.W.typeIn K (.ref C_TailError) = some (.type "type"))
    (sb_TooManyEdits_TailError : PySem.W.subIn K (.ref C_TooManyEdits) (.ref C_TailError) = some true)
    (sb_Busy_TailError : PySem.W.subIn K (.ref C_Busy) (.ref C_TailError) = some true)
    (sb_LastLetter_TailError : PySem.W.subIn K (.ref C_LastLetter) (.ref C_TailError) = some true)
    (sb_TooLong_TailError : PySem.W.subIn K (.ref C_TooLong) (.ref C_TailError) = some true)
    (sb_BadWord_TailError : PySem.W.subIn K (.ref C_BadWord) (.ref C_TailError) = some true)
    (sb_BadLetter_TailError : PySem.W.subIn K (.ref C_BadLetter) (.ref C_TailError) = some true)
    (sb_BadText_TailError : PySem.W.subIn K (.ref C_BadText) (.ref C_TailError) = some true)
    (sb_NoPlace_TailError : PySem.W.subIn K (.ref C_NoPlace) (.ref C_TailError) = some false)
    (nf_BadLetter_value : PySem.W.findIn K (.ref C_BadLetter) "value" = some none)
    (nf_NoPlace_value : PySem.W.findIn K (.ref C_NoPlace) "value" = some none)
    (nf_BadText_index : PySem.W.findIn K (.ref C_BadText) "index" = some none)
    (nf_NotSimple_place : PySem.W.findIn K (.ref C_NotSimple) "place" = some none)
    (nf_TooLong_limit : PySem.W.findIn K (.ref C_TooLong) "limit" = some none)
    (nf_BadWord_error : PySem.W.findIn K (.ref C_BadWord) "error" = some none)
    (ha_LoggedSimpleDesk : PySem.W.findIn K (.ref C_LoggedSimpleDesk) "__class__" = some (some (.builtin "object.__class__")))
    (hm_LoggedSimpleDesk : PySem.W.mroIn K C_LoggedSimpleDesk (.type "object") = some true)
    (kb_LoggedSimpleDesk_LoggedDesk : PySem.W.kitOne K (.ref C_LoggedSimpleDesk) (.ref C_LoggedDesk) = some true)
    (ha_LoggedDesk : PySem.W.findIn K (.ref C_LoggedDesk) "__class__" = some (some (.builtin "object.__class__")))
    (hm_LoggedDesk : PySem.W.mroIn K C_LoggedDesk (.type "object") = some true)
    (kb_LoggedDesk_LoggedDesk : PySem.W.kitOne K (.ref C_LoggedDesk) (.ref C_LoggedDesk) = some true)
    (ha_SimpleDesk : PySem.W.findIn K (.ref C_SimpleDesk) "__class__" = some (some (.builtin "object.__class__")))
    (hm_SimpleDesk : PySem.W.mroIn K C_SimpleDesk (.type "object") = some true)
    (kb_SimpleDesk_LoggedDesk : PySem.W.kitOne K (.ref C_SimpleDesk) (.ref C_LoggedDesk) = some false)
    (ha_Desk : PySem.W.findIn K (.ref C_Desk) "__class__" = some (some (.builtin "object.__class__")))
    (hm_Desk : PySem.W.mroIn K C_Desk (.type "object") = some true)
    (kb_Desk_LoggedDesk : PySem.W.kitOne K (.ref C_Desk) (.ref C_LoggedDesk) = some false)
    (kt_LoggedDesk_dict : PySem.W.kitOne K (.type "dict") (.ref C_LoggedDesk) = some false)
    (kt_LoggedDesk_tuple : PySem.W.kitOne K (.type "tuple") (.ref C_LoggedDesk) = some false)
    (kt_LoggedDesk_list : PySem.W.kitOne K (.type "list") (.ref C_LoggedDesk) = some false)
    (kt_LoggedDesk_str : PySem.W.kitOne K (.type "str") (.ref C_LoggedDesk) = some false)
    (kt_LoggedDesk_int : PySem.W.kitOne K (.type "int") (.ref C_LoggedDesk) = some false)
    (kt_LoggedDesk_bool : PySem.W.kitOne K (.type "bool") (.ref C_LoggedDesk) = some false)
    (kt_LoggedDesk_NoneType : PySem.W.kitOne K (.type "NoneType") (.ref C_LoggedDesk) = some false)
    (kb_LoggedSimpleDesk_SimpleDesk : PySem.W.kitOne K (.ref C_LoggedSimpleDesk) (.ref C_SimpleDesk) = some true)
    (kb_LoggedDesk_SimpleDesk : PySem.W.kitOne K (.ref C_LoggedDesk) (.ref C_SimpleDesk) = some false)
    (kb_SimpleDesk_SimpleDesk : PySem.W.kitOne K (.ref C_SimpleDesk) (.ref C_SimpleDesk) = some true)
    (kb_Desk_SimpleDesk : PySem.W.kitOne K (.ref C_Desk) (.ref C_SimpleDesk) = some false)
    (kt_SimpleDesk_dict : PySem.W.kitOne K (.type "dict") (.ref C_SimpleDesk) = some false)
    (kt_SimpleDesk_tuple : PySem.W.kitOne K (.type "tuple") (.ref C_SimpleDesk) = some false)
    (kt_SimpleDesk_list : PySem.W.kitOne K (.type "list") (.ref C_SimpleDesk) = some false)
    (kt_SimpleDesk_str : PySem.W.kitOne K (.type "str") (.ref C_SimpleDesk) = some false)
    (kt_SimpleDesk_int : PySem.W.kitOne K (.type "int") (.ref C_SimpleDesk) = some false)
    (kt_SimpleDesk_bool : PySem.W.kitOne K (.type "bool") (.ref C_SimpleDesk) = some false)
    (kt_SimpleDesk_NoneType : PySem.W.kitOne K (.type "NoneType") (.ref C_SimpleDesk) = some false)
    (kb_LoggedSimpleDesk_Desk : PySem.W.kitOne K (.ref C_LoggedSimpleDesk) (.ref C_Desk) = some true)
    (kb_LoggedDesk_Desk : PySem.W.kitOne K (.ref C_LoggedDesk) (.ref C_Desk) = some true)
    (kb_SimpleDesk_Desk : PySem.W.kitOne K (.ref C_SimpleDesk) (.ref C_Desk) = some true)
    (kb_Desk_Desk : PySem.W.kitOne K (.ref C_Desk) (.ref C_Desk) = some true)
    (kt_Desk_dict : PySem.W.kitOne K (.type "dict") (.ref C_Desk) = some false)
    (kt_Desk_tuple : PySem.W.kitOne K (.type "tuple") (.ref C_Desk) = some false)
    (kt_Desk_list : PySem.W.kitOne K (.type "list") (.ref C_Desk) = some false)
    (kt_Desk_str : PySem.W.kitOne K (.type "str") (.ref C_Desk) = some false)
    (kt_Desk_int : PySem.W.kitOne K (.type "int") (.ref C_Desk) = some false)
    (kt_Desk_bool : PySem.W.kitOne K (.type "bool") (.ref C_Desk) = some false)
    (kt_Desk_NoneType : PySem.W.kitOne K (.type "NoneType") (.ref C_Desk) = some false)
    (nf_LoggedSimpleDesk_now : PySem.W.findIn K (.ref C_LoggedSimpleDesk) "now" = some none)
    (nf_LoggedDesk_now : PySem.W.findIn K (.ref C_LoggedDesk) "now" = some none)
    (nf_SimpleDesk_now : PySem.W.findIn K (.ref C_SimpleDesk) "now" = some none)
    (nf_Desk_now : PySem.W.findIn K (.ref C_Desk) "now" = some none)
    (nf_LoggedSimpleDesk_states : PySem.W.findIn K (.ref C_LoggedSimpleDesk) "states" = some none)
    (nf_LoggedDesk_states : PySem.W.findIn K (.ref C_LoggedDesk) "states" = some none)
    (nf_SimpleDesk_states : PySem.W.findIn K (.ref C_SimpleDesk) "states" = some none)
    (nf_Desk_states : PySem.W.findIn K (.ref C_Desk) "states" = some none)
    (nf_LoggedSimpleDesk_done : PySem.W.findIn K (.ref C_LoggedSimpleDesk) "done" = some none)
    (nf_LoggedDesk_done : PySem.W.findIn K (.ref C_LoggedDesk) "done" = some none)
    (nf_SimpleDesk_done : PySem.W.findIn K (.ref C_SimpleDesk) "done" = some none)
    (nf_Desk_done : PySem.W.findIn K (.ref C_Desk) "done" = some none)
    (nf_LoggedSimpleDesk_wanted : PySem.W.findIn K (.ref C_LoggedSimpleDesk) "wanted" = some none)
    (nf_LoggedDesk_wanted : PySem.W.findIn K (.ref C_LoggedDesk) "wanted" = some none)
    (nf_SimpleDesk_wanted : PySem.W.findIn K (.ref C_SimpleDesk) "wanted" = some none)
    (nf_Desk_wanted : PySem.W.findIn K (.ref C_Desk) "wanted" = some none)
    (nf_LoggedSimpleDesk_is_busy : PySem.W.findIn K (.ref C_LoggedSimpleDesk) "is_busy" = some none)
    (nf_LoggedDesk_is_busy : PySem.W.findIn K (.ref C_LoggedDesk) "is_busy" = some none)
    (nf_SimpleDesk_is_busy : PySem.W.findIn K (.ref C_SimpleDesk) "is_busy" = some none)
    (nf_Desk_is_busy : PySem.W.findIn K (.ref C_Desk) "is_busy" = some none)
    (kc_NotSimple : PySem.W.keepIn K (.ref C_NotSimple) = true)
    (xL_NotSimple : K.lookup C_NotSimple = some (excClassObj nm_NotSimple qn_NotSimple C_NotSimple N_NotSimple bs_NotSimple bm_NotSimple true sn_NotSimple sb_NotSimple ab_NotSimple col_NotSimple dd_NotSimple m0_NotSimple m1_NotSimple m2_NotSimple m3_NotSimple m5_NotSimple "ValueError.__new__"))
    (te_NotSimple : PySem.W.excTail [.type "ValueError", .type "Exception", .type "BaseException", .type "object"] bm_NotSimple = true)
    (sa_NotSimple : PySem.W.findIn K (.ref C_NotSimple) "__setattr__" = some (some (.builtin "object.__setattr__")))
    (tk_NotSimple : PySem.W.takerIn K C_NotSimple "place" = some none)
    (iC_NotSimple : PySem.W.findIn K (.ref C_NotSimple) "__init__" = some (some (.ref I_NotSimple)))
    (tI_NotSimple : PySem.W.typeIn K (.ref I_NotSimple) = some (.type "function"))
    (lI_NotSimple : K.lookup I_NotSimple = some ⟨o1_NotSimple, od_NotSimple, .func (PySem.W.fnOf "__init__" "NotSimple.__init__" (xA "place" p1_NotSimple p2_NotSimple) (xB "place" q1_NotSimple q2_NotSimple q3_NotSimple q4_NotSimple) (xS "place") .none .none doc_NotSimple pm_NotSimple an_NotSimple cdv_NotSimple ct_NotSimple), osl_NotSimple⟩)
    (cI_NotSimple : PySem.W.codeIn K cdv_NotSimple "NotSimple.__init__" = true)
    (nf_LoggedSimpleDesk_rows : PySem.W.findIn K (.ref C_LoggedSimpleDesk) "rows" = some none)
    (nf_LoggedDesk_rows : PySem.W.findIn K (.ref C_LoggedDesk) "rows" = some none)
    : ∃ fd : FuncData, (∀ (s : Shared) (v : Value), BindsTo s fd ⟨[v], []⟩ [("_law_script", v)]) ∧ ∀ base : Heap, K.In base → base.Ns mainGlobals mg → SmB base → FnG l.prog w K mg base 10 fa fd ["_law_script"] (spLaw K) := by
  have e := hfa.symm.trans (PySem.W.mg_of X G a26)
  cases e
  have F1 := fun_mk (st := s_is_letter) l1 c1 k1
  have F2 := fun_mk (st := s_word_error) l2 c2 k2
  have F3 := fun_mk (st := s_is_word) l3 c3 k3
  have F4 := fun_mk (st := s_tail_order) l4 c4 k4
  have F5 := fun_mk (st := s_is_simple) l5 c5 k5
  have F6 := fun_mk (st := s_words_behind) l6 c6 k6
  have F7 := fun_mk (st := s_parse_word) l7 c7 k7
  have F8 := fun_mk (st := s_check_word) l8 c8 k8
  have F9 := fun_mk (st := sStream) l9 c9 k9
  have F10 := fun_mk (st := sDraw) l10 c10 k10
  have F11 := fun_mk (st := s_l_pick) l11 c11 k11
  have F12 := fun_mk (st := s_l_odd) l12 c12 k12
  have F13 := fun_mk (st := s_l_word) l13 c13 k13
  have F14 := fun_mk (st := s_l_order) l14 c14 k14
  have F15 := fun_mk (st := s_l_is_letter) l15 c15 k15
  have F16 := fun_mk (st := s_l_is_simple) l16 c16 k16
  have F17 := fun_mk (st := s_l_name) l17 c17 k17
  have F18 := fun_mk (st := s_l_field) l18 c18 k18
  have F19 := fun_mk (st := s_l_seen) l19 c19 k19
  have F20 := fun_mk (st := s_l_due_seen) l20 c20 k20
  have F21 := fun_mk (st := s_l_start) l21 c21 k21
  have F22 := fun_mk (st := s_l_spoilt) l22 c22 k22
  have F23 := fun_mk (st := s_l_read) l23 c23 k23
  have F24 := fun_mk (st := s_l_told) l24 c24 k24
  have F25 := fun_mk (st := s_l_expected) l25 c25 k25
  have F26 := fun_mk (st := s_law) l26 c26 k26
  have g1 := PySem.W.mg_of X G a1
  have g2 := PySem.W.mg_of X G a2
  have g3 := PySem.W.mg_of X G a3
  have g4 := PySem.W.mg_of X G a4
  have g5 := PySem.W.mg_of X G a5
  have g6 := PySem.W.mg_of X G a6
  have g7 := PySem.W.mg_of X G a7
  have g8 := PySem.W.mg_of X G a8
  have g9 := PySem.W.mg_of X G a9
  have g10 := PySem.W.mg_of X G a10
  have g11 := PySem.W.mg_of X G a11
  have g12 := PySem.W.mg_of X G a12
  have g13 := PySem.W.mg_of X G a13
  have g14 := PySem.W.mg_of X G a14
  have g15 := PySem.W.mg_of X G a15
  have g16 := PySem.W.mg_of X G a16
  have g17 := PySem.W.mg_of X G a17
  have g18 := PySem.W.mg_of X G a18
  have g19 := PySem.W.mg_of X G a19
  have g20 := PySem.W.mg_of X G a20
  have g21 := PySem.W.mg_of X G a21
  have g22 := PySem.W.mg_of X G a22
  have g23 := PySem.W.mg_of X G a23
  have g24 := PySem.W.mg_of X G a24
  have g25 := PySem.W.mg_of X G a25
  have g26 := PySem.W.mg_of X G a26
  have m_LookupError := PySem.W.mg_none_of X G z1
  have m_ValueError := PySem.W.mg_none_of X G z2
  have m_abs := PySem.W.mg_none_of X G z3
  have m_all := PySem.W.mg_none_of X G z4
  have m_enumerate := PySem.W.mg_none_of X G z5
  have m_int := PySem.W.mg_none_of X G z6
  have m_isinstance := PySem.W.mg_none_of X G z7
  have m_len := PySem.W.mg_none_of X G z8
  have m_list := PySem.W.mg_none_of X G z9
  have m_range := PySem.W.mg_none_of X G z10
  have m_repr := PySem.W.mg_none_of X G z11
  have m_sorted := PySem.W.mg_none_of X G z12
  have m_str := PySem.W.mg_none_of X G z13
  have m_super := PySem.W.mg_none_of X G z14
  have m_tuple := PySem.W.mg_none_of X G z15
  have c_LETTERS : GlS (mg "LETTERS") [97, 98, 99, 100, 101, 102, 103, 104, 105, 106, 107, 108, 109, 110, 111, 112, 113, 114, 115, 116, 117, 118, 119, 120, 121, 122] := ⟨_, _, PySem.W.mg_of X G y1, by decide +kernel⟩
  have c_MAX_WORD : GlI (mg "MAX_WORD") 24 := ⟨_, PySem.W.mg_of X G y2⟩
  have c_WORD : GlS (mg "WORD") [119, 111, 114, 100] := ⟨_, _, PySem.W.mg_of X G y3, by decide +kernel⟩
  have cl_Desk : Cls K C_Desk := ⟨pg_Desk, hd_Desk, po_Desk, sA_Desk⟩
  have cl_SimpleDesk : Cls K C_SimpleDesk := ⟨pg_SimpleDesk, hd_SimpleDesk, po_SimpleDesk, sA_SimpleDesk⟩
  have cl_LoggedDesk : Cls K C_LoggedDesk := ⟨pg_LoggedDesk, hd_LoggedDesk, po_LoggedDesk, sA_LoggedDesk⟩
  have cl_LoggedSimpleDesk : Cls K C_LoggedSimpleDesk := ⟨pg_LoggedSimpleDesk, hd_LoggedSimpleDesk, po_LoggedSimpleDesk, sA_LoggedSimpleDesk⟩
  have FM_Desk_init := fun_mk (st := s_Desk_init) lM_Desk_init cM_Desk_init kM_Desk_init
  have iF_Desk_init : PySem.W.isFn K (.ref fm_Desk_init) = true := by unfold PySem.W.isFn; rw [tM_Desk_init]; rfl
  have FM_Desk_read := fun_mk (st := s_Desk_read) lM_Desk_read cM_Desk_read kM_Desk_read
  have FM_Desk_word := fun_mk (st := s_Desk_word) lM_Desk_word cM_Desk_word kM_Desk_word
  have FM_Desk_order := fun_mk (st := s_Desk_order) lM_Desk_order cM_Desk_order kM_Desk_order
  have FM_Desk_version := fun_mk (st := s_Desk_version) lM_Desk_version cM_Desk_version kM_Desk_version
  have FM_Desk_pattern := fun_mk (st := s_Desk_pattern) lM_Desk_pattern cM_Desk_pattern kM_Desk_pattern
  have FM_Desk_accept := fun_mk (st := s_Desk_accept) lM_Desk_accept cM_Desk_accept kM_Desk_accept
  have iF_Desk_accept : PySem.W.isFn K (.ref fm_Desk_accept) = true := by unfold PySem.W.isFn; rw [tM_Desk_accept]; rfl
  have FM_Desk_edits := fun_mk (st := s_Desk_edits) lM_Desk_edits cM_Desk_edits kM_Desk_edits
  have iF_Desk_edits : PySem.W.isFn K (.ref fm_Desk_edits) = true := by unfold PySem.W.isFn; rw [tM_Desk_edits]; rfl
  have FM_Desk_walk := fun_mk (st := s_Desk_walk) lM_Desk_walk cM_Desk_walk kM_Desk_walk
  have iF_Desk_walk : PySem.W.isFn K (.ref fm_Desk_walk) = true := by unfold PySem.W.isFn; rw [tM_Desk_walk]; rfl
  have FM_Desk_len := fun_mk (st := s_Desk_len) lM_Desk_len cM_Desk_len kM_Desk_len
  have iF_Desk_len : PySem.W.isFn K (.ref fm_Desk_len) = true := by unfold PySem.W.isFn; rw [tM_Desk_len]; rfl
  have FM_Desk_str := fun_mk (st := s_Desk_str) lM_Desk_str cM_Desk_str kM_Desk_str
  have iF_Desk_str : PySem.W.isFn K (.ref fm_Desk_str) = true := by unfold PySem.W.isFn; rw [tM_Desk_str]; rfl
  have FM_SimpleDesk_accept := fun_mk (st := s_SimpleDesk_accept) lM_SimpleDesk_accept cM_SimpleDesk_accept kM_SimpleDesk_accept
  have iF_SimpleDesk_accept : PySem.W.isFn K (.ref fm_SimpleDesk_accept) = true := by unfold PySem.W.isFn; rw [tM_SimpleDesk_accept]; rfl
  have FM_LoggedDesk_init : SFun l.prog K "__init__" "LoggedDesk.__init__" s_LoggedDesk_init fm_LoggedDesk_init _ "LoggedDesk" := ⟨⟨_, _, _, _, _, _, _, _, _, _, _, _, _, _, _, _, _, _, _, _, _, rfl, lM_LoggedDesk_init, cM_LoggedDesk_init, lQ_LoggedDesk_init, vQ_LoggedDesk_init, fQ_LoggedDesk_init, lC_LoggedDesk_init, aC_LoggedDesk, dC_LoggedDesk⟩, tP_, kM_LoggedDesk_init⟩
  have iF_LoggedDesk_init : PySem.W.isFn K (.ref fm_LoggedDesk_init) = true := by unfold PySem.W.isFn; rw [tM_LoggedDesk_init]; rfl
  have FM_LoggedDesk_log := fun_mk (st := s_LoggedDesk_log) lM_LoggedDesk_log cM_LoggedDesk_log kM_LoggedDesk_log
  have xr_BadText : RaisesF K "BadText" "index" := ⟨"ValueError", _, _, _, C_BadText, I_BadText, _, ⟨aC_BadText, (exInit_of xL_BadText te_BadText).1, (exInit_of xL_BadText te_BadText).2, sa_BadText, tk_BadText, hd_BadText, iC_BadText, tI_BadText, kc_BadText, eb_BadText, ty_BadText, by decide, ⟨_, _, _, _, _, _, _, _, _, _, _, _, _, _, lI_BadText, cI_BadText⟩, PySem.F.excBase_ValueError, PySem.F.store_ValueError⟩⟩
  have xr_BadWord : RaisesF K "BadWord" "error" := ⟨"ValueError", _, _, _, C_BadWord, I_BadWord, _, ⟨aC_BadWord, (exInit_of xL_BadWord te_BadWord).1, (exInit_of xL_BadWord te_BadWord).2, sa_BadWord, tk_BadWord, hd_BadWord, iC_BadWord, tI_BadWord, kc_BadWord, eb_BadWord, ty_BadWord, by decide, ⟨_, _, _, _, _, _, _, _, _, _, _, _, _, _, lI_BadWord, cI_BadWord⟩, PySem.F.excBase_ValueError, PySem.F.store_ValueError⟩⟩
  have xs_NotSimple_BadLetter : SubT K "NotSimple" "BadLetter" false := subT_own aC_NotSimple aC_BadLetter sb_NotSimple_BadLetter sb_NotSimple_NotSimple eb_BadLetter hd_BadLetter ty_BadLetter ⟨ga_NotSimple, gg_NotSimple, eb_NotSimple, hd_NotSimple, ha_NotSimple, hn_, ht_, hm_NotSimple⟩
  have xs_TooManyEdits_BadLetter : SubT K "TooManyEdits" "BadLetter" false := subT_own aC_TooManyEdits aC_BadLetter sb_TooManyEdits_BadLetter sb_TooManyEdits_TooManyEdits eb_BadLetter hd_BadLetter ty_BadLetter ⟨ga_TooManyEdits, gg_TooManyEdits, eb_TooManyEdits, hd_TooManyEdits, ha_TooManyEdits, hn_, ht_, hm_TooManyEdits⟩
  have xs_Busy_BadLetter : SubT K "Busy" "BadLetter" false := subT_own aC_Busy aC_BadLetter sb_Busy_BadLetter sb_Busy_Busy eb_BadLetter hd_BadLetter ty_BadLetter ⟨ga_Busy, gg_Busy, eb_Busy, hd_Busy, ha_Busy, hn_, ht_, hm_Busy⟩
  have xs_LastLetter_BadLetter : SubT K "LastLetter" "BadLetter" false := subT_own aC_LastLetter aC_BadLetter sb_LastLetter_BadLetter sb_LastLetter_LastLetter eb_BadLetter hd_BadLetter ty_BadLetter ⟨ga_LastLetter, gg_LastLetter, eb_LastLetter, hd_LastLetter, ha_LastLetter, hn_, ht_, hm_LastLetter⟩
  have xs_TooLong_BadLetter : SubT K "TooLong" "BadLetter" false := subT_own aC_TooLong aC_BadLetter sb_TooLong_BadLetter sb_TooLong_TooLong eb_BadLetter hd_BadLetter ty_BadLetter ⟨ga_TooLong, gg_TooLong, eb_TooLong, hd_TooLong, ha_TooLong, hn_, ht_, hm_TooLong⟩
  have xs_BadWord_BadLetter : SubT K "BadWord" "BadLetter" false := subT_own aC_BadWord aC_BadLetter sb_BadWord_BadLetter sb_BadWord_BadWord eb_BadLetter hd_BadLetter ty_BadLetter ⟨ga_BadWord, gg_BadWord, eb_BadWord, hd_BadWord, ha_BadWord, hn_, ht_, hm_BadWord⟩
  have xs_BadLetter_BadLetter : SubT K "BadLetter" "BadLetter" true := subT_own aC_BadLetter aC_BadLetter sb_BadLetter_BadLetter sb_BadLetter_BadLetter eb_BadLetter hd_BadLetter ty_BadLetter ⟨ga_BadLetter, gg_BadLetter, eb_BadLetter, hd_BadLetter, ha_BadLetter, hn_, ht_, hm_BadLetter⟩
  have xs_BadText_BadLetter : SubT K "BadText" "BadLetter" false := subT_own aC_BadText aC_BadLetter sb_BadText_BadLetter sb_BadText_BadText eb_BadLetter hd_BadLetter ty_BadLetter ⟨ga_BadText, gg_BadText, eb_BadText, hd_BadText, ha_BadText, hn_, ht_, hm_BadText⟩
  have xs_NoPlace_BadLetter : SubT K "NoPlace" "BadLetter" false := subT_own aC_NoPlace aC_BadLetter sb_NoPlace_BadLetter sb_NoPlace_NoPlace eb_BadLetter hd_BadLetter ty_BadLetter ⟨ga_NoPlace, gg_NoPlace, eb_NoPlace, hd_NoPlace, ha_NoPlace, hn_, ht_, hm_NoPlace⟩
  have xs_NotSimple_BadEdits : SubT K "NotSimple" "BadEdits" false := subT_own aC_NotSimple aC_BadEdits sb_NotSimple_BadEdits sb_NotSimple_NotSimple eb_BadEdits hd_BadEdits ty_BadEdits ⟨ga_NotSimple, gg_NotSimple, eb_NotSimple, hd_NotSimple, ha_NotSimple, hn_, ht_, hm_NotSimple⟩
  have xs_TooManyEdits_BadEdits : SubT K "TooManyEdits" "BadEdits" false := subT_own aC_TooManyEdits aC_BadEdits sb_TooManyEdits_BadEdits sb_TooManyEdits_TooManyEdits eb_BadEdits hd_BadEdits ty_BadEdits ⟨ga_TooManyEdits, gg_TooManyEdits, eb_TooManyEdits, hd_TooManyEdits, ha_TooManyEdits, hn_, ht_, hm_TooManyEdits⟩
  have xs_Busy_BadEdits : SubT K "Busy" "BadEdits" false := subT_own aC_Busy aC_BadEdits sb_Busy_BadEdits sb_Busy_Busy eb_BadEdits hd_BadEdits ty_BadEdits ⟨ga_Busy, gg_Busy, eb_Busy, hd_Busy, ha_Busy, hn_, ht_, hm_Busy⟩
  have xs_LastLetter_BadEdits : SubT K "LastLetter" "BadEdits" false := subT_own aC_LastLetter aC_BadEdits sb_LastLetter_BadEdits sb_LastLetter_LastLetter eb_BadEdits hd_BadEdits ty_BadEdits ⟨ga_LastLetter, gg_LastLetter, eb_LastLetter, hd_LastLetter, ha_LastLetter, hn_, ht_, hm_LastLetter⟩
  have xs_TooLong_BadEdits : SubT K "TooLong" "BadEdits" false := subT_own aC_TooLong aC_BadEdits sb_TooLong_BadEdits sb_TooLong_TooLong eb_BadEdits hd_BadEdits ty_BadEdits ⟨ga_TooLong, gg_TooLong, eb_TooLong, hd_TooLong, ha_TooLong, hn_, ht_, hm_TooLong⟩
  have xs_BadWord_BadEdits : SubT K "BadWord" "BadEdits" false := subT_own aC_BadWord aC_BadEdits sb_BadWord_BadEdits sb_BadWord_BadWord eb_BadEdits hd_BadEdits ty_BadEdits ⟨ga_BadWord, gg_BadWord, eb_BadWord, hd_BadWord, ha_BadWord, hn_, ht_, hm_BadWord⟩
  have xs_BadLetter_BadEdits : SubT K "BadLetter" "BadEdits" false := subT_own aC_BadLetter aC_BadEdits sb_BadLetter_BadEdits sb_BadLetter_BadLetter eb_BadEdits hd_BadEdits ty_BadEdits ⟨ga_BadLetter, gg_BadLetter, eb_BadLetter, hd_BadLetter, ha_BadLetter, hn_, ht_, hm_BadLetter⟩
  have xs_BadText_BadEdits : SubT K "BadText" "BadEdits" false := subT_own aC_BadText aC_BadEdits sb_BadText_BadEdits sb_BadText_BadText eb_BadEdits hd_BadEdits ty_BadEdits ⟨ga_BadText, gg_BadText, eb_BadText, hd_BadText, ha_BadText, hn_, ht_, hm_BadText⟩
  have xs_NoPlace_BadEdits : SubT K "NoPlace" "BadEdits" false := subT_own aC_NoPlace aC_BadEdits sb_NoPlace_BadEdits sb_NoPlace_NoPlace eb_BadEdits hd_BadEdits ty_BadEdits ⟨ga_NoPlace, gg_NoPlace, eb_NoPlace, hd_NoPlace, ha_NoPlace, hn_, ht_, hm_NoPlace⟩
  have xs_NotSimple_BadEdit : SubT K "NotSimple" "BadEdit" false := subT_own aC_NotSimple aC_BadEdit sb_NotSimple_BadEdit sb_NotSimple_NotSimple eb_BadEdit hd_BadEdit ty_BadEdit ⟨ga_NotSimple, gg_NotSimple, eb_NotSimple, hd_NotSimple, ha_NotSimple, hn_, ht_, hm_NotSimple⟩
  have xs_TooManyEdits_BadEdit : SubT K "TooManyEdits" "BadEdit" false := subT_own aC_TooManyEdits aC_BadEdit sb_TooManyEdits_BadEdit sb_TooManyEdits_TooManyEdits eb_BadEdit hd_BadEdit ty_BadEdit ⟨ga_TooManyEdits, gg_TooManyEdits, eb_TooManyEdits, hd_TooManyEdits, ha_TooManyEdits, hn_, ht_, hm_TooManyEdits⟩
  have xs_Busy_BadEdit : SubT K "Busy" "BadEdit" false := subT_own aC_Busy aC_BadEdit sb_Busy_BadEdit sb_Busy_Busy eb_BadEdit hd_BadEdit ty_BadEdit ⟨ga_Busy, gg_Busy, eb_Busy, hd_Busy, ha_Busy, hn_, ht_, hm_Busy⟩
  have xs_LastLetter_BadEdit : SubT K "LastLetter" "BadEdit" false := subT_own aC_LastLetter aC_BadEdit sb_LastLetter_BadEdit sb_LastLetter_LastLetter eb_BadEdit hd_BadEdit ty_BadEdit ⟨ga_LastLetter, gg_LastLetter, eb_LastLetter, hd_LastLetter, ha_LastLetter, hn_, ht_, hm_LastLetter⟩
  have xs_TooLong_BadEdit : SubT K "TooLong" "BadEdit" false := subT_own aC_TooLong aC_BadEdit sb_TooLong_BadEdit sb_TooLong_TooLong eb_BadEdit hd_BadEdit ty_BadEdit ⟨ga_TooLong, gg_TooLong, eb_TooLong, hd_TooLong, ha_TooLong, hn_, ht_, hm_TooLong⟩
  have xs_BadWord_BadEdit : SubT K "BadWord" "BadEdit" false := subT_own aC_BadWord aC_BadEdit sb_BadWord_BadEdit sb_BadWord_BadWord eb_BadEdit hd_BadEdit ty_BadEdit ⟨ga_BadWord, gg_BadWord, eb_BadWord, hd_BadWord, ha_BadWord, hn_, ht_, hm_BadWord⟩
  have xs_BadLetter_BadEdit : SubT K "BadLetter" "BadEdit" false := subT_own aC_BadLetter aC_BadEdit sb_BadLetter_BadEdit sb_BadLetter_BadLetter eb_BadEdit hd_BadEdit ty_BadEdit ⟨ga_BadLetter, gg_BadLetter, eb_BadLetter, hd_BadLetter, ha_BadLetter, hn_, ht_, hm_BadLetter⟩
  have xs_BadText_BadEdit : SubT K "BadText" "BadEdit" false := subT_own aC_BadText aC_BadEdit sb_BadText_BadEdit sb_BadText_BadText eb_BadEdit hd_BadEdit ty_BadEdit ⟨ga_BadText, gg_BadText, eb_BadText, hd_BadText, ha_BadText, hn_, ht_, hm_BadText⟩
  have xs_NoPlace_BadEdit : SubT K "NoPlace" "BadEdit" false := subT_own aC_NoPlace aC_BadEdit sb_NoPlace_BadEdit sb_NoPlace_NoPlace eb_BadEdit hd_BadEdit ty_BadEdit ⟨ga_NoPlace, gg_NoPlace, eb_NoPlace, hd_NoPlace, ha_NoPlace, hn_, ht_, hm_NoPlace⟩
  have xs_NotSimple_Busy : SubT K "NotSimple" "Busy" false := subT_own aC_NotSimple aC_Busy sb_NotSimple_Busy sb_NotSimple_NotSimple eb_Busy hd_Busy ty_Busy ⟨ga_NotSimple, gg_NotSimple, eb_NotSimple, hd_NotSimple, ha_NotSimple, hn_, ht_, hm_NotSimple⟩
  have xs_TooManyEdits_Busy : SubT K "TooManyEdits" "Busy" false := subT_own aC_TooManyEdits aC_Busy sb_TooManyEdits_Busy sb_TooManyEdits_TooManyEdits eb_Busy hd_Busy ty_Busy ⟨ga_TooManyEdits, gg_TooManyEdits, eb_TooManyEdits, hd_TooManyEdits, ha_TooManyEdits, hn_, ht_, hm_TooManyEdits⟩
  have xs_Busy_Busy : SubT K "Busy" "Busy" true := subT_own aC_Busy aC_Busy sb_Busy_Busy sb_Busy_Busy eb_Busy hd_Busy ty_Busy ⟨ga_Busy, gg_Busy, eb_Busy, hd_Busy, ha_Busy, hn_, ht_, hm_Busy⟩
  have xs_LastLetter_Busy : SubT K "LastLetter" "Busy" false := subT_own aC_LastLetter aC_Busy sb_LastLetter_Busy sb_LastLetter_LastLetter eb_Busy hd_Busy ty_Busy ⟨ga_LastLetter, gg_LastLetter, eb_LastLetter, hd_LastLetter, ha_LastLetter, hn_, ht_, hm_LastLetter⟩
  have xs_TooLong_Busy : SubT K "TooLong" "Busy" false := subT_own aC_TooLong aC_Busy sb_TooLong_Busy sb_TooLong_TooLong eb_Busy hd_Busy ty_Busy ⟨ga_TooLong, gg_TooLong, eb_TooLong, hd_TooLong, ha_TooLong, hn_, ht_, hm_TooLong⟩
  have xs_BadWord_Busy : SubT K "BadWord" "Busy" false := subT_own aC_BadWord aC_Busy sb_BadWord_Busy sb_BadWord_BadWord eb_Busy hd_Busy ty_Busy ⟨ga_BadWord, gg_BadWord, eb_BadWord, hd_BadWord, ha_BadWord, hn_, ht_, hm_BadWord⟩
  have xs_BadLetter_Busy : SubT K "BadLetter" "Busy" false := subT_own aC_BadLetter aC_Busy sb_BadLetter_Busy sb_BadLetter_BadLetter eb_Busy hd_Busy ty_Busy ⟨ga_BadLetter, gg_BadLetter, eb_BadLetter, hd_BadLetter, ha_BadLetter, hn_, ht_, hm_BadLetter⟩
  have xs_BadText_Busy : SubT K "BadText" "Busy" false := subT_own aC_BadText aC_Busy sb_BadText_Busy sb_BadText_BadText eb_Busy hd_Busy ty_Busy ⟨ga_BadText, gg_BadText, eb_BadText, hd_BadText, ha_BadText, hn_, ht_, hm_BadText⟩
  have xs_NoPlace_Busy : SubT K "NoPlace" "Busy" false := subT_own aC_NoPlace aC_Busy sb_NoPlace_Busy sb_NoPlace_NoPlace eb_Busy hd_Busy ty_Busy ⟨ga_NoPlace, gg_NoPlace, eb_NoPlace, hd_NoPlace, ha_NoPlace, hn_, ht_, hm_NoPlace⟩
  have xs_NotSimple_BadWord : SubT K "NotSimple" "BadWord" false := subT_own aC_NotSimple aC_BadWord sb_NotSimple_BadWord sb_NotSimple_NotSimple eb_BadWord hd_BadWord ty_BadWord ⟨ga_NotSimple, gg_NotSimple, eb_NotSimple, hd_NotSimple, ha_NotSimple, hn_, ht_, hm_NotSimple⟩
  have xs_TooManyEdits_BadWord : SubT K "TooManyEdits" "BadWord" false := subT_own aC_TooManyEdits aC_BadWord sb_TooManyEdits_BadWord sb_TooManyEdits_TooManyEdits eb_BadWord hd_BadWord ty_BadWord ⟨ga_TooManyEdits, gg_TooManyEdits, eb_TooManyEdits, hd_TooManyEdits, ha_TooManyEdits, hn_, ht_, hm_TooManyEdits⟩
  have xs_Busy_BadWord : SubT K "Busy" "BadWord" false := subT_own aC_Busy aC_BadWord sb_Busy_BadWord sb_Busy_Busy eb_BadWord hd_BadWord ty_BadWord ⟨ga_Busy, gg_Busy, eb_Busy, hd_Busy, ha_Busy, hn_, ht_, hm_Busy⟩
  have xs_LastLetter_BadWord : SubT K "LastLetter" "BadWord" false := subT_own aC_LastLetter aC_BadWord sb_LastLetter_BadWord sb_LastLetter_LastLetter eb_BadWord hd_BadWord ty_BadWord ⟨ga_LastLetter, gg_LastLetter, eb_LastLetter, hd_LastLetter, ha_LastLetter, hn_, ht_, hm_LastLetter⟩
  have xs_TooLong_BadWord : SubT K "TooLong" "BadWord" false := subT_own aC_TooLong aC_BadWord sb_TooLong_BadWord sb_TooLong_TooLong eb_BadWord hd_BadWord ty_BadWord ⟨ga_TooLong, gg_TooLong, eb_TooLong, hd_TooLong, ha_TooLong, hn_, ht_, hm_TooLong⟩
  have xs_BadWord_BadWord : SubT K "BadWord" "BadWord" true := subT_own aC_BadWord aC_BadWord sb_BadWord_BadWord sb_BadWord_BadWord eb_BadWord hd_BadWord ty_BadWord ⟨ga_BadWord, gg_BadWord, eb_BadWord, hd_BadWord, ha_BadWord, hn_, ht_, hm_BadWord⟩
  have xs_BadLetter_BadWord : SubT K "BadLetter" "BadWord" false := subT_own aC_BadLetter aC_BadWord sb_BadLetter_BadWord sb_BadLetter_BadLetter eb_BadWord hd_BadWord ty_BadWord ⟨ga_BadLetter, gg_BadLetter, eb_BadLetter, hd_BadLetter, ha_BadLetter, hn_, ht_, hm_BadLetter⟩
  have xs_BadText_BadWord : SubT K "BadText" "BadWord" false := subT_own aC_BadText aC_BadWord sb_BadText_BadWord sb_BadText_BadText eb_BadWord hd_BadWord ty_BadWord ⟨ga_BadText, gg_BadText, eb_BadText, hd_BadText, ha_BadText, hn_, ht_, hm_BadText⟩
  have xs_NoPlace_BadWord : SubT K "NoPlace" "BadWord" false := subT_own aC_NoPlace aC_BadWord sb_NoPlace_BadWord sb_NoPlace_NoPlace eb_BadWord hd_BadWord ty_BadWord ⟨ga_NoPlace, gg_NoPlace, eb_NoPlace, hd_NoPlace, ha_NoPlace, hn_, ht_, hm_NoPlace⟩
  have xs_NotSimple_BadText : SubT K "NotSimple" "BadText" false := subT_own aC_NotSimple aC_BadText sb_NotSimple_BadText sb_NotSimple_NotSimple eb_BadText hd_BadText ty_BadText ⟨ga_NotSimple, gg_NotSimple, eb_NotSimple, hd_NotSimple, ha_NotSimple, hn_, ht_, hm_NotSimple⟩
  have xs_TooManyEdits_BadText : SubT K "TooManyEdits" "BadText" false := subT_own aC_TooManyEdits aC_BadText sb_TooManyEdits_BadText sb_TooManyEdits_TooManyEdits eb_BadText hd_BadText ty_BadText ⟨ga_TooManyEdits, gg_TooManyEdits, eb_TooManyEdits, hd_TooManyEdits, ha_TooManyEdits, hn_, ht_, hm_TooManyEdits⟩
  have xs_Busy_BadText : SubT K "Busy" "BadText" false := subT_own aC_Busy aC_BadText sb_Busy_BadText sb_Busy_Busy eb_BadText hd_BadText ty_BadText ⟨ga_Busy, gg_Busy, eb_Busy, hd_Busy, ha_Busy, hn_, ht_, hm_Busy⟩
  have xs_LastLetter_BadText : SubT K "LastLetter" "BadText" false := subT_own aC_LastLetter aC_BadText sb_LastLetter_BadText sb_LastLetter_LastLetter eb_BadText hd_BadText ty_BadText ⟨ga_LastLetter, gg_LastLetter, eb_LastLetter, hd_LastLetter, ha_LastLetter, hn_, ht_, hm_LastLetter⟩
  have xs_TooLong_BadText : SubT K "TooLong" "BadText" false := subT_own aC_TooLong aC_BadText sb_TooLong_BadText sb_TooLong_TooLong eb_BadText hd_BadText ty_BadText ⟨ga_TooLong, gg_TooLong, eb_TooLong, hd_TooLong, ha_TooLong, hn_, ht_, hm_TooLong⟩
  have xs_BadWord_BadText : SubT K "BadWord" "BadText" false := subT_own aC_BadWord aC_BadText sb_BadWord_BadText sb_BadWord_BadWord eb_BadText hd_BadText ty_BadText ⟨ga_BadWord, gg_BadWord, eb_BadWord, hd_BadWord, ha_BadWord, hn_, ht_, hm_BadWord⟩
  have xs_BadLetter_BadText : SubT K "BadLetter" "BadText" false := subT_own aC_BadLetter aC_BadText sb_BadLetter_BadText sb_BadLetter_BadLetter eb_BadText hd_BadText ty_BadText ⟨ga_BadLetter, gg_BadLetter, eb_BadLetter, hd_BadLetter, ha_BadLetter, hn_, ht_, hm_BadLetter⟩
  have xs_BadText_BadText : SubT K "BadText" "BadText" true := subT_own aC_BadText aC_BadText sb_BadText_BadText sb_BadText_BadText eb_BadText hd_BadText ty_BadText ⟨ga_BadText, gg_BadText, eb_BadText, hd_BadText, ha_BadText, hn_, ht_, hm_BadText⟩
  have xs_NoPlace_BadText : SubT K "NoPlace" "BadText" false := subT_own aC_NoPlace aC_BadText sb_NoPlace_BadText sb_NoPlace_NoPlace eb_BadText hd_BadText ty_BadText ⟨ga_NoPlace, gg_NoPlace, eb_NoPlace, hd_NoPlace, ha_NoPlace, hn_, ht_, hm_NoPlace⟩
  have xs_NotSimple_NothingToUndo : SubT K "NotSimple" "NothingToUndo" false := subT_own aC_NotSimple aC_NothingToUndo sb_NotSimple_NothingToUndo sb_NotSimple_NotSimple eb_NothingToUndo hd_NothingToUndo ty_NothingToUndo ⟨ga_NotSimple, gg_NotSimple, eb_NotSimple, hd_NotSimple, ha_NotSimple, hn_, ht_, hm_NotSimple⟩
  have xs_TooManyEdits_NothingToUndo : SubT K "TooManyEdits" "NothingToUndo" false := subT_own aC_TooManyEdits aC_NothingToUndo sb_TooManyEdits_NothingToUndo sb_TooManyEdits_TooManyEdits eb_NothingToUndo hd_NothingToUndo ty_NothingToUndo ⟨ga_TooManyEdits, gg_TooManyEdits, eb_TooManyEdits, hd_TooManyEdits, ha_TooManyEdits, hn_, ht_, hm_TooManyEdits⟩
  have xs_Busy_NothingToUndo : SubT K "Busy" "NothingToUndo" false := subT_own aC_Busy aC_NothingToUndo sb_Busy_NothingToUndo sb_Busy_Busy eb_NothingToUndo hd_NothingToUndo ty_NothingToUndo ⟨ga_Busy, gg_Busy, eb_Busy, hd_Busy, ha_Busy, hn_, ht_, hm_Busy⟩
  have xs_LastLetter_NothingToUndo : SubT K "LastLetter" "NothingToUndo" false := subT_own aC_LastLetter aC_NothingToUndo sb_LastLetter_NothingToUndo sb_LastLetter_LastLetter eb_NothingToUndo hd_NothingToUndo ty_NothingToUndo ⟨ga_LastLetter, gg_LastLetter, eb_LastLetter, hd_LastLetter, ha_LastLetter, hn_, ht_, hm_LastLetter⟩
  have xs_TooLong_NothingToUndo : SubT K "TooLong" "NothingToUndo" false := subT_own aC_TooLong aC_NothingToUndo sb_TooLong_NothingToUndo sb_TooLong_TooLong eb_NothingToUndo hd_NothingToUndo ty_NothingToUndo ⟨ga_TooLong, gg_TooLong, eb_TooLong, hd_TooLong, ha_TooLong, hn_, ht_, hm_TooLong⟩
  have xs_BadWord_NothingToUndo : SubT K "BadWord" "NothingToUndo" false := subT_own aC_BadWord aC_NothingToUndo sb_BadWord_NothingToUndo sb_BadWord_BadWord eb_NothingToUndo hd_NothingToUndo ty_NothingToUndo ⟨ga_BadWord, gg_BadWord, eb_BadWord, hd_BadWord, ha_BadWord, hn_, ht_, hm_BadWord⟩
  have xs_BadLetter_NothingToUndo : SubT K "BadLetter" "NothingToUndo" false := subT_own aC_BadLetter aC_NothingToUndo sb_BadLetter_NothingToUndo sb_BadLetter_BadLetter eb_NothingToUndo hd_NothingToUndo ty_NothingToUndo ⟨ga_BadLetter, gg_BadLetter, eb_BadLetter, hd_BadLetter, ha_BadLetter, hn_, ht_, hm_BadLetter⟩
  have xs_BadText_NothingToUndo : SubT K "BadText" "NothingToUndo" false := subT_own aC_BadText aC_NothingToUndo sb_BadText_NothingToUndo sb_BadText_BadText eb_NothingToUndo hd_NothingToUndo ty_NothingToUndo ⟨ga_BadText, gg_BadText, eb_BadText, hd_BadText, ha_BadText, hn_, ht_, hm_BadText⟩
  have xs_NoPlace_NothingToUndo : SubT K "NoPlace" "NothingToUndo" false := subT_own aC_NoPlace aC_NothingToUndo sb_NoPlace_NothingToUndo sb_NoPlace_NoPlace eb_NothingToUndo hd_NothingToUndo ty_NothingToUndo ⟨ga_NoPlace, gg_NoPlace, eb_NoPlace, hd_NoPlace, ha_NoPlace, hn_, ht_, hm_NoPlace⟩
  have xs_NotSimple_NotSimple : SubT K "NotSimple" "NotSimple" true := subT_own aC_NotSimple aC_NotSimple sb_NotSimple_NotSimple sb_NotSimple_NotSimple eb_NotSimple hd_NotSimple ty_NotSimple ⟨ga_NotSimple, gg_NotSimple, eb_NotSimple, hd_NotSimple, ha_NotSimple, hn_, ht_, hm_NotSimple⟩
  have xs_TooManyEdits_NotSimple : SubT K "TooManyEdits" "NotSimple" false := subT_own aC_TooManyEdits aC_NotSimple sb_TooManyEdits_NotSimple sb_TooManyEdits_TooManyEdits eb_NotSimple hd_NotSimple ty_NotSimple ⟨ga_TooManyEdits, gg_TooManyEdits, eb_TooManyEdits, hd_TooManyEdits, ha_TooManyEdits, hn_, ht_, hm_TooManyEdits⟩
  have xs_Busy_NotSimple : SubT K "Busy" "NotSimple" false := subT_own aC_Busy aC_NotSimple sb_Busy_NotSimple sb_Busy_Busy eb_NotSimple hd_NotSimple ty_NotSimple ⟨ga_Busy, gg_Busy, eb_Busy, hd_Busy, ha_Busy, hn_, ht_, hm_Busy⟩
  have xs_LastLetter_NotSimple : SubT K "LastLetter" "NotSimple" false := subT_own aC_LastLetter aC_NotSimple sb_LastLetter_NotSimple sb_LastLetter_LastLetter eb_NotSimple hd_NotSimple ty_NotSimple ⟨ga_LastLetter, gg_LastLetter, eb_LastLetter, hd_LastLetter, ha_LastLetter, hn_, ht_, hm_LastLetter⟩
  have xs_TooLong_NotSimple : SubT K "TooLong" "NotSimple" false := subT_own aC_TooLong aC_NotSimple sb_TooLong_NotSimple sb_TooLong_TooLong eb_NotSimple hd_NotSimple ty_NotSimple ⟨ga_TooLong, gg_TooLong, eb_TooLong, hd_TooLong, ha_TooLong, hn_, ht_, hm_TooLong⟩
  have xs_BadWord_NotSimple : SubT K "BadWord" "NotSimple" false := subT_own aC_BadWord aC_NotSimple sb_BadWord_NotSimple sb_BadWord_BadWord eb_NotSimple hd_NotSimple ty_NotSimple ⟨ga_BadWord, gg_BadWord, eb_BadWord, hd_BadWord, ha_BadWord, hn_, ht_, hm_BadWord⟩
  have xs_BadLetter_NotSimple : SubT K "BadLetter" "NotSimple" false := subT_own aC_BadLetter aC_NotSimple sb_BadLetter_NotSimple sb_BadLetter_BadLetter eb_NotSimple hd_NotSimple ty_NotSimple ⟨ga_BadLetter, gg_BadLetter, eb_BadLetter, hd_BadLetter, ha_BadLetter, hn_, ht_, hm_BadLetter⟩
  have xs_BadText_NotSimple : SubT K "BadText" "NotSimple" false := subT_own aC_BadText aC_NotSimple sb_BadText_NotSimple sb_BadText_BadText eb_NotSimple hd_NotSimple ty_NotSimple ⟨ga_BadText, gg_BadText, eb_BadText, hd_BadText, ha_BadText, hn_, ht_, hm_BadText⟩
  have xs_NoPlace_NotSimple : SubT K "NoPlace" "NotSimple" false := subT_own aC_NoPlace aC_NotSimple sb_NoPlace_NotSimple sb_NoPlace_NoPlace eb_NotSimple hd_NotSimple ty_NotSimple ⟨ga_NoPlace, gg_NoPlace, eb_NoPlace, hd_NoPlace, ha_NoPlace, hn_, ht_, hm_NoPlace⟩
  have xs_NotSimple_LastLetter : SubT K "NotSimple" "LastLetter" false := subT_own aC_NotSimple aC_LastLetter sb_NotSimple_LastLetter sb_NotSimple_NotSimple eb_LastLetter hd_LastLetter ty_LastLetter ⟨ga_NotSimple, gg_NotSimple, eb_NotSimple, hd_NotSimple, ha_NotSimple, hn_, ht_, hm_NotSimple⟩
  have xs_TooManyEdits_LastLetter : SubT K "TooManyEdits" "LastLetter" false := subT_own aC_TooManyEdits aC_LastLetter sb_TooManyEdits_LastLetter sb_TooManyEdits_TooManyEdits eb_LastLetter hd_LastLetter ty_LastLetter ⟨ga_TooManyEdits, gg_TooManyEdits, eb_TooManyEdits, hd_TooManyEdits, ha_TooManyEdits, hn_, ht_, hm_TooManyEdits⟩
  have xs_Busy_LastLetter : SubT K "Busy" "LastLetter" false := subT_own aC_Busy aC_LastLetter sb_Busy_LastLetter sb_Busy_Busy eb_LastLetter hd_LastLetter ty_LastLetter ⟨ga_Busy, gg_Busy, eb_Busy, hd_Busy, ha_Busy, hn_, ht_, hm_Busy⟩
  have xs_LastLetter_LastLetter : SubT K "LastLetter" "LastLetter" true := subT_own aC_LastLetter aC_LastLetter sb_LastLetter_LastLetter sb_LastLetter_LastLetter eb_LastLetter hd_LastLetter ty_LastLetter ⟨ga_LastLetter, gg_LastLetter, eb_LastLetter, hd_LastLetter, ha_LastLetter, hn_, ht_, hm_LastLetter⟩
  have xs_TooLong_LastLetter : SubT K "TooLong" "LastLetter" false := subT_own aC_TooLong aC_LastLetter sb_TooLong_LastLetter sb_TooLong_TooLong eb_LastLetter hd_LastLetter ty_LastLetter ⟨ga_TooLong, gg_TooLong, eb_TooLong, hd_TooLong, ha_TooLong, hn_, ht_, hm_TooLong⟩
  have xs_BadWord_LastLetter : SubT K "BadWord" "LastLetter" false := subT_own aC_BadWord aC_LastLetter sb_BadWord_LastLetter sb_BadWord_BadWord eb_LastLetter hd_LastLetter ty_LastLetter ⟨ga_BadWord, gg_BadWord, eb_BadWord, hd_BadWord, ha_BadWord, hn_, ht_, hm_BadWord⟩
  have xs_BadLetter_LastLetter : SubT K "BadLetter" "LastLetter" false := subT_own aC_BadLetter aC_LastLetter sb_BadLetter_LastLetter sb_BadLetter_BadLetter eb_LastLetter hd_LastLetter ty_LastLetter ⟨ga_BadLetter, gg_BadLetter, eb_BadLetter, hd_BadLetter, ha_BadLetter, hn_, ht_, hm_BadLetter⟩
  have xs_BadText_LastLetter : SubT K "BadText" "LastLetter" false := subT_own aC_BadText aC_LastLetter sb_BadText_LastLetter sb_BadText_BadText eb_LastLetter hd_LastLetter ty_LastLetter ⟨ga_BadText, gg_BadText, eb_BadText, hd_BadText, ha_BadText, hn_, ht_, hm_BadText⟩
  have xs_NoPlace_LastLetter : SubT K "NoPlace" "LastLetter" false := subT_own aC_NoPlace aC_LastLetter sb_NoPlace_LastLetter sb_NoPlace_NoPlace eb_LastLetter hd_LastLetter ty_LastLetter ⟨ga_NoPlace, gg_NoPlace, eb_NoPlace, hd_NoPlace, ha_NoPlace, hn_, ht_, hm_NoPlace⟩
  have xs_NotSimple_TooManyEdits : SubT K "NotSimple" "TooManyEdits" false := subT_own aC_NotSimple aC_TooManyEdits sb_NotSimple_TooManyEdits sb_NotSimple_NotSimple eb_TooManyEdits hd_TooManyEdits ty_TooManyEdits ⟨ga_NotSimple, gg_NotSimple, eb_NotSimple, hd_NotSimple, ha_NotSimple, hn_, ht_, hm_NotSimple⟩
  have xs_TooManyEdits_TooManyEdits : SubT K "TooManyEdits" "TooManyEdits" true := subT_own aC_TooManyEdits aC_TooManyEdits sb_TooManyEdits_TooManyEdits sb_TooManyEdits_TooManyEdits eb_TooManyEdits hd_TooManyEdits ty_TooManyEdits ⟨ga_TooManyEdits, gg_TooManyEdits, eb_TooManyEdits, hd_TooManyEdits, ha_TooManyEdits, hn_, ht_, hm_TooManyEdits⟩
  have xs_Busy_TooManyEdits : SubT K "Busy" "TooManyEdits" false := subT_own aC_Busy aC_TooManyEdits sb_Busy_TooManyEdits sb_Busy_Busy eb_TooManyEdits hd_TooManyEdits ty_TooManyEdits ⟨ga_Busy, gg_Busy, eb_Busy, hd_Busy, ha_Busy, hn_, ht_, hm_Busy⟩
  have xs_LastLetter_TooManyEdits : SubT K "LastLetter" "TooManyEdits" false := subT_own aC_LastLetter aC_TooManyEdits sb_LastLetter_TooManyEdits sb_LastLetter_LastLetter eb_TooManyEdits hd_TooManyEdits ty_TooManyEdits ⟨ga_LastLetter, gg_LastLetter, eb_LastLetter, hd_LastLetter, ha_LastLetter, hn_, ht_, hm_LastLetter⟩
  have xs_TooLong_TooManyEdits : SubT K "TooLong" "TooManyEdits" false := subT_own aC_TooLong aC_TooManyEdits sb_TooLong_TooManyEdits sb_TooLong_TooLong eb_TooManyEdits hd_TooManyEdits ty_TooManyEdits ⟨ga_TooLong, gg_TooLong, eb_TooLong, hd_TooLong, ha_TooLong, hn_, ht_, hm_TooLong⟩
  have xs_BadWord_TooManyEdits : SubT K "BadWord" "TooManyEdits" false := subT_own aC_BadWord aC_TooManyEdits sb_BadWord_TooManyEdits sb_BadWord_BadWord eb_TooManyEdits hd_TooManyEdits ty_TooManyEdits ⟨ga_BadWord, gg_BadWord, eb_BadWord, hd_BadWord, ha_BadWord, hn_, ht_, hm_BadWord⟩
  have xs_BadLetter_TooManyEdits : SubT K "BadLetter" "TooManyEdits" false := subT_own aC_BadLetter aC_TooManyEdits sb_BadLetter_TooManyEdits sb_BadLetter_BadLetter eb_TooManyEdits hd_TooManyEdits ty_TooManyEdits ⟨ga_BadLetter, gg_BadLetter, eb_BadLetter, hd_BadLetter, ha_BadLetter, hn_, ht_, hm_BadLetter⟩
  have xs_BadText_TooManyEdits : SubT K "BadText" "TooManyEdits" false := subT_own aC_BadText aC_TooManyEdits sb_BadText_TooManyEdits sb_BadText_BadText eb_TooManyEdits hd_TooManyEdits ty_TooManyEdits ⟨ga_BadText, gg_BadText, eb_BadText, hd_BadText, ha_BadText, hn_, ht_, hm_BadText⟩
  have xs_NoPlace_TooManyEdits : SubT K "NoPlace" "TooManyEdits" false := subT_own aC_NoPlace aC_TooManyEdits sb_NoPlace_TooManyEdits sb_NoPlace_NoPlace eb_TooManyEdits hd_TooManyEdits ty_TooManyEdits ⟨ga_NoPlace, gg_NoPlace, eb_NoPlace, hd_NoPlace, ha_NoPlace, hn_, ht_, hm_NoPlace⟩
  have xs_NotSimple_TooLong : SubT K "NotSimple" "TooLong" false := subT_own aC_NotSimple aC_TooLong sb_NotSimple_TooLong sb_NotSimple_NotSimple eb_TooLong hd_TooLong ty_TooLong ⟨ga_NotSimple, gg_NotSimple, eb_NotSimple, hd_NotSimple, ha_NotSimple, hn_, ht_, hm_NotSimple⟩
  have xs_TooManyEdits_TooLong : SubT K "TooManyEdits" "TooLong" false := subT_own aC_TooManyEdits aC_TooLong sb_TooManyEdits_TooLong sb_TooManyEdits_TooManyEdits eb_TooLong hd_TooLong ty_TooLong ⟨ga_TooManyEdits, gg_TooManyEdits, eb_TooManyEdits, hd_TooManyEdits, ha_TooManyEdits, hn_, ht_, hm_TooManyEdits⟩
  have xs_Busy_TooLong : SubT K "Busy" "TooLong" false := subT_own aC_Busy aC_TooLong sb_Busy_TooLong sb_Busy_Busy eb_TooLong hd_TooLong ty_TooLong ⟨ga_Busy, gg_Busy, eb_Busy, hd_Busy, ha_Busy, hn_, ht_, hm_Busy⟩
  have xs_LastLetter_TooLong : SubT K "LastLetter" "TooLong" false := subT_own aC_LastLetter aC_TooLong sb_LastLetter_TooLong sb_LastLetter_LastLetter eb_TooLong hd_TooLong ty_TooLong ⟨ga_LastLetter, gg_LastLetter, eb_LastLetter, hd_LastLetter, ha_LastLetter, hn_, ht_, hm_LastLetter⟩
  have xs_TooLong_TooLong : SubT K "TooLong" "TooLong" true := subT_own aC_TooLong aC_TooLong sb_TooLong_TooLong sb_TooLong_TooLong eb_TooLong hd_TooLong ty_TooLong ⟨ga_TooLong, gg_TooLong, eb_TooLong, hd_TooLong, ha_TooLong, hn_, ht_, hm_TooLong⟩
  have xs_BadWord_TooLong : SubT K "BadWord" "TooLong" false := subT_own aC_BadWord aC_TooLong sb_BadWord_TooLong sb_BadWord_BadWord eb_TooLong hd_TooLong ty_TooLong ⟨ga_BadWord, gg_BadWord, eb_BadWord, hd_BadWord, ha_BadWord, hn_, ht_, hm_BadWord⟩
  have xs_BadLetter_TooLong : SubT K "BadLetter" "TooLong" false := subT_own aC_BadLetter aC_TooLong sb_BadLetter_TooLong sb_BadLetter_BadLetter eb_TooLong hd_TooLong ty_TooLong ⟨ga_BadLetter, gg_BadLetter, eb_BadLetter, hd_BadLetter, ha_BadLetter, hn_, ht_, hm_BadLetter⟩
  have xs_BadText_TooLong : SubT K "BadText" "TooLong" false := subT_own aC_BadText aC_TooLong sb_BadText_TooLong sb_BadText_BadText eb_TooLong hd_TooLong ty_TooLong ⟨ga_BadText, gg_BadText, eb_BadText, hd_BadText, ha_BadText, hn_, ht_, hm_BadText⟩
  have xs_NoPlace_TooLong : SubT K "NoPlace" "TooLong" false := subT_own aC_NoPlace aC_TooLong sb_NoPlace_TooLong sb_NoPlace_NoPlace eb_TooLong hd_TooLong ty_TooLong ⟨ga_NoPlace, gg_NoPlace, eb_NoPlace, hd_NoPlace, ha_NoPlace, hn_, ht_, hm_NoPlace⟩
  have xs_NotSimple_Rejected : SubT K "NotSimple" "Rejected" false := subT_own aC_NotSimple aC_Rejected sb_NotSimple_Rejected sb_NotSimple_NotSimple eb_Rejected hd_Rejected ty_Rejected ⟨ga_NotSimple, gg_NotSimple, eb_NotSimple, hd_NotSimple, ha_NotSimple, hn_, ht_, hm_NotSimple⟩
  have xs_TooManyEdits_Rejected : SubT K "TooManyEdits" "Rejected" false := subT_own aC_TooManyEdits aC_Rejected sb_TooManyEdits_Rejected sb_TooManyEdits_TooManyEdits eb_Rejected hd_Rejected ty_Rejected ⟨ga_TooManyEdits, gg_TooManyEdits, eb_TooManyEdits, hd_TooManyEdits, ha_TooManyEdits, hn_, ht_, hm_TooManyEdits⟩
  have xs_Busy_Rejected : SubT K "Busy" "Rejected" false := subT_own aC_Busy aC_Rejected sb_Busy_Rejected sb_Busy_Busy eb_Rejected hd_Rejected ty_Rejected ⟨ga_Busy, gg_Busy, eb_Busy, hd_Busy, ha_Busy, hn_, ht_, hm_Busy⟩
  have xs_LastLetter_Rejected : SubT K "LastLetter" "Rejected" false := subT_own aC_LastLetter aC_Rejected sb_LastLetter_Rejected sb_LastLetter_LastLetter eb_Rejected hd_Rejected ty_Rejected ⟨ga_LastLetter, gg_LastLetter, eb_LastLetter, hd_LastLetter, ha_LastLetter, hn_, ht_, hm_LastLetter⟩
  have xs_TooLong_Rejected : SubT K "TooLong" "Rejected" false := subT_own aC_TooLong aC_Rejected sb_TooLong_Rejected sb_TooLong_TooLong eb_Rejected hd_Rejected ty_Rejected ⟨ga_TooLong, gg_TooLong, eb_TooLong, hd_TooLong, ha_TooLong, hn_, ht_, hm_TooLong⟩
  have xs_BadWord_Rejected : SubT K "BadWord" "Rejected" false := subT_own aC_BadWord aC_Rejected sb_BadWord_Rejected sb_BadWord_BadWord eb_Rejected hd_Rejected ty_Rejected ⟨ga_BadWord, gg_BadWord, eb_BadWord, hd_BadWord, ha_BadWord, hn_, ht_, hm_BadWord⟩
  have xs_BadLetter_Rejected : SubT K "BadLetter" "Rejected" false := subT_own aC_BadLetter aC_Rejected sb_BadLetter_Rejected sb_BadLetter_BadLetter eb_Rejected hd_Rejected ty_Rejected ⟨ga_BadLetter, gg_BadLetter, eb_BadLetter, hd_BadLetter, ha_BadLetter, hn_, ht_, hm_BadLetter⟩
  have xs_BadText_Rejected : SubT K "BadText" "Rejected" false := subT_own aC_BadText aC_Rejected sb_BadText_Rejected sb_BadText_BadText eb_Rejected hd_Rejected ty_Rejected ⟨ga_BadText, gg_BadText, eb_BadText, hd_BadText, ha_BadText, hn_, ht_, hm_BadText⟩
  have xs_NoPlace_Rejected : SubT K "NoPlace" "Rejected" false := subT_own aC_NoPlace aC_Rejected sb_NoPlace_Rejected sb_NoPlace_NoPlace eb_Rejected hd_Rejected ty_Rejected ⟨ga_NoPlace, gg_NoPlace, eb_NoPlace, hd_NoPlace, ha_NoPlace, hn_, ht_, hm_NoPlace⟩
  have xs_NotSimple_NoVersion : SubT K "NotSimple" "NoVersion" false := subT_own aC_NotSimple aC_NoVersion sb_NotSimple_NoVersion sb_NotSimple_NotSimple eb_NoVersion hd_NoVersion ty_NoVersion ⟨ga_NotSimple, gg_NotSimple, eb_NotSimple, hd_NotSimple, ha_NotSimple, hn_, ht_, hm_NotSimple⟩
  have xs_TooManyEdits_NoVersion : SubT K "TooManyEdits" "NoVersion" false := subT_own aC_TooManyEdits aC_NoVersion sb_TooManyEdits_NoVersion sb_TooManyEdits_TooManyEdits eb_NoVersion hd_NoVersion ty_NoVersion ⟨ga_TooManyEdits, gg_TooManyEdits, eb_TooManyEdits, hd_TooManyEdits, ha_TooManyEdits, hn_, ht_, hm_TooManyEdits⟩
  have xs_Busy_NoVersion : SubT K "Busy" "NoVersion" false := subT_own aC_Busy aC_NoVersion sb_Busy_NoVersion sb_Busy_Busy eb_NoVersion hd_NoVersion ty_NoVersion ⟨ga_Busy, gg_Busy, eb_Busy, hd_Busy, ha_Busy, hn_, ht_, hm_Busy⟩
  have xs_LastLetter_NoVersion : SubT K "LastLetter" "NoVersion" false := subT_own aC_LastLetter aC_NoVersion sb_LastLetter_NoVersion sb_LastLetter_LastLetter eb_NoVersion hd_NoVersion ty_NoVersion ⟨ga_LastLetter, gg_LastLetter, eb_LastLetter, hd_LastLetter, ha_LastLetter, hn_, ht_, hm_LastLetter⟩
  have xs_TooLong_NoVersion : SubT K "TooLong" "NoVersion" false := subT_own aC_TooLong aC_NoVersion sb_TooLong_NoVersion sb_TooLong_TooLong eb_NoVersion hd_NoVersion ty_NoVersion ⟨ga_TooLong, gg_TooLong, eb_TooLong, hd_TooLong, ha_TooLong, hn_, ht_, hm_TooLong⟩
  have xs_BadWord_NoVersion : SubT K "BadWord" "NoVersion" false := subT_own aC_BadWord aC_NoVersion sb_BadWord_NoVersion sb_BadWord_BadWord eb_NoVersion hd_NoVersion ty_NoVersion ⟨ga_BadWord, gg_BadWord, eb_BadWord, hd_BadWord, ha_BadWord, hn_, ht_, hm_BadWord⟩
  have xs_BadLetter_NoVersion : SubT K "BadLetter" "NoVersion" false := subT_own aC_BadLetter aC_NoVersion sb_BadLetter_NoVersion sb_BadLetter_BadLetter eb_NoVersion hd_NoVersion ty_NoVersion ⟨ga_BadLetter, gg_BadLetter, eb_BadLetter, hd_BadLetter, ha_BadLetter, hn_, ht_, hm_BadLetter⟩
  have xs_BadText_NoVersion : SubT K "BadText" "NoVersion" false := subT_own aC_BadText aC_NoVersion sb_BadText_NoVersion sb_BadText_BadText eb_NoVersion hd_NoVersion ty_NoVersion ⟨ga_BadText, gg_BadText, eb_BadText, hd_BadText, ha_BadText, hn_, ht_, hm_BadText⟩
  have xs_NoPlace_NoVersion : SubT K "NoPlace" "NoVersion" false := subT_own aC_NoPlace aC_NoVersion sb_NoPlace_NoVersion sb_NoPlace_NoPlace eb_NoVersion hd_NoVersion ty_NoVersion ⟨ga_NoPlace, gg_NoPlace, eb_NoPlace, hd_NoPlace, ha_NoPlace, hn_, ht_, hm_NoPlace⟩
  have xs_NotSimple_NoPlace : SubT K "NotSimple" "NoPlace" false := subT_own aC_NotSimple aC_NoPlace sb_NotSimple_NoPlace sb_NotSimple_NotSimple eb_NoPlace hd_NoPlace ty_NoPlace ⟨ga_NotSimple, gg_NotSimple, eb_NotSimple, hd_NotSimple, ha_NotSimple, hn_, ht_, hm_NotSimple⟩
  have xs_TooManyEdits_NoPlace : SubT K "TooManyEdits" "NoPlace" false := subT_own aC_TooManyEdits aC_NoPlace sb_TooManyEdits_NoPlace sb_TooManyEdits_TooManyEdits eb_NoPlace hd_NoPlace ty_NoPlace ⟨ga_TooManyEdits, gg_TooManyEdits, eb_TooManyEdits, hd_TooManyEdits, ha_TooManyEdits, hn_, ht_, hm_TooManyEdits⟩
  have xs_Busy_NoPlace : SubT K "Busy" "NoPlace" false := subT_own aC_Busy aC_NoPlace sb_Busy_NoPlace sb_Busy_Busy eb_NoPlace hd_NoPlace ty_NoPlace ⟨ga_Busy, gg_Busy, eb_Busy, hd_Busy, ha_Busy, hn_, ht_, hm_Busy⟩
  have xs_LastLetter_NoPlace : SubT K "LastLetter" "NoPlace" false := subT_own aC_LastLetter aC_NoPlace sb_LastLetter_NoPlace sb_LastLetter_LastLetter eb_NoPlace hd_NoPlace ty_NoPlace ⟨ga_LastLetter, gg_LastLetter, eb_LastLetter, hd_LastLetter, ha_LastLetter, hn_, ht_, hm_LastLetter⟩
  have xs_TooLong_NoPlace : SubT K "TooLong" "NoPlace" false := subT_own aC_TooLong aC_NoPlace sb_TooLong_NoPlace sb_TooLong_TooLong eb_NoPlace hd_NoPlace ty_NoPlace ⟨ga_TooLong, gg_TooLong, eb_TooLong, hd_TooLong, ha_TooLong, hn_, ht_, hm_TooLong⟩
  have xs_BadWord_NoPlace : SubT K "BadWord" "NoPlace" false := subT_own aC_BadWord aC_NoPlace sb_BadWord_NoPlace sb_BadWord_BadWord eb_NoPlace hd_NoPlace ty_NoPlace ⟨ga_BadWord, gg_BadWord, eb_BadWord, hd_BadWord, ha_BadWord, hn_, ht_, hm_BadWord⟩
  have xs_BadLetter_NoPlace : SubT K "BadLetter" "NoPlace" false := subT_own aC_BadLetter aC_NoPlace sb_BadLetter_NoPlace sb_BadLetter_BadLetter eb_NoPlace hd_NoPlace ty_NoPlace ⟨ga_BadLetter, gg_BadLetter, eb_BadLetter, hd_BadLetter, ha_BadLetter, hn_, ht_, hm_BadLetter⟩
  have xs_BadText_NoPlace : SubT K "BadText" "NoPlace" false := subT_own aC_BadText aC_NoPlace sb_BadText_NoPlace sb_BadText_BadText eb_NoPlace hd_NoPlace ty_NoPlace ⟨ga_BadText, gg_BadText, eb_BadText, hd_BadText, ha_BadText, hn_, ht_, hm_BadText⟩
  have xs_NoPlace_NoPlace : SubT K "NoPlace" "NoPlace" true := subT_own aC_NoPlace aC_NoPlace sb_NoPlace_NoPlace sb_NoPlace_NoPlace eb_NoPlace hd_NoPlace ty_NoPlace ⟨ga_NoPlace, gg_NoPlace, eb_NoPlace, hd_NoPlace, ha_NoPlace, hn_, ht_, hm_NoPlace⟩
  have xs_NotSimple_NoIndex : SubT K "NotSimple" "NoIndex" false := subT_own aC_NotSimple aC_NoIndex sb_NotSimple_NoIndex sb_NotSimple_NotSimple eb_NoIndex hd_NoIndex ty_NoIndex ⟨ga_NotSimple, gg_NotSimple, eb_NotSimple, hd_NotSimple, ha_NotSimple, hn_, ht_, hm_NotSimple⟩
  have xs_TooManyEdits_NoIndex : SubT K "TooManyEdits" "NoIndex" false := subT_own aC_TooManyEdits aC_NoIndex sb_TooManyEdits_NoIndex sb_TooManyEdits_TooManyEdits eb_NoIndex hd_NoIndex ty_NoIndex ⟨ga_TooManyEdits, gg_TooManyEdits, eb_TooManyEdits, hd_TooManyEdits, ha_TooManyEdits, hn_, ht_, hm_TooManyEdits⟩
  have xs_Busy_NoIndex : SubT K "Busy" "NoIndex" false := subT_own aC_Busy aC_NoIndex sb_Busy_NoIndex sb_Busy_Busy eb_NoIndex hd_NoIndex ty_NoIndex ⟨ga_Busy, gg_Busy, eb_Busy, hd_Busy, ha_Busy, hn_, ht_, hm_Busy⟩
  have xs_LastLetter_NoIndex : SubT K "LastLetter" "NoIndex" false := subT_own aC_LastLetter aC_NoIndex sb_LastLetter_NoIndex sb_LastLetter_LastLetter eb_NoIndex hd_NoIndex ty_NoIndex ⟨ga_LastLetter, gg_LastLetter, eb_LastLetter, hd_LastLetter, ha_LastLetter, hn_, ht_, hm_LastLetter⟩
  have xs_TooLong_NoIndex : SubT K "TooLong" "NoIndex" false := subT_own aC_TooLong aC_NoIndex sb_TooLong_NoIndex sb_TooLong_TooLong eb_NoIndex hd_NoIndex ty_NoIndex ⟨ga_TooLong, gg_TooLong, eb_TooLong, hd_TooLong, ha_TooLong, hn_, ht_, hm_TooLong⟩
  have xs_BadWord_NoIndex : SubT K "BadWord" "NoIndex" false := subT_own aC_BadWord aC_NoIndex sb_BadWord_NoIndex sb_BadWord_BadWord eb_NoIndex hd_NoIndex ty_NoIndex ⟨ga_BadWord, gg_BadWord, eb_BadWord, hd_BadWord, ha_BadWord, hn_, ht_, hm_BadWord⟩
  have xs_BadLetter_NoIndex : SubT K "BadLetter" "NoIndex" false := subT_own aC_BadLetter aC_NoIndex sb_BadLetter_NoIndex sb_BadLetter_BadLetter eb_NoIndex hd_NoIndex ty_NoIndex ⟨ga_BadLetter, gg_BadLetter, eb_BadLetter, hd_BadLetter, ha_BadLetter, hn_, ht_, hm_BadLetter⟩
  have xs_BadText_NoIndex : SubT K "BadText" "NoIndex" false := subT_own aC_BadText aC_NoIndex sb_BadText_NoIndex sb_BadText_BadText eb_NoIndex hd_NoIndex ty_NoIndex ⟨ga_BadText, gg_BadText, eb_BadText, hd_BadText, ha_BadText, hn_, ht_, hm_BadText⟩
  have xs_NoPlace_NoIndex : SubT K "NoPlace" "NoIndex" false := subT_own aC_NoPlace aC_NoIndex sb_NoPlace_NoIndex sb_NoPlace_NoPlace eb_NoIndex hd_NoIndex ty_NoIndex ⟨ga_NoPlace, gg_NoPlace, eb_NoPlace, hd_NoPlace, ha_NoPlace, hn_, ht_, hm_NoPlace⟩
  have xs_NotSimple_LookupError : SubT K "NotSimple" "LookupError" false := subT_ty aC_NotSimple z1 rfl (by decide) sb_NotSimple_LookupError sx_LookupError rfl ⟨ga_NotSimple, gg_NotSimple, eb_NotSimple, hd_NotSimple, ha_NotSimple, hn_, ht_, hm_NotSimple⟩
  have xs_TooManyEdits_LookupError : SubT K "TooManyEdits" "LookupError" false := subT_ty aC_TooManyEdits z1 rfl (by decide) sb_TooManyEdits_LookupError sx_LookupError rfl ⟨ga_TooManyEdits, gg_TooManyEdits, eb_TooManyEdits, hd_TooManyEdits, ha_TooManyEdits, hn_, ht_, hm_TooManyEdits⟩
  have xs_Busy_LookupError : SubT K "Busy" "LookupError" false := subT_ty aC_Busy z1 rfl (by decide) sb_Busy_LookupError sx_LookupError rfl ⟨ga_Busy, gg_Busy, eb_Busy, hd_Busy, ha_Busy, hn_, ht_, hm_Busy⟩
  have xs_LastLetter_LookupError : SubT K "LastLetter" "LookupError" false := subT_ty aC_LastLetter z1 rfl (by decide) sb_LastLetter_LookupError sx_LookupError rfl ⟨ga_LastLetter, gg_LastLetter, eb_LastLetter, hd_LastLetter, ha_LastLetter, hn_, ht_, hm_LastLetter⟩
  have xs_TooLong_LookupError : SubT K "TooLong" "LookupError" false := subT_ty aC_TooLong z1 rfl (by decide) sb_TooLong_LookupError sx_LookupError rfl ⟨ga_TooLong, gg_TooLong, eb_TooLong, hd_TooLong, ha_TooLong, hn_, ht_, hm_TooLong⟩
  have xs_BadWord_LookupError : SubT K "BadWord" "LookupError" false := subT_ty aC_BadWord z1 rfl (by decide) sb_BadWord_LookupError sx_LookupError rfl ⟨ga_BadWord, gg_BadWord, eb_BadWord, hd_BadWord, ha_BadWord, hn_, ht_, hm_BadWord⟩
  have xs_BadLetter_LookupError : SubT K "BadLetter" "LookupError" false := subT_ty aC_BadLetter z1 rfl (by decide) sb_BadLetter_LookupError sx_LookupError rfl ⟨ga_BadLetter, gg_BadLetter, eb_BadLetter, hd_BadLetter, ha_BadLetter, hn_, ht_, hm_BadLetter⟩
  have xs_BadText_LookupError : SubT K "BadText" "LookupError" false := subT_ty aC_BadText z1 rfl (by decide) sb_BadText_LookupError sx_LookupError rfl ⟨ga_BadText, gg_BadText, eb_BadText, hd_BadText, ha_BadText, hn_, ht_, hm_BadText⟩
  have xs_NoPlace_LookupError : SubT K "NoPlace" "LookupError" true := subT_ty aC_NoPlace z1 rfl (by decide) sb_NoPlace_LookupError sx_LookupError rfl ⟨ga_NoPlace, gg_NoPlace, eb_NoPlace, hd_NoPlace, ha_NoPlace, hn_, ht_, hm_NoPlace⟩
  have xs_NotSimple_ValueError : SubT K "NotSimple" "ValueError" true := subT_ty aC_NotSimple z2 rfl (by decide) sb_NotSimple_ValueError sx_ValueError rfl ⟨ga_NotSimple, gg_NotSimple, eb_NotSimple, hd_NotSimple, ha_NotSimple, hn_, ht_, hm_NotSimple⟩
  have xs_TooManyEdits_ValueError : SubT K "TooManyEdits" "ValueError" true := subT_ty aC_TooManyEdits z2 rfl (by decide) sb_TooManyEdits_ValueError sx_ValueError rfl ⟨ga_TooManyEdits, gg_TooManyEdits, eb_TooManyEdits, hd_TooManyEdits, ha_TooManyEdits, hn_, ht_, hm_TooManyEdits⟩
  have xs_Busy_ValueError : SubT K "Busy" "ValueError" true := subT_ty aC_Busy z2 rfl (by decide) sb_Busy_ValueError sx_ValueError rfl ⟨ga_Busy, gg_Busy, eb_Busy, hd_Busy, ha_Busy, hn_, ht_, hm_Busy⟩
  have xs_LastLetter_ValueError : SubT K "LastLetter" "ValueError" true := subT_ty aC_LastLetter z2 rfl (by decide) sb_LastLetter_ValueError sx_ValueError rfl ⟨ga_LastLetter, gg_LastLetter, eb_LastLetter, hd_LastLetter, ha_LastLetter, hn_, ht_, hm_LastLetter⟩
  have xs_TooLong_ValueError : SubT K "TooLong" "ValueError" true := subT_ty aC_TooLong z2 rfl (by decide) sb_TooLong_ValueError sx_ValueError rfl ⟨ga_TooLong, gg_TooLong, eb_TooLong, hd_TooLong, ha_TooLong, hn_, ht_, hm_TooLong⟩
  have xs_BadWord_ValueError : SubT K "BadWord" "ValueError" true := subT_ty aC_BadWord z2 rfl (by decide) sb_BadWord_ValueError sx_ValueError rfl ⟨ga_BadWord, gg_BadWord, eb_BadWord, hd_BadWord, ha_BadWord, hn_, ht_, hm_BadWord⟩
  have xs_BadLetter_ValueError : SubT K "BadLetter" "ValueError" true := subT_ty aC_BadLetter z2 rfl (by decide) sb_BadLetter_ValueError sx_ValueError rfl ⟨ga_BadLetter, gg_BadLetter, eb_BadLetter, hd_BadLetter, ha_BadLetter, hn_, ht_, hm_BadLetter⟩
  have xs_BadText_ValueError : SubT K "BadText" "ValueError" true := subT_ty aC_BadText z2 rfl (by decide) sb_BadText_ValueError sx_ValueError rfl ⟨ga_BadText, gg_BadText, eb_BadText, hd_BadText, ha_BadText, hn_, ht_, hm_BadText⟩
  have xs_NoPlace_ValueError : SubT K "NoPlace" "ValueError" false := subT_ty aC_NoPlace z2 rfl (by decide) sb_NoPlace_ValueError sx_ValueError rfl ⟨ga_NoPlace, gg_NoPlace, eb_NoPlace, hd_NoPlace, ha_NoPlace, hn_, ht_, hm_NoPlace⟩
  have xs_NotSimple_TailError : SubT K "NotSimple" "TailError" true := subT_own aC_NotSimple aC_TailError sb_NotSimple_TailError sb_NotSimple_NotSimple eb_TailError hd_TailError ty_TailError ⟨ga_NotSimple, gg_NotSimple, eb_NotSimple, hd_NotSimple, ha_NotSimple, hn_, ht_, hm_NotSimple⟩
  have xs_TooManyEdits_TailError : SubT K "TooManyEdits" "TailError" true := subT_own aC_TooManyEdits aC_TailError sb_TooManyEdits_TailError sb_TooManyEdits_TooManyEdits eb_TailError hd_TailError ty_TailError ⟨ga_TooManyEdits, gg_TooManyEdits, eb_TooManyEdits, hd_TooManyEdits, ha_TooManyEdits, hn_, ht_, hm_TooManyEdits⟩
  have xs_Busy_TailError : SubT K "Busy" "TailError" true := subT_own aC_Busy aC_TailError sb_Busy_TailError sb_Busy_Busy eb_TailError hd_TailError ty_TailError ⟨ga_Busy, gg_Busy, eb_Busy, hd_Busy, ha_Busy, hn_, ht_, hm_Busy⟩
  have xs_LastLetter_TailError : SubT K "LastLetter" "TailError" true := subT_own aC_LastLetter aC_TailError sb_LastLetter_TailError sb_LastLetter_LastLetter eb_TailError hd_TailError ty_TailError ⟨ga_LastLetter, gg_LastLetter, eb_LastLetter, hd_LastLetter, ha_LastLetter, hn_, ht_, hm_LastLetter⟩
  have xs_TooLong_TailError : SubT K "TooLong" "TailError" true := subT_own aC_TooLong aC_TailError sb_TooLong_TailError sb_TooLong_TooLong eb_TailError hd_TailError ty_TailError ⟨ga_TooLong, gg_TooLong, eb_TooLong, hd_TooLong, ha_TooLong, hn_, ht_, hm_TooLong⟩
  have xs_BadWord_TailError : SubT K "BadWord" "TailError" true := subT_own aC_BadWord aC_TailError sb_BadWord_TailError sb_BadWord_BadWord eb_TailError hd_TailError ty_TailError ⟨ga_BadWord, gg_BadWord, eb_BadWord, hd_BadWord, ha_BadWord, hn_, ht_, hm_BadWord⟩
  have xs_BadLetter_TailError : SubT K "BadLetter" "TailError" true := subT_own aC_BadLetter aC_TailError sb_BadLetter_TailError sb_BadLetter_BadLetter eb_TailError hd_TailError ty_TailError ⟨ga_BadLetter, gg_BadLetter, eb_BadLetter, hd_BadLetter, ha_BadLetter, hn_, ht_, hm_BadLetter⟩
  have xs_BadText_TailError : SubT K "BadText" "TailError" true := subT_own aC_BadText aC_TailError sb_BadText_TailError sb_BadText_BadText eb_TailError hd_TailError ty_TailError ⟨ga_BadText, gg_BadText, eb_BadText, hd_BadText, ha_BadText, hn_, ht_, hm_BadText⟩
  have xs_NoPlace_TailError : SubT K "NoPlace" "TailError" false := subT_own aC_NoPlace aC_TailError sb_NoPlace_TailError sb_NoPlace_NoPlace eb_TailError hd_TailError ty_TailError ⟨ga_NoPlace, gg_NoPlace, eb_NoPlace, hd_NoPlace, ha_NoPlace, hn_, ht_, hm_NoPlace⟩
  have xf_BadLetter_value : FldT K "BadLetter" "value" := ⟨C_BadLetter, aC_BadLetter, ⟨ga_BadLetter, gg_BadLetter, eb_BadLetter, hd_BadLetter⟩, nf_BadLetter_value⟩
  have xf_NoPlace_value : FldT K "NoPlace" "value" := ⟨C_NoPlace, aC_NoPlace, ⟨ga_NoPlace, gg_NoPlace, eb_NoPlace, hd_NoPlace⟩, nf_NoPlace_value⟩
  have xf_BadText_index : FldT K "BadText" "index" := ⟨C_BadText, aC_BadText, ⟨ga_BadText, gg_BadText, eb_BadText, hd_BadText⟩, nf_BadText_index⟩
  have xf_NotSimple_place : FldT K "NotSimple" "place" := ⟨C_NotSimple, aC_NotSimple, ⟨ga_NotSimple, gg_NotSimple, eb_NotSimple, hd_NotSimple⟩, nf_NotSimple_place⟩
  have xf_TooLong_limit : FldT K "TooLong" "limit" := ⟨C_TooLong, aC_TooLong, ⟨ga_TooLong, gg_TooLong, eb_TooLong, hd_TooLong⟩, nf_TooLong_limit⟩
  have xf_BadWord_error : FldT K "BadWord" "error" := ⟨C_BadWord, aC_BadWord, ⟨ga_BadWord, gg_BadWord, eb_BadWord, hd_BadWord⟩, nf_BadWord_error⟩
  have cn_Desk : ClN K mg "Desk" := ⟨C_Desk, aC_Desk, PySem.W.mg_of X G aC_Desk⟩
  have cn_SimpleDesk : ClN K mg "SimpleDesk" := ⟨C_SimpleDesk, aC_SimpleDesk, PySem.W.mg_of X G aC_SimpleDesk⟩
  have cn_LoggedDesk : ClN K mg "LoggedDesk" := ⟨C_LoggedDesk, aC_LoggedDesk, PySem.W.mg_of X G aC_LoggedDesk⟩
  have cn_LoggedSimpleDesk : ClN K mg "LoggedSimpleDesk" := ⟨C_LoggedSimpleDesk, aC_LoggedSimpleDesk, PySem.W.mg_of X G aC_LoggedSimpleDesk⟩
  have ki_LoggedDesk : KitO K mg "LoggedDesk" [("Desk", false), ("SimpleDesk", false), ("LoggedDesk", true), ("LoggedSimpleDesk", true)] := ⟨C_LoggedDesk, aC_LoggedDesk, PySem.W.mg_of X G aC_LoggedDesk, (all_cons kt_LoggedDesk_NoneType (all_cons kt_LoggedDesk_bool (all_cons kt_LoggedDesk_int (all_cons kt_LoggedDesk_str (all_cons kt_LoggedDesk_list (all_cons kt_LoggedDesk_tuple (all_cons kt_LoggedDesk_dict all_nil))))))), hn_, ht_, (all_cons ⟨C_Desk, aC_Desk, cl_Desk, ha_Desk, hm_Desk, kb_Desk_LoggedDesk⟩ (all_cons ⟨C_SimpleDesk, aC_SimpleDesk, cl_SimpleDesk, ha_SimpleDesk, hm_SimpleDesk, kb_SimpleDesk_LoggedDesk⟩ (all_cons ⟨C_LoggedDesk, aC_LoggedDesk, cl_LoggedDesk, ha_LoggedDesk, hm_LoggedDesk, kb_LoggedDesk_LoggedDesk⟩ (all_cons ⟨C_LoggedSimpleDesk, aC_LoggedSimpleDesk, cl_LoggedSimpleDesk, ha_LoggedSimpleDesk, hm_LoggedSimpleDesk, kb_LoggedSimpleDesk_LoggedDesk⟩ all_nil))))⟩
  have ki_SimpleDesk : KitO K mg "SimpleDesk" [("Desk", false), ("SimpleDesk", true), ("LoggedDesk", false), ("LoggedSimpleDesk", true)] := ⟨C_SimpleDesk, aC_SimpleDesk, PySem.W.mg_of X G aC_SimpleDesk, (all_cons kt_SimpleDesk_NoneType (all_cons kt_SimpleDesk_bool (all_cons kt_SimpleDesk_int (all_cons kt_SimpleDesk_str (all_cons kt_SimpleDesk_list (all_cons kt_SimpleDesk_tuple (all_cons kt_SimpleDesk_dict all_nil))))))), hn_, ht_, (all_cons ⟨C_Desk, aC_Desk, cl_Desk, ha_Desk, hm_Desk, kb_Desk_SimpleDesk⟩ (all_cons ⟨C_SimpleDesk, aC_SimpleDesk, cl_SimpleDesk, ha_SimpleDesk, hm_SimpleDesk, kb_SimpleDesk_SimpleDesk⟩ (all_cons ⟨C_LoggedDesk, aC_LoggedDesk, cl_LoggedDesk, ha_LoggedDesk, hm_LoggedDesk, kb_LoggedDesk_SimpleDesk⟩ (all_cons ⟨C_LoggedSimpleDesk, aC_LoggedSimpleDesk, cl_LoggedSimpleDesk, ha_LoggedSimpleDesk, hm_LoggedSimpleDesk, kb_LoggedSimpleDesk_SimpleDesk⟩ all_nil))))⟩
  have ki_Desk : KitO K mg "Desk" [("Desk", true), ("SimpleDesk", true), ("LoggedDesk", true), ("LoggedSimpleDesk", true)] := ⟨C_Desk, aC_Desk, PySem.W.mg_of X G aC_Desk, (all_cons kt_Desk_NoneType (all_cons kt_Desk_bool (all_cons kt_Desk_int (all_cons kt_Desk_str (all_cons kt_Desk_list (all_cons kt_Desk_tuple (all_cons kt_Desk_dict all_nil))))))), hn_, ht_, (all_cons ⟨C_Desk, aC_Desk, cl_Desk, ha_Desk, hm_Desk, kb_Desk_Desk⟩ (all_cons ⟨C_SimpleDesk, aC_SimpleDesk, cl_SimpleDesk, ha_SimpleDesk, hm_SimpleDesk, kb_SimpleDesk_Desk⟩ (all_cons ⟨C_LoggedDesk, aC_LoggedDesk, cl_LoggedDesk, ha_LoggedDesk, hm_LoggedDesk, kb_LoggedDesk_Desk⟩ (all_cons ⟨C_LoggedSimpleDesk, aC_LoggedSimpleDesk, cl_LoggedSimpleDesk, ha_LoggedSimpleDesk, hm_LoggedSimpleDesk, kb_LoggedSimpleDesk_Desk⟩ all_nil))))⟩
  have fi_LoggedSimpleDesk_now : FldI K "LoggedSimpleDesk" "now" := ⟨C_LoggedSimpleDesk, aC_LoggedSimpleDesk, cl_LoggedSimpleDesk, nf_LoggedSimpleDesk_now⟩
  have fi_LoggedDesk_now : FldI K "LoggedDesk" "now" := ⟨C_LoggedDesk, aC_LoggedDesk, cl_LoggedDesk, nf_LoggedDesk_now⟩
  have fi_SimpleDesk_now : FldI K "SimpleDesk" "now" := ⟨C_SimpleDesk, aC_SimpleDesk, cl_SimpleDesk, nf_SimpleDesk_now⟩
  have fi_Desk_now : FldI K "Desk" "now" := ⟨C_Desk, aC_Desk, cl_Desk, nf_Desk_now⟩
  have fi_LoggedSimpleDesk_states : FldI K "LoggedSimpleDesk" "states" := ⟨C_LoggedSimpleDesk, aC_LoggedSimpleDesk, cl_LoggedSimpleDesk, nf_LoggedSimpleDesk_states⟩
  have fi_LoggedDesk_states : FldI K "LoggedDesk" "states" := ⟨C_LoggedDesk, aC_LoggedDesk, cl_LoggedDesk, nf_LoggedDesk_states⟩
  have fi_SimpleDesk_states : FldI K "SimpleDesk" "states" := ⟨C_SimpleDesk, aC_SimpleDesk, cl_SimpleDesk, nf_SimpleDesk_states⟩
  have fi_Desk_states : FldI K "Desk" "states" := ⟨C_Desk, aC_Desk, cl_Desk, nf_Desk_states⟩
  have fi_LoggedSimpleDesk_done : FldI K "LoggedSimpleDesk" "done" := ⟨C_LoggedSimpleDesk, aC_LoggedSimpleDesk, cl_LoggedSimpleDesk, nf_LoggedSimpleDesk_done⟩
  have fi_LoggedDesk_done : FldI K "LoggedDesk" "done" := ⟨C_LoggedDesk, aC_LoggedDesk, cl_LoggedDesk, nf_LoggedDesk_done⟩
  have fi_SimpleDesk_done : FldI K "SimpleDesk" "done" := ⟨C_SimpleDesk, aC_SimpleDesk, cl_SimpleDesk, nf_SimpleDesk_done⟩
  have fi_Desk_done : FldI K "Desk" "done" := ⟨C_Desk, aC_Desk, cl_Desk, nf_Desk_done⟩
  have fi_LoggedSimpleDesk_wanted : FldI K "LoggedSimpleDesk" "wanted" := ⟨C_LoggedSimpleDesk, aC_LoggedSimpleDesk, cl_LoggedSimpleDesk, nf_LoggedSimpleDesk_wanted⟩
  have fi_LoggedDesk_wanted : FldI K "LoggedDesk" "wanted" := ⟨C_LoggedDesk, aC_LoggedDesk, cl_LoggedDesk, nf_LoggedDesk_wanted⟩
  have fi_SimpleDesk_wanted : FldI K "SimpleDesk" "wanted" := ⟨C_SimpleDesk, aC_SimpleDesk, cl_SimpleDesk, nf_SimpleDesk_wanted⟩
  have fi_Desk_wanted : FldI K "Desk" "wanted" := ⟨C_Desk, aC_Desk, cl_Desk, nf_Desk_wanted⟩
  have fi_LoggedSimpleDesk_is_busy : FldI K "LoggedSimpleDesk" "is_busy" := ⟨C_LoggedSimpleDesk, aC_LoggedSimpleDesk, cl_LoggedSimpleDesk, nf_LoggedSimpleDesk_is_busy⟩
  have fi_LoggedDesk_is_busy : FldI K "LoggedDesk" "is_busy" := ⟨C_LoggedDesk, aC_LoggedDesk, cl_LoggedDesk, nf_LoggedDesk_is_busy⟩
  have fi_SimpleDesk_is_busy : FldI K "SimpleDesk" "is_busy" := ⟨C_SimpleDesk, aC_SimpleDesk, cl_SimpleDesk, nf_SimpleDesk_is_busy⟩
  have fi_Desk_is_busy : FldI K "Desk" "is_busy" := ⟨C_Desk, aC_Desk, cl_Desk, nf_Desk_is_busy⟩
  have xr_NotSimple : RaisesF K "NotSimple" "place" := ⟨"ValueError", _, _, _, C_NotSimple, I_NotSimple, _, ⟨aC_NotSimple, (exInit_of xL_NotSimple te_NotSimple).1, (exInit_of xL_NotSimple te_NotSimple).2, sa_NotSimple, tk_NotSimple, hd_NotSimple, iC_NotSimple, tI_NotSimple, kc_NotSimple, eb_NotSimple, ty_NotSimple, by decide, ⟨_, _, _, _, _, _, _, _, _, _, _, _, _, _, lI_NotSimple, cI_NotSimple⟩, PySem.F.excBase_ValueError, PySem.F.store_ValueError⟩⟩
  have fi_LoggedSimpleDesk_rows : FldI K "LoggedSimpleDesk" "rows" := ⟨C_LoggedSimpleDesk, aC_LoggedSimpleDesk, cl_LoggedSimpleDesk, nf_LoggedSimpleDesk_rows⟩
  have fi_LoggedDesk_rows : FldI K "LoggedDesk" "rows" := ⟨C_LoggedDesk, aC_LoggedDesk, cl_LoggedDesk, nf_LoggedDesk_rows⟩
  have bs := F9.binds (ps := ["_law_script"]) fun _ _ _ _ _ _ us hl => match us, hl with | [_], _ => rfl
  have bd := F10.binds (ps := ["_law_stream_here", "_law_many"]) fun _ _ _ _ _ _ us hl => match us, hl with | [_, _], _ => rfl
  refine ⟨PySem.W.fnOf "law" "law" (defArgs s_law) (defBody s_law) (defScope s_law) .none kV26 dc26 pm26 an26 cd26 ct26, fun s v => .of_eq rfl, fun base _ _ m_sm => ?_⟩
  have F_l_draw := fnB_of F10 g10 (ok_draw (P := l.prog) (w := w) (base := base) F10 m_len) bd
  have FS := ok_stream (P := l.prog) (w := w) (mg := mg) (base := base) F9 m_len m_abs
  have F_is_letter := ok_is_letter (P := l.prog) (w := w) (base := base) F1 g1 m_isinstance m_len m_str c_LETTERS p_is_letter
  have F_tail_order := ok_tail_order (P := l.prog) (w := w) (base := base) F4 g4 m_len m_range m_sorted m_tuple p_tail_order
  have F_is_simple := ok_is_simple (P := l.prog) (w := w) (base := base) F5 g5 m_all m_len m_range p_is_simple
  have F_words_behind := ok_words_behind (P := l.prog) (w := w) (base := base) F6 g6 m_isinstance m_str xr_BadText p_words_behind
  have F_Desk_word := ok_Desk_word (P := l.prog) (w := w) (mg := mg) (base := base) FM_Desk_word fi_LoggedSimpleDesk_now fi_LoggedDesk_now fi_SimpleDesk_now fi_Desk_now p_Desk_word
  have b_Desk_word := FM_Desk_word.binds (ps := ["self"]) fun _ _ _ _ _ _ us hl => match us, hl with | [_], _ => rfl
  have F_Desk_version := ok_Desk_version (P := l.prog) (w := w) (mg := mg) (base := base) FM_Desk_version m_len fi_LoggedSimpleDesk_done fi_LoggedDesk_done fi_SimpleDesk_done fi_Desk_done p_Desk_version
  have b_Desk_version := FM_Desk_version.binds (ps := ["self"]) fun _ _ _ _ _ _ us hl => match us, hl with | [_], _ => rfl
  have F_Desk_pattern := ok_Desk_pattern (P := l.prog) (w := w) (mg := mg) (base := base) FM_Desk_pattern fi_LoggedSimpleDesk_wanted fi_LoggedDesk_wanted fi_SimpleDesk_wanted fi_Desk_wanted p_Desk_pattern
  have b_Desk_pattern := FM_Desk_pattern.binds (ps := ["self"]) fun _ _ _ _ _ _ us hl => match us, hl with | [_], _ => rfl
  have F_Desk_accept := ok_Desk_accept (P := l.prog) (w := w) (mg := mg) (base := base) FM_Desk_accept p_Desk_accept
  have b_Desk_accept := FM_Desk_accept.binds (ps := ["self", "word"]) fun _ _ _ _ _ _ us hl => match us, hl with | [_, _], _ => rfl
  have F_Desk_edits := ok_Desk_edits (P := l.prog) (w := w) (mg := mg) (base := base) FM_Desk_edits fi_LoggedSimpleDesk_done fi_LoggedDesk_done fi_SimpleDesk_done fi_Desk_done p_Desk_edits
  have b_Desk_edits := FM_Desk_edits.binds (ps := ["self"]) fun _ _ _ _ _ _ us hl => match us, hl with | [_], _ => rfl
  have F_Desk_walk := ok_Desk_walk (P := l.prog) (w := w) (mg := mg) (base := base) FM_Desk_walk m_enumerate fi_LoggedSimpleDesk_states fi_LoggedDesk_states fi_SimpleDesk_states fi_Desk_states p_Desk_walk
  have b_Desk_walk := FM_Desk_walk.binds (ps := ["self"]) fun _ _ _ _ _ _ us hl => match us, hl with | [_], _ => rfl
  have F_Desk_len := ok_Desk_len (P := l.prog) (w := w) (mg := mg) (base := base) FM_Desk_len m_len fi_LoggedSimpleDesk_now fi_LoggedDesk_now fi_SimpleDesk_now fi_Desk_now p_Desk_len
  have b_Desk_len := FM_Desk_len.binds (ps := ["self"]) fun _ _ _ _ _ _ us hl => match us, hl with | [_], _ => rfl
  have F_Desk_str := ok_Desk_str (P := l.prog) (w := w) (mg := mg) (base := base) FM_Desk_str m_len fi_LoggedSimpleDesk_done fi_LoggedDesk_done fi_SimpleDesk_done fi_Desk_done fi_LoggedSimpleDesk_now fi_LoggedDesk_now fi_SimpleDesk_now fi_Desk_now p_Desk_str
  have b_Desk_str := FM_Desk_str.binds (ps := ["self"]) fun _ _ _ _ _ _ us hl => match us, hl with | [_], _ => rfl
  have F_LoggedDesk_log := ok_LoggedDesk_log (P := l.prog) (w := w) (mg := mg) (base := base) FM_LoggedDesk_log fi_LoggedSimpleDesk_rows fi_LoggedDesk_rows p_LoggedDesk_log
  have b_LoggedDesk_log := FM_LoggedDesk_log.binds (ps := ["self"]) fun _ _ _ _ _ _ us hl => match us, hl with | [_], _ => rfl
  have F_l_order := ok_l_order (P := l.prog) (w := w) (base := base) F14 g14 m_len m_range m_sorted m_tuple p_l_order
  have F_l_is_letter := ok_l_is_letter (P := l.prog) (w := w) (base := base) F15 g15 m_isinstance m_len m_str p_l_is_letter
  have F_l_is_simple := ok_l_is_simple (P := l.prog) (w := w) (base := base) F16 g16 m_len m_range p_l_is_simple
  have F_l_name := ok_l_name (P := l.prog) (w := w) (base := base) F17 g17 m_int m_isinstance xs_NotSimple_BadLetter xs_TooManyEdits_BadLetter xs_Busy_BadLetter xs_LastLetter_BadLetter xs_TooLong_BadLetter xs_BadWord_BadLetter xs_BadLetter_BadLetter xs_BadText_BadLetter xs_NoPlace_BadLetter xs_NotSimple_BadEdits xs_TooManyEdits_BadEdits xs_Busy_BadEdits xs_LastLetter_BadEdits xs_TooLong_BadEdits xs_BadWord_BadEdits xs_BadLetter_BadEdits xs_BadText_BadEdits xs_NoPlace_BadEdits xs_NotSimple_BadEdit xs_TooManyEdits_BadEdit xs_Busy_BadEdit xs_LastLetter_BadEdit xs_TooLong_BadEdit xs_BadWord_BadEdit xs_BadLetter_BadEdit xs_BadText_BadEdit xs_NoPlace_BadEdit xs_NotSimple_Busy xs_TooManyEdits_Busy xs_Busy_Busy xs_LastLetter_Busy xs_TooLong_Busy xs_BadWord_Busy xs_BadLetter_Busy xs_BadText_Busy xs_NoPlace_Busy xs_NotSimple_BadWord xs_TooManyEdits_BadWord xs_Busy_BadWord xs_LastLetter_BadWord xs_TooLong_BadWord xs_BadWord_BadWord xs_BadLetter_BadWord xs_BadText_BadWord xs_NoPlace_BadWord xs_NotSimple_BadText xs_TooManyEdits_BadText xs_Busy_BadText xs_LastLetter_BadText xs_TooLong_BadText xs_BadWord_BadText xs_BadLetter_BadText xs_BadText_BadText xs_NoPlace_BadText xs_NotSimple_NothingToUndo xs_TooManyEdits_NothingToUndo xs_Busy_NothingToUndo xs_LastLetter_NothingToUndo xs_TooLong_NothingToUndo xs_BadWord_NothingToUndo xs_BadLetter_NothingToUndo xs_BadText_NothingToUndo xs_NoPlace_NothingToUndo xs_NotSimple_NotSimple xs_TooManyEdits_NotSimple xs_Busy_NotSimple xs_LastLetter_NotSimple xs_TooLong_NotSimple xs_BadWord_NotSimple xs_BadLetter_NotSimple xs_BadText_NotSimple xs_NoPlace_NotSimple xs_NotSimple_LastLetter xs_TooManyEdits_LastLetter xs_Busy_LastLetter xs_LastLetter_LastLetter xs_TooLong_LastLetter xs_BadWord_LastLetter xs_BadLetter_LastLetter xs_BadText_LastLetter xs_NoPlace_LastLetter xs_NotSimple_TooManyEdits xs_TooManyEdits_TooManyEdits xs_Busy_TooManyEdits xs_LastLetter_TooManyEdits xs_TooLong_TooManyEdits xs_BadWord_TooManyEdits xs_BadLetter_TooManyEdits xs_BadText_TooManyEdits xs_NoPlace_TooManyEdits xs_NotSimple_TooLong xs_TooManyEdits_TooLong xs_Busy_TooLong xs_LastLetter_TooLong xs_TooLong_TooLong xs_BadWord_TooLong xs_BadLetter_TooLong xs_BadText_TooLong xs_NoPlace_TooLong xs_NotSimple_Rejected xs_TooManyEdits_Rejected xs_Busy_Rejected xs_LastLetter_Rejected xs_TooLong_Rejected xs_BadWord_Rejected xs_BadLetter_Rejected xs_BadText_Rejected xs_NoPlace_Rejected xs_NotSimple_NoVersion xs_TooManyEdits_NoVersion xs_Busy_NoVersion xs_LastLetter_NoVersion xs_TooLong_NoVersion xs_BadWord_NoVersion xs_BadLetter_NoVersion xs_BadText_NoVersion xs_NoPlace_NoVersion xs_NotSimple_NoPlace xs_TooManyEdits_NoPlace xs_Busy_NoPlace xs_LastLetter_NoPlace xs_TooLong_NoPlace xs_BadWord_NoPlace xs_BadLetter_NoPlace xs_BadText_NoPlace xs_NoPlace_NoPlace xs_NotSimple_NoIndex xs_TooManyEdits_NoIndex xs_Busy_NoIndex xs_LastLetter_NoIndex xs_TooLong_NoIndex xs_BadWord_NoIndex xs_BadLetter_NoIndex xs_BadText_NoIndex xs_NoPlace_NoIndex xs_NotSimple_LookupError xs_TooManyEdits_LookupError xs_Busy_LookupError xs_LastLetter_LookupError xs_TooLong_LookupError xs_BadWord_LookupError xs_BadLetter_LookupError xs_BadText_LookupError xs_NoPlace_LookupError xs_NotSimple_ValueError xs_TooManyEdits_ValueError xs_Busy_ValueError xs_LastLetter_ValueError xs_TooLong_ValueError xs_BadWord_ValueError xs_BadLetter_ValueError xs_BadText_ValueError xs_NoPlace_ValueError xs_NotSimple_TailError xs_TooManyEdits_TailError xs_Busy_TailError xs_LastLetter_TailError xs_TooLong_TailError xs_BadWord_TailError xs_BadLetter_TailError xs_BadText_TailError xs_NoPlace_TailError p_l_name
  have F_l_field := ok_l_field (P := l.prog) (w := w) (base := base) F18 g18 m_isinstance xs_NotSimple_NoVersion xs_NotSimple_NoPlace xs_NotSimple_NoIndex xs_NotSimple_BadLetter xs_TooManyEdits_NoVersion xs_TooManyEdits_NoPlace xs_TooManyEdits_NoIndex xs_TooManyEdits_BadLetter xs_Busy_NoVersion xs_Busy_NoPlace xs_Busy_NoIndex xs_Busy_BadLetter xs_LastLetter_NoVersion xs_LastLetter_NoPlace xs_LastLetter_NoIndex xs_LastLetter_BadLetter xs_TooLong_NoVersion xs_TooLong_NoPlace xs_TooLong_NoIndex xs_TooLong_BadLetter xs_BadWord_NoVersion xs_BadWord_NoPlace xs_BadWord_NoIndex xs_BadWord_BadLetter xs_BadLetter_NoVersion xs_BadLetter_NoPlace xs_BadLetter_NoIndex xs_BadLetter_BadLetter xs_BadText_NoVersion xs_BadText_NoPlace xs_BadText_NoIndex xs_BadText_BadLetter xs_NoPlace_NoVersion xs_NoPlace_NoPlace xs_NoPlace_NoIndex xs_NoPlace_BadLetter xf_BadLetter_value xf_NoPlace_value xs_NotSimple_Rejected xs_NotSimple_BadText xs_NotSimple_BadEdit xs_TooManyEdits_Rejected xs_TooManyEdits_BadText xs_TooManyEdits_BadEdit xs_Busy_Rejected xs_Busy_BadText xs_Busy_BadEdit xs_LastLetter_Rejected xs_LastLetter_BadText xs_LastLetter_BadEdit xs_TooLong_Rejected xs_TooLong_BadText xs_TooLong_BadEdit xs_BadWord_Rejected xs_BadWord_BadText xs_BadWord_BadEdit xs_BadLetter_Rejected xs_BadLetter_BadText xs_BadLetter_BadEdit xs_BadText_Rejected xs_BadText_BadText xs_BadText_BadEdit xs_NoPlace_Rejected xs_NoPlace_BadText xs_NoPlace_BadEdit xf_BadText_index xs_NotSimple_NotSimple xs_TooManyEdits_NotSimple xs_Busy_NotSimple xs_LastLetter_NotSimple xs_TooLong_NotSimple xs_BadWord_NotSimple xs_BadLetter_NotSimple xs_BadText_NotSimple xs_NoPlace_NotSimple xf_NotSimple_place xs_NotSimple_TooLong xs_TooManyEdits_TooLong xs_Busy_TooLong xs_LastLetter_TooLong xs_TooLong_TooLong xs_BadWord_TooLong xs_BadLetter_TooLong xs_BadText_TooLong xs_NoPlace_TooLong xf_TooLong_limit xs_NotSimple_BadWord xs_TooManyEdits_BadWord xs_Busy_BadWord xs_LastLetter_BadWord xs_TooLong_BadWord xs_BadWord_BadWord xs_BadLetter_BadWord xs_BadText_BadWord xs_NoPlace_BadWord xf_BadWord_error p_l_field
  have F_word_error := ok_word_error (P := l.prog) (w := w) (base := base) F2 g2 F_is_letter m_enumerate m_isinstance m_len m_str c_MAX_WORD p_word_error
  have Q_tail_order := F_tail_order.lq
  have F_Desk_order := ok_Desk_order (P := l.prog) (w := w) (mg := mg) (base := base) FM_Desk_order Q_tail_order fi_LoggedSimpleDesk_now fi_LoggedDesk_now fi_SimpleDesk_now fi_Desk_now p_Desk_order
  have b_Desk_order := FM_Desk_order.binds (ps := ["self"]) fun _ _ _ _ _ _ us hl => match us, hl with | [_], _ => rfl
  have Q_is_simple := F_is_simple.lq
  have F_SimpleDesk_accept := ok_SimpleDesk_accept (P := l.prog) (w := w) (mg := mg) (base := base) FM_SimpleDesk_accept Q_is_simple Q_tail_order xr_NotSimple p_SimpleDesk_accept
  have b_SimpleDesk_accept := FM_SimpleDesk_accept.binds (ps := ["self", "word"]) fun _ _ _ _ _ _ us hl => match us, hl with | [_, _], _ => rfl
  have F_l_pick := ok_l_pick (P := l.prog) (w := w) (base := base) F11 g11 F_l_draw m_len p_l_pick
  have F_l_odd := ok_l_odd (P := l.prog) (w := w) (base := base) F12 g12 F_l_draw p_l_odd
  have F_l_due_seen := ok_l_due_seen (P := l.prog) (w := w) (base := base) F20 g20 F_l_order m_len m_repr m_str m_tuple m_sm p_l_due_seen
  have F_is_word := ok_is_word (P := l.prog) (w := w) (base := base) F3 g3 F_word_error p_is_word
  have F_check_word := ok_check_word (P := l.prog) (w := w) (base := base) F8 g8 F_word_error xr_BadWord p_check_word
  have F_l_word := ok_l_word (P := l.prog) (w := w) (base := base) F13 g13 F_l_draw F_l_pick m_range p_l_word
  have F_l_spoilt := ok_l_spoilt (P := l.prog) (w := w) (base := base) F22 g22 F_l_draw F_l_pick m_int m_len p_l_spoilt
  have F_l_expected := ok_l_expected (P := l.prog) (w := w) (base := base) F25 g25 F_l_is_letter F_l_is_simple F_l_order F_l_due_seen m_isinstance m_len m_str p_l_expected
  have F_parse_word := ok_parse_word (P := l.prog) (w := w) (base := base) F7 g7 F_words_behind F_is_word m_len c_WORD xr_BadText p_parse_word
  have Q_check_word := F_check_word.lq
  have M_accept : MethT l.prog w K mg base 2 "accept" ["self", "word"] T_accept := (methT_cons ⟨C_Desk, _, _, aC_Desk, cl_Desk, ⟨fD_Desk_accept, iF_Desk_accept, kM_Desk_accept⟩, F_Desk_accept.mono (by decide), b_Desk_accept⟩ (methT_cons ⟨C_SimpleDesk, _, _, aC_SimpleDesk, cl_SimpleDesk, ⟨fD_SimpleDesk_accept, iF_SimpleDesk_accept, kM_SimpleDesk_accept⟩, F_SimpleDesk_accept.mono (by decide), b_SimpleDesk_accept⟩ (methT_cons ⟨C_LoggedDesk, _, _, aC_LoggedDesk, cl_LoggedDesk, ⟨fD_LoggedDesk_accept, iF_Desk_accept, kM_Desk_accept⟩, F_Desk_accept.mono (by decide), b_Desk_accept⟩ (methT_cons ⟨C_LoggedSimpleDesk, _, _, aC_LoggedSimpleDesk, cl_LoggedSimpleDesk, ⟨fD_LoggedSimpleDesk_accept, iF_SimpleDesk_accept, kM_SimpleDesk_accept⟩, F_SimpleDesk_accept.mono (by decide), b_SimpleDesk_accept⟩ methT_nil))))
  have F_Desk_init := ok_Desk_init (P := l.prog) (w := w) (mg := mg) (base := base) FM_Desk_init Q_check_word M_accept fi_LoggedSimpleDesk_now fi_LoggedDesk_now fi_SimpleDesk_now fi_Desk_now fi_LoggedSimpleDesk_states fi_LoggedDesk_states fi_SimpleDesk_states fi_Desk_states fi_LoggedSimpleDesk_done fi_LoggedDesk_done fi_SimpleDesk_done fi_Desk_done fi_LoggedSimpleDesk_wanted fi_LoggedDesk_wanted fi_SimpleDesk_wanted fi_Desk_wanted fi_LoggedSimpleDesk_is_busy fi_LoggedDesk_is_busy fi_SimpleDesk_is_busy fi_Desk_is_busy p_Desk_init
  have b_Desk_init := FM_Desk_init.binds (ps := ["self", "word"]) fun _ _ _ _ _ _ us hl => match us, hl with | [_, _], _ => rfl
  have M_str : MethT l.prog w K mg base 1 "__str__" ["self"] T_str := (methT_cons ⟨C_Desk, _, _, aC_Desk, cl_Desk, ⟨fD_Desk_str, iF_Desk_str, kM_Desk_str⟩, F_Desk_str.mono (by decide), b_Desk_str⟩ (methT_cons ⟨C_SimpleDesk, _, _, aC_SimpleDesk, cl_SimpleDesk, ⟨fD_SimpleDesk_str, iF_Desk_str, kM_Desk_str⟩, F_Desk_str.mono (by decide), b_Desk_str⟩ (methT_cons ⟨C_LoggedDesk, _, _, aC_LoggedDesk, cl_LoggedDesk, ⟨fD_LoggedDesk_str, iF_Desk_str, kM_Desk_str⟩, F_Desk_str.mono (by decide), b_Desk_str⟩ (methT_cons ⟨C_LoggedSimpleDesk, _, _, aC_LoggedSimpleDesk, cl_LoggedSimpleDesk, ⟨fD_LoggedSimpleDesk_str, iF_Desk_str, kM_Desk_str⟩, F_Desk_str.mono (by decide), b_Desk_str⟩ methT_nil))))
  have M_len : MethT l.prog w K mg base 1 "__len__" ["self"] T_len := (methT_cons ⟨C_Desk, _, _, aC_Desk, cl_Desk, ⟨fD_Desk_len, iF_Desk_len, kM_Desk_len⟩, F_Desk_len.mono (by decide), b_Desk_len⟩ (methT_cons ⟨C_SimpleDesk, _, _, aC_SimpleDesk, cl_SimpleDesk, ⟨fD_SimpleDesk_len, iF_Desk_len, kM_Desk_len⟩, F_Desk_len.mono (by decide), b_Desk_len⟩ (methT_cons ⟨C_LoggedDesk, _, _, aC_LoggedDesk, cl_LoggedDesk, ⟨fD_LoggedDesk_len, iF_Desk_len, kM_Desk_len⟩, F_Desk_len.mono (by decide), b_Desk_len⟩ (methT_cons ⟨C_LoggedSimpleDesk, _, _, aC_LoggedSimpleDesk, cl_LoggedSimpleDesk, ⟨fD_LoggedSimpleDesk_len, iF_Desk_len, kM_Desk_len⟩, F_Desk_len.mono (by decide), b_Desk_len⟩ methT_nil))))
  have M_edits : MethT l.prog w K mg base 1 "edits" ["self"] T_edits := (methT_cons ⟨C_Desk, _, _, aC_Desk, cl_Desk, ⟨fD_Desk_edits, iF_Desk_edits, kM_Desk_edits⟩, F_Desk_edits.mono (by decide), b_Desk_edits⟩ (methT_cons ⟨C_SimpleDesk, _, _, aC_SimpleDesk, cl_SimpleDesk, ⟨fD_SimpleDesk_edits, iF_Desk_edits, kM_Desk_edits⟩, F_Desk_edits.mono (by decide), b_Desk_edits⟩ (methT_cons ⟨C_LoggedDesk, _, _, aC_LoggedDesk, cl_LoggedDesk, ⟨fD_LoggedDesk_edits, iF_Desk_edits, kM_Desk_edits⟩, F_Desk_edits.mono (by decide), b_Desk_edits⟩ (methT_cons ⟨C_LoggedSimpleDesk, _, _, aC_LoggedSimpleDesk, cl_LoggedSimpleDesk, ⟨fD_LoggedSimpleDesk_edits, iF_Desk_edits, kM_Desk_edits⟩, F_Desk_edits.mono (by decide), b_Desk_edits⟩ methT_nil))))
  have P_version : PropT l.prog w K mg base 1 "version" T_version := (propT_cons ⟨C_Desk, _, _, _, aC_Desk, cl_Desk, ⟨fD_Desk_version, pG_Desk_version, pT_Desk_version, _, pR_Desk_version⟩, F_Desk_version.mono (by decide), b_Desk_version⟩ (propT_cons ⟨C_SimpleDesk, _, _, _, aC_SimpleDesk, cl_SimpleDesk, ⟨fD_SimpleDesk_version, pG_Desk_version, pT_Desk_version, _, pR_Desk_version⟩, F_Desk_version.mono (by decide), b_Desk_version⟩ (propT_cons ⟨C_LoggedDesk, _, _, _, aC_LoggedDesk, cl_LoggedDesk, ⟨fD_LoggedDesk_version, pG_Desk_version, pT_Desk_version, _, pR_Desk_version⟩, F_Desk_version.mono (by decide), b_Desk_version⟩ (propT_cons ⟨C_LoggedSimpleDesk, _, _, _, aC_LoggedSimpleDesk, cl_LoggedSimpleDesk, ⟨fD_LoggedSimpleDesk_version, pG_Desk_version, pT_Desk_version, _, pR_Desk_version⟩, F_Desk_version.mono (by decide), b_Desk_version⟩ propT_nil))))
  have P_order : PropT l.prog w K mg base 2 "order" T_order := (propT_cons ⟨C_Desk, _, _, _, aC_Desk, cl_Desk, ⟨fD_Desk_order, pG_Desk_order, pT_Desk_order, _, pR_Desk_order⟩, F_Desk_order.mono (by decide), b_Desk_order⟩ (propT_cons ⟨C_SimpleDesk, _, _, _, aC_SimpleDesk, cl_SimpleDesk, ⟨fD_SimpleDesk_order, pG_Desk_order, pT_Desk_order, _, pR_Desk_order⟩, F_Desk_order.mono (by decide), b_Desk_order⟩ (propT_cons ⟨C_LoggedDesk, _, _, _, aC_LoggedDesk, cl_LoggedDesk, ⟨fD_LoggedDesk_order, pG_Desk_order, pT_Desk_order, _, pR_Desk_order⟩, F_Desk_order.mono (by decide), b_Desk_order⟩ (propT_cons ⟨C_LoggedSimpleDesk, _, _, _, aC_LoggedSimpleDesk, cl_LoggedSimpleDesk, ⟨fD_LoggedSimpleDesk_order, pG_Desk_order, pT_Desk_order, _, pR_Desk_order⟩, F_Desk_order.mono (by decide), b_Desk_order⟩ propT_nil))))
  have P_word : PropT l.prog w K mg base 1 "word" T_word := (propT_cons ⟨C_Desk, _, _, _, aC_Desk, cl_Desk, ⟨fD_Desk_word, pG_Desk_word, pT_Desk_word, _, pR_Desk_word⟩, F_Desk_word.mono (by decide), b_Desk_word⟩ (propT_cons ⟨C_SimpleDesk, _, _, _, aC_SimpleDesk, cl_SimpleDesk, ⟨fD_SimpleDesk_word, pG_Desk_word, pT_Desk_word, _, pR_Desk_word⟩, F_Desk_word.mono (by decide), b_Desk_word⟩ (propT_cons ⟨C_LoggedDesk, _, _, _, aC_LoggedDesk, cl_LoggedDesk, ⟨fD_LoggedDesk_word, pG_Desk_word, pT_Desk_word, _, pR_Desk_word⟩, F_Desk_word.mono (by decide), b_Desk_word⟩ (propT_cons ⟨C_LoggedSimpleDesk, _, _, _, aC_LoggedSimpleDesk, cl_LoggedSimpleDesk, ⟨fD_LoggedSimpleDesk_word, pG_Desk_word, pT_Desk_word, _, pR_Desk_word⟩, F_Desk_word.mono (by decide), b_Desk_word⟩ propT_nil))))
  have F_l_seen := ok_l_seen (P := l.prog) (w := w) (base := base) F19 g19 M_str M_len M_edits P_version P_order P_word m_len m_repr m_str m_sm p_l_seen
  have F_l_start := ok_l_start (P := l.prog) (w := w) (base := base) F21 g21 F_l_word F_l_is_simple m_len p_l_start
  have U_LoggedDesk_init : SupT l.prog w K mg base 4 "LoggedDesk" "__init__" ["self", "word"] TU_LoggedDesk_init := (supT_cons ⟨C_LoggedDesk, C_LoggedDesk, _, _, aC_LoggedDesk, aC_LoggedDesk, mr_LoggedDesk_LoggedDesk, su_LoggedDesk_LoggedDesk_init, tM_Desk_init, fI_Desk_init, op_, F_Desk_init.mono (by decide), b_Desk_init⟩ (supT_cons ⟨C_LoggedDesk, C_LoggedSimpleDesk, _, _, aC_LoggedDesk, aC_LoggedSimpleDesk, mr_LoggedSimpleDesk_LoggedDesk, su_LoggedSimpleDesk_LoggedDesk_init, tM_Desk_init, fI_Desk_init, op_, F_Desk_init.mono (by decide), b_Desk_init⟩ supT_nil))
  have F_LoggedDesk_init := ok_LoggedDesk_init (P := l.prog) (w := w) (mg := mg) (base := base) FM_LoggedDesk_init U_LoggedDesk_init m_super fi_LoggedSimpleDesk_rows fi_LoggedDesk_rows p_LoggedDesk_init
  have b_LoggedDesk_init := FM_LoggedDesk_init.binds (ps := ["self", "word"]) fun _ _ _ _ _ _ us hl => match us, hl with | [_, _], _ => rfl
  have Q_parse_word := F_parse_word.lq
  have V_init : MakeT l.prog w K mg base 5 ["self", "word"] TV_init := (makeT_cons ⟨C_Desk, _, _, aC_Desk, PySem.W.mg_of X G aC_Desk, ⟨mk_Desk, fD_Desk_init, iF_Desk_init, kc_Desk⟩, F_Desk_init.mono (by decide), b_Desk_init⟩ (makeT_cons ⟨C_SimpleDesk, _, _, aC_SimpleDesk, PySem.W.mg_of X G aC_SimpleDesk, ⟨mk_SimpleDesk, fD_SimpleDesk_init, iF_Desk_init, kc_SimpleDesk⟩, F_Desk_init.mono (by decide), b_Desk_init⟩ (makeT_cons ⟨C_LoggedDesk, _, _, aC_LoggedDesk, PySem.W.mg_of X G aC_LoggedDesk, ⟨mk_LoggedDesk, fD_LoggedDesk_init, iF_LoggedDesk_init, kc_LoggedDesk⟩, F_LoggedDesk_init.mono (by decide), b_LoggedDesk_init⟩ (makeT_cons ⟨C_LoggedSimpleDesk, _, _, aC_LoggedSimpleDesk, PySem.W.mg_of X G aC_LoggedSimpleDesk, ⟨mk_LoggedSimpleDesk, fD_LoggedSimpleDesk_init, iF_LoggedDesk_init, kc_LoggedSimpleDesk⟩, F_LoggedDesk_init.mono (by decide), b_LoggedDesk_init⟩ makeT_nil))))
  have F_Desk_read := ok_Desk_read (P := l.prog) (w := w) (mg := mg) (base := base) FM_Desk_read Q_parse_word V_init p_Desk_read
  have b_Desk_read := FM_Desk_read.binds (ps := ["cls", "text"]) fun _ _ _ _ _ _ us hl => match us, hl with | [_, _], _ => rfl
  have C_read : CmT l.prog w K mg base 7 "read" ["cls", "text"] TC_read := (cmT_cons ⟨C_Desk, .type "type", cj_Desk_read, _, _, aC_Desk, ⟨jr_Desk, jg_Desk⟩, ⟨jA_Desk_read, ⟨_, jR_Desk_read⟩, fI_Desk_read⟩, F_Desk_read.mono (by decide), b_Desk_read⟩ (cmT_cons ⟨C_SimpleDesk, .type "type", cj_Desk_read, _, _, aC_SimpleDesk, ⟨jr_SimpleDesk, jg_SimpleDesk⟩, ⟨jA_SimpleDesk_read, ⟨_, jR_Desk_read⟩, fI_Desk_read⟩, F_Desk_read.mono (by decide), b_Desk_read⟩ (cmT_cons ⟨C_LoggedDesk, .type "type", cj_Desk_read, _, _, aC_LoggedDesk, ⟨jr_LoggedDesk, jg_LoggedDesk⟩, ⟨jA_LoggedDesk_read, ⟨_, jR_Desk_read⟩, fI_Desk_read⟩, F_Desk_read.mono (by decide), b_Desk_read⟩ (cmT_cons ⟨C_LoggedSimpleDesk, .type "type", cj_Desk_read, _, _, aC_LoggedSimpleDesk, ⟨jr_LoggedSimpleDesk, jg_LoggedSimpleDesk⟩, ⟨jA_LoggedSimpleDesk_read, ⟨_, jR_Desk_read⟩, fI_Desk_read⟩, F_Desk_read.mono (by decide), b_Desk_read⟩ cmT_nil))))
  have F_l_read := ok_l_read (P := l.prog) (w := w) (base := base) F23 g23 C_read cn_Desk cn_SimpleDesk cn_LoggedDesk cn_LoggedSimpleDesk p_l_read
  have Q_l_field := F_l_field.lq
  have Q_l_name := F_l_name.lq
  have P_log : PropT l.prog w K mg base 1 "log" T_log := (propT_cons ⟨C_LoggedDesk, _, _, _, aC_LoggedDesk, cl_LoggedDesk, ⟨fD_LoggedDesk_log, pG_LoggedDesk_log, pT_LoggedDesk_log, _, pR_LoggedDesk_log⟩, F_LoggedDesk_log.mono (by decide), b_LoggedDesk_log⟩ (propT_cons ⟨C_LoggedSimpleDesk, _, _, _, aC_LoggedSimpleDesk, cl_LoggedSimpleDesk, ⟨fD_LoggedSimpleDesk_log, pG_LoggedDesk_log, pT_LoggedDesk_log, _, pR_LoggedDesk_log⟩, F_LoggedDesk_log.mono (by decide), b_LoggedDesk_log⟩ propT_nil))
  have G_walk : MethGT l.prog w K mg base 1 "walk" ["self"] TG_walk := (methGT_cons ⟨C_Desk, _, _, aC_Desk, cl_Desk, ⟨fD_Desk_walk, iF_Desk_walk, kM_Desk_walk⟩, F_Desk_walk, b_Desk_walk⟩ (methGT_cons ⟨C_SimpleDesk, _, _, aC_SimpleDesk, cl_SimpleDesk, ⟨fD_SimpleDesk_walk, iF_Desk_walk, kM_Desk_walk⟩, F_Desk_walk, b_Desk_walk⟩ (methGT_cons ⟨C_LoggedDesk, _, _, aC_LoggedDesk, cl_LoggedDesk, ⟨fD_LoggedDesk_walk, iF_Desk_walk, kM_Desk_walk⟩, F_Desk_walk, b_Desk_walk⟩ (methGT_cons ⟨C_LoggedSimpleDesk, _, _, aC_LoggedSimpleDesk, cl_LoggedSimpleDesk, ⟨fD_LoggedSimpleDesk_walk, iF_Desk_walk, kM_Desk_walk⟩, F_Desk_walk, b_Desk_walk⟩ methGT_nil))))
  have P_pattern : PropT l.prog w K mg base 1 "pattern" T_pattern := (propT_cons ⟨C_Desk, _, _, _, aC_Desk, cl_Desk, ⟨fD_Desk_pattern, pG_Desk_pattern, pT_Desk_pattern, _, pR_Desk_pattern⟩, F_Desk_pattern.mono (by decide), b_Desk_pattern⟩ (propT_cons ⟨C_SimpleDesk, _, _, _, aC_SimpleDesk, cl_SimpleDesk, ⟨fD_SimpleDesk_pattern, pG_Desk_pattern, pT_Desk_pattern, _, pR_Desk_pattern⟩, F_Desk_pattern.mono (by decide), b_Desk_pattern⟩ (propT_cons ⟨C_LoggedDesk, _, _, _, aC_LoggedDesk, cl_LoggedDesk, ⟨fD_LoggedDesk_pattern, pG_Desk_pattern, pT_Desk_pattern, _, pR_Desk_pattern⟩, F_Desk_pattern.mono (by decide), b_Desk_pattern⟩ (propT_cons ⟨C_LoggedSimpleDesk, _, _, _, aC_LoggedSimpleDesk, cl_LoggedSimpleDesk, ⟨fD_LoggedSimpleDesk_pattern, pG_Desk_pattern, pT_Desk_pattern, _, pR_Desk_pattern⟩, F_Desk_pattern.mono (by decide), b_Desk_pattern⟩ propT_nil))))
  have F_l_told := ok_l_told (P := l.prog) (w := w) (base := base) F24 g24 F_l_read Q_l_field Q_l_name F_l_seen P_log G_walk P_pattern m_isinstance m_list xs_NotSimple_TailError xs_TooManyEdits_TailError xs_Busy_TailError xs_LastLetter_TailError xs_TooLong_TailError xs_BadWord_TailError xs_BadLetter_TailError xs_BadText_TailError xs_NoPlace_TailError ki_LoggedDesk ki_SimpleDesk ki_Desk p_l_told
  have Q_l_start := F_l_start.lq
  have Q_l_word := F_l_word.lq
  have Q_l_odd := F_l_odd.lq
  have Q_l_spoilt := F_l_spoilt.lq
  have Q_l_expected := F_l_expected.lq
  exact ok_law (P := l.prog) (w := w) (base := base) F26 FS g9 k9 bs Q_l_start Q_l_word Q_l_odd Q_l_spoilt F_l_told Q_l_expected m_range m_repr m_sm p_law
end LW
def PySem.W.Fast.tw17125708431167344632 : Unit := ()
def PySem.W.Fast.tw15351798877360257735 : Unit := ()
def PySem.W.Fast.tw14318664293811329388 : Unit := ()
def PySem.W.Fast.tw61729819558561014 : Unit := ()
def PySem.W.Fast.tw9548247065355249957 : Unit := ()
def PySem.W.Fast.tw14904600267864459423 : Unit := ()
def PySem.W.Fast.tw635249658776032368 : Unit := ()
def PySem.W.Fast.tw11674406896965574476 : Unit := ()
def PySem.W.Fast.tw1801517806030106717 : Unit := ()
def PySem.W.Fast.tw3454449518178373042 : Unit := ()
def PySem.W.Fast.tw2392534036379687493 : Unit := ()
def PySem.W.Fast.tw12132917567864355617 : Unit := ()
def PySem.W.Fast.tw10266095107975399841 : Unit := ()
def PySem.W.Fast.tw5324768942548497306 : Unit := ()
def PySem.W.Fast.tw10243361951806638156 : Unit := ()
def PySem.W.Fast.tw14762569659218911007 : Unit := ()
def PySem.W.Fast.tw11235590931503559782 : Unit := ()
def PySem.W.Fast.tw12307811883866995469 : Unit := ()
def PySem.W.Fast.tw8837123291243920653 : Unit := ()
def PySem.W.Fast.tw2412659618413635981 : Unit := ()
def PySem.W.Fast.tw9782002951283277436 : Unit := ()
def PySem.W.Fast.tw2123454751705016013 : Unit := ()
def PySem.W.Fast.tw17680717906331252249 : Unit := ()
def PySem.W.Fast.tw6725721304037951980 : Unit := ()
def PySem.W.Fast.tw1796364072699605469 : Unit := ()
def PySem.W.Fast.tw13772392621222912346 : Unit := ()
def PySem.W.Fast.tw10900492497735541056 : Unit := ()
def PySem.W.Fast.tw13178232357102082898 : Unit := ()
def PySem.W.Fast.tw10042925735605265073 : Unit := ()
def PySem.W.Fast.tw17848750597445178719 : Unit := ()
def PySem.W.Fast.tw2884217557327844383 : Unit := ()
def PySem.W.Fast.tw15404801497752025810 : Unit := ()
def PySem.W.Fast.tw12496314620727757186 : Unit := ()
open PySem PySem.W PyProof.Rows
set_option maxHeartbeats 0 in
theorem PySem.Challenge.cw_tailranks_k83_desks_read_holds : PySem.Challenge.rw_tailranks_k83_desks_read.Holds := by
  w_on; o_law; k_head; (case hw => w_witness2)
  k_fill
  refine DL.walkG (l := PySem.Challenge.rw_tailranks_k83_desks_read) (n := 63) (k := 10) (x := "_law_script") (sp := fun w => DL.spLaw _) rfl (by decide +kernel) (by decide) rfl ⟨rfl, by decide, by decide⟩ (fun w h Y => PySem.W.kIn_of Y) ?F (fun _ _ a ns hl hS => ⟨a, ns, rfl, hS, hl, fun _ => rfl⟩)
  case F =>
    intro w mg fa h KX G hmg
    refine' LW.all_mk KX G hmg ?a1 ?l1 ?c1 ?k1 ?a2 ?l2 ?c2 ?k2 ?a3 ?l3 ?c3 ?k3 ?a4 ?l4 ?c4 ?k4 ?a5 ?l5 ?c5 ?k5 ?a6 ?l6 ?c6 ?k6 ?a7 ?l7 ?c7 ?k7 ?a8 ?l8 ?c8 ?k8 ?a9 ?l9 ?c9 ?k9 ?a10 ?l10 ?c10 ?k10 ?a11 ?l11 ?c11 ?k11 ?a12 ?l12 ?c12 ?k12 ?a13 ?l13 ?c13 ?k13 ?a14 ?l14 ?c14 ?k14 ?a15 ?l15 ?c15 ?k15 ?a16 ?l16 ?c16 ?k16 ?a17 ?l17 ?c17 ?k17 ?a18 ?l18 ?c18 ?k18 ?a19 ?l19 ?c19 ?k19 ?a20 ?l20 ?c20 ?k20 ?a21 ?l21 ?c21 ?k21 ?a22 ?l22 ?c22 ?k22 ?a23 ?l23 ?c23 ?k23 ?a24 ?l24 ?c24 ?k24 ?a25 ?l25 ?c25 ?k25 ?a26 ?l26 ?c26 ?k26 ?z1 ?z2 ?z3 ?z4 ?z5 ?z6 ?z7 ?z8 ?z9 ?z10 ?z11 ?z12 ?z13 ?z14 ?z15 ?y1 ?y2 ?y3 ?aC_BadText ?aC_BadWord ?aC_NotSimple ?aC_BadLetter ?aC_TooManyEdits ?aC_Busy ?aC_LastLetter ?aC_TooLong ?aC_NoPlace ?aC_BadEdits ?aC_BadEdit ?aC_NothingToUndo ?aC_Rejected ?aC_NoVersion ?aC_NoIndex ?aC_TailError ?aC_Desk ?pg_Desk ?hd_Desk ?po_Desk ?sA_Desk ?aC_SimpleDesk ?pg_SimpleDesk ?hd_SimpleDesk ?po_SimpleDesk ?sA_SimpleDesk ?aC_LoggedDesk ?pg_LoggedDesk ?hd_LoggedDesk ?po_LoggedDesk ?sA_LoggedDesk ?aC_LoggedSimpleDesk ?pg_LoggedSimpleDesk ?hd_LoggedSimpleDesk ?po_LoggedSimpleDesk ?sA_LoggedSimpleDesk ?fD_Desk_accept ?fD_SimpleDesk_accept ?fD_LoggedDesk_accept ?fD_LoggedSimpleDesk_accept ?fD_Desk_str ?fD_SimpleDesk_str ?fD_LoggedDesk_str ?fD_LoggedSimpleDesk_str ?fD_Desk_len ?fD_SimpleDesk_len ?fD_LoggedDesk_len ?fD_LoggedSimpleDesk_len ?fD_Desk_edits ?fD_SimpleDesk_edits ?fD_LoggedDesk_edits ?fD_LoggedSimpleDesk_edits ?fD_Desk_version ?pG_Desk_version ?pT_Desk_version ?pR_Desk_version ?fD_SimpleDesk_version ?fD_LoggedDesk_version ?fD_LoggedSimpleDesk_version ?fD_Desk_order ?pG_Desk_order ?pT_Desk_order ?pR_Desk_order ?fD_SimpleDesk_order ?fD_LoggedDesk_order ?fD_LoggedSimpleDesk_order ?fD_Desk_word ?pG_Desk_word ?pT_Desk_word ?pR_Desk_word ?fD_SimpleDesk_word ?fD_LoggedDesk_word ?fD_LoggedSimpleDesk_word ?mr_LoggedDesk_LoggedDesk ?su_LoggedDesk_LoggedDesk_init ?fI_Desk_init ?op_ ?mr_LoggedSimpleDesk_LoggedDesk ?su_LoggedSimpleDesk_LoggedDesk_init ?fD_Desk_init ?mk_Desk ?kc_Desk ?fD_SimpleDesk_init ?mk_SimpleDesk ?kc_SimpleDesk ?fD_LoggedDesk_init ?mk_LoggedDesk ?kc_LoggedDesk ?fD_LoggedSimpleDesk_init ?mk_LoggedSimpleDesk ?kc_LoggedSimpleDesk ?jr_Desk ?jg_Desk ?jA_Desk_read ?jR_Desk_read ?fI_Desk_read ?jr_SimpleDesk ?jg_SimpleDesk ?jA_SimpleDesk_read ?jr_LoggedDesk ?jg_LoggedDesk ?jA_LoggedDesk_read ?jr_LoggedSimpleDesk ?jg_LoggedSimpleDesk ?jA_LoggedSimpleDesk_read ?fD_LoggedDesk_log ?pG_LoggedDesk_log ?pT_LoggedDesk_log ?pR_LoggedDesk_log ?fD_LoggedSimpleDesk_log ?fD_Desk_walk ?fD_SimpleDesk_walk ?fD_LoggedDesk_walk ?fD_LoggedSimpleDesk_walk ?fD_Desk_pattern ?pG_Desk_pattern ?pT_Desk_pattern ?pR_Desk_pattern ?fD_SimpleDesk_pattern ?fD_LoggedDesk_pattern ?fD_LoggedSimpleDesk_pattern ?lM_Desk_init ?cM_Desk_init ?kM_Desk_init ?tM_Desk_init ?lM_Desk_read ?cM_Desk_read ?kM_Desk_read ?lM_Desk_word ?cM_Desk_word ?kM_Desk_word ?lM_Desk_order ?cM_Desk_order ?kM_Desk_order ?lM_Desk_version ?cM_Desk_version ?kM_Desk_version ?lM_Desk_pattern ?cM_Desk_pattern ?kM_Desk_pattern ?lM_Desk_accept ?cM_Desk_accept ?kM_Desk_accept ?tM_Desk_accept ?lM_Desk_edits ?cM_Desk_edits ?kM_Desk_edits ?tM_Desk_edits ?lM_Desk_walk ?cM_Desk_walk ?kM_Desk_walk ?tM_Desk_walk ?lM_Desk_len ?cM_Desk_len ?kM_Desk_len ?tM_Desk_len ?lM_Desk_str ?cM_Desk_str ?kM_Desk_str ?tM_Desk_str ?lM_SimpleDesk_accept ?cM_SimpleDesk_accept ?kM_SimpleDesk_accept ?tM_SimpleDesk_accept ?lM_LoggedDesk_init ?cM_LoggedDesk_init ?kM_LoggedDesk_init ?lQ_LoggedDesk_init ?vQ_LoggedDesk_init ?fQ_LoggedDesk_init ?lC_LoggedDesk_init ?dC_LoggedDesk ?tP_ ?tM_LoggedDesk_init ?lM_LoggedDesk_log ?cM_LoggedDesk_log ?kM_LoggedDesk_log ?ga_BadText ?gg_BadText ?eb_BadText ?hd_BadText ?kc_BadText ?ty_BadText ?xL_BadText ?te_BadText ?sa_BadText ?tk_BadText ?iC_BadText ?tI_BadText ?lI_BadText ?cI_BadText ?ga_BadWord ?gg_BadWord ?eb_BadWord ?hd_BadWord ?kc_BadWord ?ty_BadWord ?xL_BadWord ?te_BadWord ?sa_BadWord ?tk_BadWord ?iC_BadWord ?tI_BadWord ?lI_BadWord ?cI_BadWord ?ga_NotSimple ?gg_NotSimple ?eb_NotSimple ?hd_NotSimple ?ha_NotSimple ?hm_NotSimple ?hn_ ?ht_ ?sb_NotSimple_BadLetter ?sb_NotSimple_NotSimple ?eb_BadLetter ?hd_BadLetter ?ty_BadLetter ?ga_TooManyEdits ?gg_TooManyEdits ?eb_TooManyEdits ?hd_TooManyEdits ?ha_TooManyEdits ?hm_TooManyEdits ?sb_TooManyEdits_BadLetter ?sb_TooManyEdits_TooManyEdits ?ga_Busy ?gg_Busy ?eb_Busy ?hd_Busy ?ha_Busy ?hm_Busy ?sb_Busy_BadLetter ?sb_Busy_Busy ?ga_LastLetter ?gg_LastLetter ?eb_LastLetter ?hd_LastLetter ?ha_LastLetter ?hm_LastLetter ?sb_LastLetter_BadLetter ?sb_LastLetter_LastLetter ?ga_TooLong ?gg_TooLong ?eb_TooLong ?hd_TooLong ?ha_TooLong ?hm_TooLong ?sb_TooLong_BadLetter ?sb_TooLong_TooLong ?ha_BadWord ?hm_BadWord ?sb_BadWord_BadLetter ?sb_BadWord_BadWord ?ga_BadLetter ?gg_BadLetter ?ha_BadLetter ?hm_BadLetter ?sb_BadLetter_BadLetter ?ha_BadText ?hm_BadText ?sb_BadText_BadLetter ?sb_BadText_BadText ?ga_NoPlace ?gg_NoPlace ?eb_NoPlace ?hd_NoPlace ?ha_NoPlace ?hm_NoPlace ?sb_NoPlace_BadLetter ?sb_NoPlace_NoPlace ?sb_NotSimple_BadEdits ?eb_BadEdits ?hd_BadEdits ?ty_BadEdits ?sb_TooManyEdits_BadEdits ?sb_Busy_BadEdits ?sb_LastLetter_BadEdits ?sb_TooLong_BadEdits ?sb_BadWord_BadEdits ?sb_BadLetter_BadEdits ?sb_BadText_BadEdits ?sb_NoPlace_BadEdits ?sb_NotSimple_BadEdit ?eb_BadEdit ?hd_BadEdit ?ty_BadEdit ?sb_TooManyEdits_BadEdit ?sb_Busy_BadEdit ?sb_LastLetter_BadEdit ?sb_TooLong_BadEdit ?sb_BadWord_BadEdit ?sb_BadLetter_BadEdit ?sb_BadText_BadEdit ?sb_NoPlace_BadEdit ?sb_NotSimple_Busy ?ty_Busy ?sb_TooManyEdits_Busy ?sb_LastLetter_Busy ?sb_TooLong_Busy ?sb_BadWord_Busy ?sb_BadLetter_Busy ?sb_BadText_Busy ?sb_NoPlace_Busy ?sb_NotSimple_BadWord ?sb_TooManyEdits_BadWord ?sb_Busy_BadWord ?sb_LastLetter_BadWord ?sb_TooLong_BadWord ?sb_BadLetter_BadWord ?sb_BadText_BadWord ?sb_NoPlace_BadWord ?sb_NotSimple_BadText ?sb_TooManyEdits_BadText ?sb_Busy_BadText ?sb_LastLetter_BadText ?sb_TooLong_BadText ?sb_BadWord_BadText ?sb_BadLetter_BadText ?sb_NoPlace_BadText ?sb_NotSimple_NothingToUndo ?eb_NothingToUndo ?hd_NothingToUndo ?ty_NothingToUndo ?sb_TooManyEdits_NothingToUndo ?sb_Busy_NothingToUndo ?sb_LastLetter_NothingToUndo ?sb_TooLong_NothingToUndo ?sb_BadWord_NothingToUndo ?sb_BadLetter_NothingToUndo ?sb_BadText_NothingToUndo ?sb_NoPlace_NothingToUndo ?ty_NotSimple ?sb_TooManyEdits_NotSimple ?sb_Busy_NotSimple ?sb_LastLetter_NotSimple ?sb_TooLong_NotSimple ?sb_BadWord_NotSimple ?sb_BadLetter_NotSimple ?sb_BadText_NotSimple ?sb_NoPlace_NotSimple ?sb_NotSimple_LastLetter ?ty_LastLetter ?sb_TooManyEdits_LastLetter ?sb_Busy_LastLetter ?sb_TooLong_LastLetter ?sb_BadWord_LastLetter ?sb_BadLetter_LastLetter ?sb_BadText_LastLetter ?sb_NoPlace_LastLetter ?sb_NotSimple_TooManyEdits ?ty_TooManyEdits ?sb_Busy_TooManyEdits ?sb_LastLetter_TooManyEdits ?sb_TooLong_TooManyEdits ?sb_BadWord_TooManyEdits ?sb_BadLetter_TooManyEdits ?sb_BadText_TooManyEdits ?sb_NoPlace_TooManyEdits ?sb_NotSimple_TooLong ?ty_TooLong ?sb_TooManyEdits_TooLong ?sb_Busy_TooLong ?sb_LastLetter_TooLong ?sb_BadWord_TooLong ?sb_BadLetter_TooLong ?sb_BadText_TooLong ?sb_NoPlace_TooLong ?sb_NotSimple_Rejected ?eb_Rejected ?hd_Rejected ?ty_Rejected ?sb_TooManyEdits_Rejected ?sb_Busy_Rejected ?sb_LastLetter_Rejected ?sb_TooLong_Rejected ?sb_BadWord_Rejected ?sb_BadLetter_Rejected ?sb_BadText_Rejected ?sb_NoPlace_Rejected ?sb_NotSimple_NoVersion ?eb_NoVersion ?hd_NoVersion ?ty_NoVersion ?sb_TooManyEdits_NoVersion ?sb_Busy_NoVersion ?sb_LastLetter_NoVersion ?sb_TooLong_NoVersion ?sb_BadWord_NoVersion ?sb_BadLetter_NoVersion ?sb_BadText_NoVersion ?sb_NoPlace_NoVersion ?sb_NotSimple_NoPlace ?ty_NoPlace ?sb_TooManyEdits_NoPlace ?sb_Busy_NoPlace ?sb_LastLetter_NoPlace ?sb_TooLong_NoPlace ?sb_BadWord_NoPlace ?sb_BadLetter_NoPlace ?sb_BadText_NoPlace ?sb_NotSimple_NoIndex ?eb_NoIndex ?hd_NoIndex ?ty_NoIndex ?sb_TooManyEdits_NoIndex ?sb_Busy_NoIndex ?sb_LastLetter_NoIndex ?sb_TooLong_NoIndex ?sb_BadWord_NoIndex ?sb_BadLetter_NoIndex ?sb_BadText_NoIndex ?sb_NoPlace_NoIndex ?sb_NotSimple_LookupError ?sx_LookupError ?sb_TooManyEdits_LookupError ?sb_Busy_LookupError ?sb_LastLetter_LookupError ?sb_TooLong_LookupError ?sb_BadWord_LookupError ?sb_BadLetter_LookupError ?sb_BadText_LookupError ?sb_NoPlace_LookupError ?sb_NotSimple_ValueError ?sx_ValueError ?sb_TooManyEdits_ValueError ?sb_Busy_ValueError ?sb_LastLetter_ValueError ?sb_TooLong_ValueError ?sb_BadWord_ValueError ?sb_BadLetter_ValueError ?sb_BadText_ValueError ?sb_NoPlace_ValueError ?sb_NotSimple_TailError ?eb_TailError ?hd_TailError ?ty_TailError ?sb_TooManyEdits_TailError ?sb_Busy_TailError ?sb_LastLetter_TailError ?sb_TooLong_TailError ?sb_BadWord_TailError ?sb_BadLetter_TailError ?sb_BadText_TailError ?sb_NoPlace_TailError ?nf_BadLetter_value ?nf_NoPlace_value ?nf_BadText_index ?nf_NotSimple_place ?nf_TooLong_limit ?nf_BadWord_error ?ha_LoggedSimpleDesk ?hm_LoggedSimpleDesk ?kb_LoggedSimpleDesk_LoggedDesk ?ha_LoggedDesk ?hm_LoggedDesk ?kb_LoggedDesk_LoggedDesk ?ha_SimpleDesk ?hm_SimpleDesk ?kb_SimpleDesk_LoggedDesk ?ha_Desk ?hm_Desk ?kb_Desk_LoggedDesk ?kt_LoggedDesk_dict ?kt_LoggedDesk_tuple ?kt_LoggedDesk_list ?kt_LoggedDesk_str ?kt_LoggedDesk_int ?kt_LoggedDesk_bool ?kt_LoggedDesk_NoneType ?kb_LoggedSimpleDesk_SimpleDesk ?kb_LoggedDesk_SimpleDesk ?kb_SimpleDesk_SimpleDesk ?kb_Desk_SimpleDesk ?kt_SimpleDesk_dict ?kt_SimpleDesk_tuple ?kt_SimpleDesk_list ?kt_SimpleDesk_str ?kt_SimpleDesk_int ?kt_SimpleDesk_bool ?kt_SimpleDesk_NoneType ?kb_LoggedSimpleDesk_Desk ?kb_LoggedDesk_Desk ?kb_SimpleDesk_Desk ?kb_Desk_Desk ?kt_Desk_dict ?kt_Desk_tuple ?kt_Desk_list ?kt_Desk_str ?kt_Desk_int ?kt_Desk_bool ?kt_Desk_NoneType ?nf_LoggedSimpleDesk_now ?nf_LoggedDesk_now ?nf_SimpleDesk_now ?nf_Desk_now ?nf_LoggedSimpleDesk_states ?nf_LoggedDesk_states ?nf_SimpleDesk_states ?nf_Desk_states ?nf_LoggedSimpleDesk_done ?nf_LoggedDesk_done ?nf_SimpleDesk_done ?nf_Desk_done ?nf_LoggedSimpleDesk_wanted ?nf_LoggedDesk_wanted ?nf_SimpleDesk_wanted ?nf_Desk_wanted ?nf_LoggedSimpleDesk_is_busy ?nf_LoggedDesk_is_busy ?nf_SimpleDesk_is_busy ?nf_Desk_is_busy ?kc_NotSimple ?xL_NotSimple ?te_NotSimple ?sa_NotSimple ?tk_NotSimple ?iC_NotSimple ?tI_NotSimple ?lI_NotSimple ?cI_NotSimple ?nf_LoggedSimpleDesk_rows ?nf_LoggedDesk_rows
    (case a1 => k_is); (case l1 => k_is); (case c1 => k_is); (case k1 => k_is); (case a2 => k_is); (case l2 => k_is); (case c2 => k_is); (case k2 => k_is); (case a3 => k_is); (case l3 => k_is); (case c3 => k_is); (case k3 => k_is); (case a4 => k_is); (case l4 => k_is); (case c4 => k_is); (case k4 => k_is); (case a5 => k_is); (case l5 => k_is); (case c5 => k_is); (case k5 => k_is); (case a6 => k_is); (case l6 => k_is); (case c6 => k_is); (case k6 => k_is); (case a7 => k_is); (case l7 => k_is); (case c7 => k_is); (case k7 => k_is); (case a8 => k_is); (case l8 => k_is); (case c8 => k_is); (case k8 => k_is); (case a9 => k_is); (case l9 => k_is); (case c9 => k_is); (case k9 => k_is); (case a10 => k_is); (case l10 => k_is); (case c10 => k_is); (case k10 => k_is); (case a11 => k_is); (case l11 => k_is); (case c11 => k_is); (case k11 => k_is); (case a12 => k_is); (case l12 => k_is); (case c12 => k_is); (case k12 => k_is); (case a13 => k_is); (case l13 => k_is); (case c13 => k_is); (case k13 => k_is); (case a14 => k_is); (case l14 => k_is); (case c14 => k_is); (case k14 => k_is); (case a15 => k_is); (case l15 => k_is); (case c15 => k_is); (case k15 => k_is); (case a16 => k_is); (case l16 => k_is); (case c16 => k_is); (case k16 => k_is); (case a17 => k_is); (case l17 => k_is); (case c17 => k_is); (case k17 => k_is); (case a18 => k_is); (case l18 => k_is); (case c18 => k_is); (case k18 => k_is); (case a19 => k_is); (case l19 => k_is); (case c19 => k_is); (case k19 => k_is); (case a20 => k_is); (case l20 => k_is); (case c20 => k_is); (case k20 => k_is); (case a21 => k_is); (case l21 => k_is); (case c21 => k_is); (case k21 => k_is); (case a22 => k_is); (case l22 => k_is); (case c22 => k_is); (case k22 => k_is); (case a23 => k_is); (case l23 => k_is); (case c23 => k_is); (case k23 => k_is); (case a24 => k_is); (case l24 => k_is); (case c24 => k_is); (case k24 => k_is); (case a25 => k_is); (case l25 => k_is); (case c25 => k_is); (case k25 => k_is); (case a26 => k_is); (case l26 => k_is); (case c26 => k_is); (case k26 => k_is); (case z1 => k_is); (case z2 => k_is); (case z3 => k_is); (case z4 => k_is); (case z5 => k_is); (case z6 => k_is); (case z7 => k_is); (case z8 => k_is); (case z9 => k_is); (case z10 => k_is); (case z11 => k_is); (case z12 => k_is); (case z13 => k_is); (case z14 => k_is); (case z15 => k_is); (case y1 => k_is); (case y2 => k_is); (case y3 => k_is); (case aC_BadText => k_is); (case aC_BadWord => k_is); (case aC_NotSimple => k_is); (case aC_BadLetter => k_is); (case aC_TooManyEdits => k_is); (case aC_Busy => k_is); (case aC_LastLetter => k_is); (case aC_TooLong => k_is); (case aC_NoPlace => k_is); (case aC_BadEdits => k_is); (case aC_BadEdit => k_is); (case aC_NothingToUndo => k_is); (case aC_Rejected => k_is); (case aC_NoVersion => k_is); (case aC_NoIndex => k_is); (case aC_TailError => k_is); (case aC_Desk => k_is); (case pg_Desk => k_is); (case hd_Desk => k_is); (case po_Desk => k_is); (case sA_Desk => k_is); (case aC_SimpleDesk => k_is); (case pg_SimpleDesk => k_is); (case hd_SimpleDesk => k_is); (case po_SimpleDesk => k_is); (case sA_SimpleDesk => k_is); (case aC_LoggedDesk => k_is); (case pg_LoggedDesk => k_is); (case hd_LoggedDesk => k_is); (case po_LoggedDesk => k_is); (case sA_LoggedDesk => k_is); (case aC_LoggedSimpleDesk => k_is); (case pg_LoggedSimpleDesk => k_is); (case hd_LoggedSimpleDesk => k_is); (case po_LoggedSimpleDesk => k_is); (case sA_LoggedSimpleDesk => k_is); (case fD_Desk_accept => k_is); (case fD_SimpleDesk_accept => k_is); (case fD_LoggedDesk_accept => k_is); (case fD_LoggedSimpleDesk_accept => k_is); (case fD_Desk_str => k_is); (case fD_SimpleDesk_str => k_is); (case fD_LoggedDesk_str => k_is); (case fD_LoggedSimpleDesk_str => k_is); (case fD_Desk_len => k_is); (case fD_SimpleDesk_len => k_is); (case fD_LoggedDesk_len => k_is); (case fD_LoggedSimpleDesk_len => k_is); (case fD_Desk_edits => k_is); (case fD_SimpleDesk_edits => k_is); (case fD_LoggedDesk_edits => k_is); (case fD_LoggedSimpleDesk_edits => k_is); (case fD_Desk_version => k_is); (case pG_Desk_version => k_is); (case pT_Desk_version => k_is); (case pR_Desk_version => k_is); (case fD_SimpleDesk_version => k_is); (case fD_LoggedDesk_version => k_is); (case fD_LoggedSimpleDesk_version => k_is); (case fD_Desk_order => k_is); (case pG_Desk_order => k_is); (case pT_Desk_order => k_is); (case pR_Desk_order => k_is); (case fD_SimpleDesk_order => k_is); (case fD_LoggedDesk_order => k_is); (case fD_LoggedSimpleDesk_order => k_is); (case fD_Desk_word => k_is); (case pG_Desk_word => k_is); (case pT_Desk_word => k_is); (case pR_Desk_word => k_is); (case fD_SimpleDesk_word => k_is); (case fD_LoggedDesk_word => k_is); (case fD_LoggedSimpleDesk_word => k_is); (case mr_LoggedDesk_LoggedDesk => k_is); (case su_LoggedDesk_LoggedDesk_init => ks_is); (case fI_Desk_init => k_is); (case op_ => k_is); (case mr_LoggedSimpleDesk_LoggedDesk => k_is); (case su_LoggedSimpleDesk_LoggedDesk_init => ks_is); (case fD_Desk_init => k_is); (case mk_Desk => k_is); (case kc_Desk => k_is); (case fD_SimpleDesk_init => k_is); (case mk_SimpleDesk => k_is); (case kc_SimpleDesk => k_is); (case fD_LoggedDesk_init => k_is); (case mk_LoggedDesk => k_is); (case kc_LoggedDesk => k_is); (case fD_LoggedSimpleDesk_init => k_is); (case mk_LoggedSimpleDesk => k_is); (case kc_LoggedSimpleDesk => k_is); (case jr_Desk => k_is); (case jg_Desk => k_is); (case jA_Desk_read => k_is); (case jR_Desk_read => k_is); (case fI_Desk_read => k_is); (case jr_SimpleDesk => k_is); (case jg_SimpleDesk => k_is); (case jA_SimpleDesk_read => k_is); (case jr_LoggedDesk => k_is); (case jg_LoggedDesk => k_is); (case jA_LoggedDesk_read => k_is); (case jr_LoggedSimpleDesk => k_is); (case jg_LoggedSimpleDesk => k_is); (case jA_LoggedSimpleDesk_read => k_is); (case fD_LoggedDesk_log => k_is); (case pG_LoggedDesk_log => k_is); (case pT_LoggedDesk_log => k_is); (case pR_LoggedDesk_log => k_is); (case fD_LoggedSimpleDesk_log => k_is); (case fD_Desk_walk => k_is); (case fD_SimpleDesk_walk => k_is); (case fD_LoggedDesk_walk => k_is); (case fD_LoggedSimpleDesk_walk => k_is); (case fD_Desk_pattern => k_is); (case pG_Desk_pattern => k_is); (case pT_Desk_pattern => k_is); (case pR_Desk_pattern => k_is); (case fD_SimpleDesk_pattern => k_is); (case fD_LoggedDesk_pattern => k_is); (case fD_LoggedSimpleDesk_pattern => k_is); (case lM_Desk_init => k_is); (case cM_Desk_init => k_is); (case kM_Desk_init => k_is); (case tM_Desk_init => k_is); (case lM_Desk_read => k_is); (case cM_Desk_read => k_is); (case kM_Desk_read => k_is); (case lM_Desk_word => k_is); (case cM_Desk_word => k_is); (case kM_Desk_word => k_is); (case lM_Desk_order => k_is); (case cM_Desk_order => k_is); (case kM_Desk_order => k_is); (case lM_Desk_version => k_is); (case cM_Desk_version => k_is); (case kM_Desk_version => k_is); (case lM_Desk_pattern => k_is); (case cM_Desk_pattern => k_is); (case kM_Desk_pattern => k_is); (case lM_Desk_accept => k_is); (case cM_Desk_accept => k_is); (case kM_Desk_accept => k_is); (case tM_Desk_accept => k_is); (case lM_Desk_edits => k_is); (case cM_Desk_edits => k_is); (case kM_Desk_edits => k_is); (case tM_Desk_edits => k_is); (case lM_Desk_walk => k_is); (case cM_Desk_walk => k_is); (case kM_Desk_walk => k_is); (case tM_Desk_walk => k_is); (case lM_Desk_len => k_is); (case cM_Desk_len => k_is); (case kM_Desk_len => k_is); (case tM_Desk_len => k_is); (case lM_Desk_str => k_is); (case cM_Desk_str => k_is); (case kM_Desk_str => k_is); (case tM_Desk_str => k_is); (case lM_SimpleDesk_accept => k_is); (case cM_SimpleDesk_accept => k_is); (case kM_SimpleDesk_accept => k_is); (case tM_SimpleDesk_accept => k_is); (case lM_LoggedDesk_init => k_is); (case cM_LoggedDesk_init => k_is); (case kM_LoggedDesk_init => k_is); (case lQ_LoggedDesk_init => k_is); (case vQ_LoggedDesk_init => rfl); (case fQ_LoggedDesk_init => first | rfl | decide +kernel); (case lC_LoggedDesk_init => k_is); (case dC_LoggedDesk => k_is); (case tP_ => first | rfl | decide +kernel); (case tM_LoggedDesk_init => k_is); (case lM_LoggedDesk_log => k_is); (case cM_LoggedDesk_log => k_is); (case kM_LoggedDesk_log => k_is); (case ga_BadText => k_is); (case gg_BadText => k_is); (case eb_BadText => k_is); (case hd_BadText => k_is); (case kc_BadText => k_is); (case ty_BadText => k_is); (case xL_BadText => k_is); (case te_BadText => rfl); (case sa_BadText => k_is); (case tk_BadText => k_is); (case iC_BadText => k_is); (case tI_BadText => k_is); (case lI_BadText => k_is); (case cI_BadText => k_is); (case ga_BadWord => k_is); (case gg_BadWord => k_is); (case eb_BadWord => k_is); (case hd_BadWord => k_is); (case kc_BadWord => k_is); (case ty_BadWord => k_is); (case xL_BadWord => k_is); (case te_BadWord => rfl); (case sa_BadWord => k_is); (case tk_BadWord => k_is); (case iC_BadWord => k_is); (case tI_BadWord => k_is); (case lI_BadWord => k_is); (case cI_BadWord => k_is); (case ga_NotSimple => k_is); (case gg_NotSimple => k_is); (case eb_NotSimple => k_is); (case hd_NotSimple => k_is); (case ha_NotSimple => k_is); (case hm_NotSimple => k_is); (case hn_ => k_is); (case ht_ => k_is); (case sb_NotSimple_BadLetter => first | rfl | k_is); (case sb_NotSimple_NotSimple => first | rfl | k_is); (case eb_BadLetter => k_is); (case hd_BadLetter => k_is); (case ty_BadLetter => k_is); (case ga_TooManyEdits => k_is); (case gg_TooManyEdits => k_is); (case eb_TooManyEdits => k_is); (case hd_TooManyEdits => k_is); (case ha_TooManyEdits => k_is); (case hm_TooManyEdits => k_is); (case sb_TooManyEdits_BadLetter => first | rfl | k_is); (case sb_TooManyEdits_TooManyEdits => first | rfl | k_is); (case ga_Busy => k_is); (case gg_Busy => k_is); (case eb_Busy => k_is); (case hd_Busy => k_is); (case ha_Busy => k_is); (case hm_Busy => k_is); (case sb_Busy_BadLetter => first | rfl | k_is); (case sb_Busy_Busy => first | rfl | k_is); (case ga_LastLetter => k_is); (case gg_LastLetter => k_is); (case eb_LastLetter => k_is); (case hd_LastLetter => k_is); (case ha_LastLetter => k_is); (case hm_LastLetter => k_is); (case sb_LastLetter_BadLetter => first | rfl | k_is); (case sb_LastLetter_LastLetter => first | rfl | k_is); (case ga_TooLong => k_is); (case gg_TooLong => k_is); (case eb_TooLong => k_is); (case hd_TooLong => k_is); (case ha_TooLong => k_is); (case hm_TooLong => k_is); (case sb_TooLong_BadLetter => first | rfl | k_is); (case sb_TooLong_TooLong => first | rfl | k_is); (case ha_BadWord => k_is); (case hm_BadWord => k_is); (case sb_BadWord_BadLetter => first | rfl | k_is); (case sb_BadWord_BadWord => first | rfl | k_is); (case ga_BadLetter => k_is); (case gg_BadLetter => k_is); (case ha_BadLetter => k_is); (case hm_BadLetter => k_is); (case sb_BadLetter_BadLetter => first | rfl | k_is); (case ha_BadText => k_is); (case hm_BadText => k_is); (case sb_BadText_BadLetter => first | rfl | k_is); (case sb_BadText_BadText => first | rfl | k_is); (case ga_NoPlace => k_is); (case gg_NoPlace => k_is); (case eb_NoPlace => k_is); (case hd_NoPlace => k_is); (case ha_NoPlace => k_is); (case hm_NoPlace => k_is); (case sb_NoPlace_BadLetter => first | rfl | k_is); (case sb_NoPlace_NoPlace => first | rfl | k_is); (case sb_NotSimple_BadEdits => first | rfl | k_is); (case eb_BadEdits => k_is); (case hd_BadEdits => k_is); (case ty_BadEdits => k_is); (case sb_TooManyEdits_BadEdits => first | rfl | k_is); (case sb_Busy_BadEdits => first | rfl | k_is); (case sb_LastLetter_BadEdits => first | rfl | k_is); (case sb_TooLong_BadEdits => first | rfl | k_is); (case sb_BadWord_BadEdits => first | rfl | k_is); (case sb_BadLetter_BadEdits => first | rfl | k_is); (case sb_BadText_BadEdits => first | rfl | k_is); (case sb_NoPlace_BadEdits => first | rfl | k_is); (case sb_NotSimple_BadEdit => first | rfl | k_is); (case eb_BadEdit => k_is); (case hd_BadEdit => k_is); (case ty_BadEdit => k_is); (case sb_TooManyEdits_BadEdit => first | rfl | k_is); (case sb_Busy_BadEdit => first | rfl | k_is); (case sb_LastLetter_BadEdit => first | rfl | k_is); (case sb_TooLong_BadEdit => first | rfl | k_is); (case sb_BadWord_BadEdit => first | rfl | k_is); (case sb_BadLetter_BadEdit => first | rfl | k_is); (case sb_BadText_BadEdit => first | rfl | k_is); (case sb_NoPlace_BadEdit => first | rfl | k_is); (case sb_NotSimple_Busy => first | rfl | k_is); (case ty_Busy => k_is); (case sb_TooManyEdits_Busy => first | rfl | k_is); (case sb_LastLetter_Busy => first | rfl | k_is); (case sb_TooLong_Busy => first | rfl | k_is); (case sb_BadWord_Busy => first | rfl | k_is); (case sb_BadLetter_Busy => first | rfl | k_is); (case sb_BadText_Busy => first | rfl | k_is); (case sb_NoPlace_Busy => first | rfl | k_is); (case sb_NotSimple_BadWord => first | rfl | k_is); (case sb_TooManyEdits_BadWord => first | rfl | k_is); (case sb_Busy_BadWord => first | rfl | k_is); (case sb_LastLetter_BadWord => first | rfl | k_is); (case sb_TooLong_BadWord => first | rfl | k_is); (case sb_BadLetter_BadWord => first | rfl | k_is); (case sb_BadText_BadWord => first | rfl | k_is); (case sb_NoPlace_BadWord => first | rfl | k_is); (case sb_NotSimple_BadText => first | rfl | k_is); (case sb_TooManyEdits_BadText => first | rfl | k_is); (case sb_Busy_BadText => first | rfl | k_is); (case sb_LastLetter_BadText => first | rfl | k_is); (case sb_TooLong_BadText => first | rfl | k_is); (case sb_BadWord_BadText => first | rfl | k_is); (case sb_BadLetter_BadText => first | rfl | k_is); (case sb_NoPlace_BadText => first | rfl | k_is); (case sb_NotSimple_NothingToUndo => first | rfl | k_is); (case eb_NothingToUndo => k_is); (case hd_NothingToUndo => k_is); (case ty_NothingToUndo => k_is); (case sb_TooManyEdits_NothingToUndo => first | rfl | k_is); (case sb_Busy_NothingToUndo => first | rfl | k_is); (case sb_LastLetter_NothingToUndo => first | rfl | k_is); (case sb_TooLong_NothingToUndo => first | rfl | k_is); (case sb_BadWord_NothingToUndo => first | rfl | k_is); (case sb_BadLetter_NothingToUndo => first | rfl | k_is); (case sb_BadText_NothingToUndo => first | rfl | k_is); (case sb_NoPlace_NothingToUndo => first | rfl | k_is); (case ty_NotSimple => k_is); (case sb_TooManyEdits_NotSimple => first | rfl | k_is); (case sb_Busy_NotSimple => first | rfl | k_is); (case sb_LastLetter_NotSimple => first | rfl | k_is); (case sb_TooLong_NotSimple => first | rfl | k_is); (case sb_BadWord_NotSimple => first | rfl | k_is); (case sb_BadLetter_NotSimple => first | rfl | k_is); (case sb_BadText_NotSimple => first | rfl | k_is); (case sb_NoPlace_NotSimple => first | rfl | k_is); (case sb_NotSimple_LastLetter => first | rfl | k_is); (case ty_LastLetter => k_is); (case sb_TooManyEdits_LastLetter => first | rfl | k_is); (case sb_Busy_LastLetter => first | rfl | k_is); (case sb_TooLong_LastLetter => first | rfl | k_is); (case sb_BadWord_LastLetter => first | rfl | k_is); (case sb_BadLetter_LastLetter => first | rfl | k_is); (case sb_BadText_LastLetter => first | rfl | k_is); (case sb_NoPlace_LastLetter => first | rfl | k_is); (case sb_NotSimple_TooManyEdits => first | rfl | k_is); (case ty_TooManyEdits => k_is); (case sb_Busy_TooManyEdits => first | rfl | k_is); (case sb_LastLetter_TooManyEdits => first | rfl | k_is); (case sb_TooLong_TooManyEdits => first | rfl | k_is); (case sb_BadWord_TooManyEdits => first | rfl | k_is); (case sb_BadLetter_TooManyEdits => first | rfl | k_is); (case sb_BadText_TooManyEdits => first | rfl | k_is); (case sb_NoPlace_TooManyEdits => first | rfl | k_is); (case sb_NotSimple_TooLong => first | rfl | k_is); (case ty_TooLong => k_is); (case sb_TooManyEdits_TooLong => first | rfl | k_is); (case sb_Busy_TooLong => first | rfl | k_is); (case sb_LastLetter_TooLong => first | rfl | k_is); (case sb_BadWord_TooLong => first | rfl | k_is); (case sb_BadLetter_TooLong => first | rfl | k_is); (case sb_BadText_TooLong => first | rfl | k_is); (case sb_NoPlace_TooLong => first | rfl | k_is); (case sb_NotSimple_Rejected => first | rfl | k_is); (case eb_Rejected => k_is); (case hd_Rejected => k_is); (case ty_Rejected => k_is); (case sb_TooManyEdits_Rejected => first | rfl | k_is); (case sb_Busy_Rejected => first | rfl | k_is); (case sb_LastLetter_Rejected => first | rfl | k_is); (case sb_TooLong_Rejected => first | rfl | k_is); (case sb_BadWord_Rejected => first | rfl | k_is); (case sb_BadLetter_Rejected => first | rfl | k_is); (case sb_BadText_Rejected => first | rfl | k_is); (case sb_NoPlace_Rejected => first | rfl | k_is); (case sb_NotSimple_NoVersion => first | rfl | k_is); (case eb_NoVersion => k_is); (case hd_NoVersion => k_is); (case ty_NoVersion => k_is); (case sb_TooManyEdits_NoVersion => first | rfl | k_is); (case sb_Busy_NoVersion => first | rfl | k_is); (case sb_LastLetter_NoVersion => first | rfl | k_is); (case sb_TooLong_NoVersion => first | rfl | k_is); (case sb_BadWord_NoVersion => first | rfl | k_is); (case sb_BadLetter_NoVersion => first | rfl | k_is); (case sb_BadText_NoVersion => first | rfl | k_is); (case sb_NoPlace_NoVersion => first | rfl | k_is); (case sb_NotSimple_NoPlace => first | rfl | k_is); (case ty_NoPlace => k_is); (case sb_TooManyEdits_NoPlace => first | rfl | k_is); (case sb_Busy_NoPlace => first | rfl | k_is); (case sb_LastLetter_NoPlace => first | rfl | k_is); (case sb_TooLong_NoPlace => first | rfl | k_is); (case sb_BadWord_NoPlace => first | rfl | k_is); (case sb_BadLetter_NoPlace => first | rfl | k_is); (case sb_BadText_NoPlace => first | rfl | k_is); (case sb_NotSimple_NoIndex => first | rfl | k_is); (case eb_NoIndex => k_is); (case hd_NoIndex => k_is); (case ty_NoIndex => k_is); (case sb_TooManyEdits_NoIndex => first | rfl | k_is); (case sb_Busy_NoIndex => first | rfl | k_is); (case sb_LastLetter_NoIndex => first | rfl | k_is); (case sb_TooLong_NoIndex => first | rfl | k_is); (case sb_BadWord_NoIndex => first | rfl | k_is); (case sb_BadLetter_NoIndex => first | rfl | k_is); (case sb_BadText_NoIndex => first | rfl | k_is); (case sb_NoPlace_NoIndex => first | rfl | k_is); (case sb_NotSimple_LookupError => first | rfl | k_is); (case sx_LookupError => k_is); (case sb_TooManyEdits_LookupError => first | rfl | k_is); (case sb_Busy_LookupError => first | rfl | k_is); (case sb_LastLetter_LookupError => first | rfl | k_is); (case sb_TooLong_LookupError => first | rfl | k_is); (case sb_BadWord_LookupError => first | rfl | k_is); (case sb_BadLetter_LookupError => first | rfl | k_is); (case sb_BadText_LookupError => first | rfl | k_is); (case sb_NoPlace_LookupError => first | rfl | k_is); (case sb_NotSimple_ValueError => first | rfl | k_is); (case sx_ValueError => k_is); (case sb_TooManyEdits_ValueError => first | rfl | k_is); (case sb_Busy_ValueError => first | rfl | k_is); (case sb_LastLetter_ValueError => first | rfl | k_is); (case sb_TooLong_ValueError => first | rfl | k_is); (case sb_BadWord_ValueError => first | rfl | k_is); (case sb_BadLetter_ValueError => first | rfl | k_is); (case sb_BadText_ValueError => first | rfl | k_is); (case sb_NoPlace_ValueError => first | rfl | k_is); (case sb_NotSimple_TailError => first | rfl | k_is); (case eb_TailError => k_is); (case hd_TailError => k_is); (case ty_TailError => k_is); (case sb_TooManyEdits_TailError => first | rfl | k_is); (case sb_Busy_TailError => first | rfl | k_is); (case sb_LastLetter_TailError => first | rfl | k_is); (case sb_TooLong_TailError => first | rfl | k_is); (case sb_BadWord_TailError => first | rfl | k_is); (case sb_BadLetter_TailError => first | rfl | k_is); (case sb_BadText_TailError => first | rfl | k_is); (case sb_NoPlace_TailError => first | rfl | k_is); (case nf_BadLetter_value => k_is); (case nf_NoPlace_value => k_is); (case nf_BadText_index => k_is); (case nf_NotSimple_place => k_is); (case nf_TooLong_limit => k_is); (case nf_BadWord_error => k_is); (case ha_LoggedSimpleDesk => k_is); (case hm_LoggedSimpleDesk => k_is); (case kb_LoggedSimpleDesk_LoggedDesk => kit_is); (case ha_LoggedDesk => k_is); (case hm_LoggedDesk => k_is); (case kb_LoggedDesk_LoggedDesk => kit_is); (case ha_SimpleDesk => k_is); (case hm_SimpleDesk => k_is); (case kb_SimpleDesk_LoggedDesk => kit_is); (case ha_Desk => k_is); (case hm_Desk => k_is); (case kb_Desk_LoggedDesk => kit_is); (case kt_LoggedDesk_dict => kit_is); (case kt_LoggedDesk_tuple => kit_is); (case kt_LoggedDesk_list => kit_is); (case kt_LoggedDesk_str => kit_is); (case kt_LoggedDesk_int => kit_is); (case kt_LoggedDesk_bool => kit_is); (case kt_LoggedDesk_NoneType => kit_is); (case kb_LoggedSimpleDesk_SimpleDesk => kit_is); (case kb_LoggedDesk_SimpleDesk => kit_is); (case kb_SimpleDesk_SimpleDesk => kit_is); (case kb_Desk_SimpleDesk => kit_is); (case kt_SimpleDesk_dict => kit_is); (case kt_SimpleDesk_tuple => kit_is); (case kt_SimpleDesk_list => kit_is); (case kt_SimpleDesk_str => kit_is); (case kt_SimpleDesk_int => kit_is); (case kt_SimpleDesk_bool => kit_is); (case kt_SimpleDesk_NoneType => kit_is); (case kb_LoggedSimpleDesk_Desk => kit_is); (case kb_LoggedDesk_Desk => kit_is); (case kb_SimpleDesk_Desk => kit_is); (case kb_Desk_Desk => kit_is); (case kt_Desk_dict => kit_is); (case kt_Desk_tuple => kit_is); (case kt_Desk_list => kit_is); (case kt_Desk_str => kit_is); (case kt_Desk_int => kit_is); (case kt_Desk_bool => kit_is); (case kt_Desk_NoneType => kit_is); (case nf_LoggedSimpleDesk_now => k_is); (case nf_LoggedDesk_now => k_is); (case nf_SimpleDesk_now => k_is); (case nf_Desk_now => k_is); (case nf_LoggedSimpleDesk_states => k_is); (case nf_LoggedDesk_states => k_is); (case nf_SimpleDesk_states => k_is); (case nf_Desk_states => k_is); (case nf_LoggedSimpleDesk_done => k_is); (case nf_LoggedDesk_done => k_is); (case nf_SimpleDesk_done => k_is); (case nf_Desk_done => k_is); (case nf_LoggedSimpleDesk_wanted => k_is); (case nf_LoggedDesk_wanted => k_is); (case nf_SimpleDesk_wanted => k_is); (case nf_Desk_wanted => k_is); (case nf_LoggedSimpleDesk_is_busy => k_is); (case nf_LoggedDesk_is_busy => k_is); (case nf_SimpleDesk_is_busy => k_is); (case nf_Desk_is_busy => k_is); (case kc_NotSimple => k_is); (case xL_NotSimple => k_is); (case te_NotSimple => rfl); (case sa_NotSimple => k_is); (case tk_NotSimple => k_is); (case iC_NotSimple => k_is); (case tI_NotSimple => k_is); (case lI_NotSimple => k_is); (case cI_NotSimple => k_is); (case nf_LoggedSimpleDesk_rows => k_is); (case nf_LoggedDesk_rows => k_is)
