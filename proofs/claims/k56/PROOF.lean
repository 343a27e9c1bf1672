import PyProof.Rows.All
import Wide.All
import OpenK.AllK
import Wide.FinOn
import HandS.ForMost
import HandS.Walk
import HandS.Exc
import HandS.WordsExc
import HandS.TupAny
import HandS.HotCalls
import KE.KxText
import KE.KSortTupG
import HandS.Ends
import KE.GoesZip
import KE.GoesEnum
import KE.GoesMore
import KE.KDictZip
import PyProof.CollectWalk
import KE.KDictList
import HandS.AnyAll
import HandS.IsInst
import HandS.Star
import HandS.Conv
import HandS.Style
import HandS.Text
import HandS.StrMore
import HandS.Wide
import HandS.ListEq
import HandS.Flow
import HandS.RevTup
import KE.KRevSl
import HandS.ExcField
import HandS.ExcIs
import KE.KExcIs
import KE.KExcInit
import KE.KTryMore
import HandS.Small
import HandS.SetFor
import PyProof.NeKinds
import KE.DataMinMax
import PyProof.ListStr
import HandS.TupMul
import HandS.More
import HandS.Set
import PyProof.SetKind
import PyProof.SetRoads
import PyProof.Rows.SortShellAny
import HandS.SortInts
import HandS.Replace
import PyProof.StrLaws
import HandS.Codes
import PyProof.CollectStr
import PyProof.SliceStr2
import PyProof.Rows.StrStep
import PyProof.StrLawsIn
import KE.DataCmp
import HandS.NoneIn
import KE.KUnpackStar
import KE.KIndexOf
import HandS.GenYield
import HandS.GenList
import PyProof.ForAny
import PyProof.StrLawsRepr
import PyProof.FitsInt
import PySem.Challenge.RW_tailranks_k56_whole_parts_are_found
set_option Elab.async false
set_option linter.all false
set_option maxRecDepth 100000
set_option maxHeartbeats 1000000
namespace DL
open PySem L2

/-- data: texts are lists of code points; ob: the k-th anchored object of the ghost region -/
inductive D where
  | non | bl (b : Bool) | int (i : Int) | str (x : List Nat) | lst (xs : List D) | tup (xs : List D) | dic (kvs : List (Key × D)) | ob (k : Nat) | exn (cls : Str) (ns : List Str) (ds : List D) | tx (xs : List D)
/-- the table of modules stands in the base -/
def SmB (base : Heap) : Prop := ∃ o, base.get? sysModules = some o
/-- a caught exception's own object is known to the object -/
def exU : HO := .ext fun _ => True

mutual
inductive Rp (K : PySem.W.Frag) (F : Hp) (R : List Addr) : V → D → Prop
  | non : Rp K F R .non .non
  | bl (b : Bool) : Rp K F R (.bl b) (.bl b)
  | int (i : Int) : Rp K F R (.int i) (.int i)
  | str (z : Str) (x : List Nat) : z.cps.toList = x → Rp K F R (.str z) (.str x)
  | lst {a : Addr} {vs : List V} {ds : List D} : F a = some (.lst vs) → RpA K F R vs ds → Rp K F R (.ref a) (.lst ds)
  | tup {a : Addr} {vs : List V} {ds : List D} : SqT K F a vs → RpA K F R vs ds → Rp K F R (.ref a) (.tup ds)
  | dic {a : Addr} {kvs : List (Key × V)} {kds : List (Key × D)} : F a = some (.dK kvs) → RpK K F R kvs kds → Rp K F R (.ref a) (.dic kds)
  | ob {a : Addr} {k : Nat} : R[k]? = some a → Rp K F R (.ref a) (.ob k)
  | exn0 {a C : Addr} {cls : Str} {oe : Obj} : PySem.W.nsIn K mainGlobals cls = some (some (.ref C)) → F a = some (.frz oe exU) → Zc (.ref C) none oe → (∃ fv, oe.data = .fields fv) → Rp K F R (.ref a) (.exn cls [] [])
  | exn {a C dd : Addr} {cls : Str} {oe : Obj} {ns : List Str} {vs : List V} {ds : List D} : PySem.W.nsIn K mainGlobals cls = some (some (.ref C)) → F a = some (.frz oe exU) → Zc (.ref C) (some dd) oe → (∃ fv, oe.data = .fields fv) →
      F dd = some (.xd (ns.zip vs)) → ns.length = vs.length → RpA K F R vs ds → Rp K F R (.ref a) (.exn cls ns ds)
  | tx {a : Addr} {vs : List V} {ds : List D} {o : Obj} : F a = some (.frz o (.tup vs)) → o.dict = none → o.cls = .type "tuple" → RpA K F R vs ds → Rp K F R (.ref a) (.tx ds)
inductive RpA (K : PySem.W.Frag) (F : Hp) (R : List Addr) : List V → List D → Prop
  | nil : RpA K F R [] []
  | cons {v : V} {vs : List V} {d : D} {ds : List D} : Rp K F R v d → RpA K F R vs ds → RpA K F R (v :: vs) (d :: ds)
inductive RpK (K : PySem.W.Frag) (F : Hp) (R : List Addr) : List (Key × V) → List (Key × D) → Prop
  | nil : RpK K F R [] []
  | cons {k : Key} {v : V} {kvs : List (Key × V)} {d : D} {kds : List (Key × D)} : Rp K F R v d → RpK K F R kvs kds → RpK K F R ((k, v) :: kvs) ((k, d) :: kds)
end

theorem same_tup {K : PySem.W.Frag} {H H' : Hp} {a : Addr} {xs : List V} (e : Same H H') (h : SqT K H a xs) : SqT K H' a xs := by
  rcases h with (h | ⟨o, h⟩) | h
  · exact .inl (.inl (e _ _ h))
  · exact .inl (.inr ⟨o, e _ _ h⟩)
  · exact .inr h
section
variable {K : PySem.W.Frag} {F F' : Hp} {R R' : List Addr}
mutual
theorem Rp.mono (e : Same F F') (r : ∀ (k : Nat) a, R[k]? = some a → R'[k]? = some a) : ∀ {v : V} {d : D}, Rp K F R v d → Rp K F' R' v d
  | _, _, .non => .non
  | _, _, .bl b => .bl b
  | _, _, .int i => .int i
  | _, _, .str z x h => .str z x h
  | _, _, .lst h q => .lst (e _ _ h) (RpA.mono e r q)
  | _, _, .tup h q => .tup (same_tup e h) (RpA.mono e r q)
  | _, _, .dic h q => .dic (e _ _ h) (RpK.mono e r q)
  | _, _, .ob h => .ob (r _ _ h)
  | _, _, .exn0 h1 h2 h3 h4 => .exn0 h1 (e _ _ h2) h3 h4
  | _, _, .exn h1 h2 h3 h4 h5 h6 q => .exn h1 (e _ _ h2) h3 h4 (e _ _ h5) h6 (RpA.mono e r q)
  | _, _, .tx h1 h2 h3 q => .tx (e _ _ h1) h2 h3 (RpA.mono e r q)
theorem RpA.mono (e : Same F F') (r : ∀ (k : Nat) a, R[k]? = some a → R'[k]? = some a) : ∀ {v : List V} {d : List D}, RpA K F R v d → RpA K F' R' v d
  | _, _, .nil => .nil
  | _, _, .cons h q => .cons (Rp.mono e r h) (RpA.mono e r q)
theorem RpK.mono (e : Same F F') (r : ∀ (k : Nat) a, R[k]? = some a → R'[k]? = some a) : ∀ {v : List (Key × V)} {d : List (Key × D)}, RpK K F R v d → RpK K F' R' v d
  | _, _, .nil => .nil
  | _, _, .cons h q => .cons (Rp.mono e r h) (RpK.mono e r q)
end
theorem RpA.length : ∀ {vs : List V} {ds : List D}, RpA K F R vs ds → vs.length = ds.length
  | _, _, .nil => rfl
  | _, _, .cons _ t => by rw [List.length_cons, List.length_cons, t.length]
theorem RpA.get : ∀ {vs : List V} {ds : List D} {i : Nat} {v : V}, RpA K F R vs ds → vs[i]? = some v → ∃ d, ds[i]? = some d ∧ Rp K F R v d
  | _, _, _, _, .nil, e => by simp at e
  | _, _, 0, _, .cons r _, e => by simp at e; subst e; exact ⟨_, rfl, r⟩
  | _, _, i + 1, v, .cons _ t, e => by
    obtain ⟨u, h1, h2⟩ := RpA.get (i := i) (v := v) t (by simpa using e)
    exact ⟨u, by simpa using h1, h2⟩
theorem RpA.get' : ∀ {vs : List V} {ds : List D} {i : Nat} {d : D}, RpA K F R vs ds → ds[i]? = some d → ∃ v, vs[i]? = some v ∧ Rp K F R v d
  | _, _, _, _, .nil, e => by simp at e
  | _, _, 0, _, .cons r _, e => by simp at e; subst e; exact ⟨_, rfl, r⟩
  | _, _, i + 1, d, .cons _ t, e => by
    obtain ⟨u, h1, h2⟩ := RpA.get' (i := i) (d := d) t (by simpa using e)
    exact ⟨u, by simpa using h1, h2⟩
theorem RpA.append : ∀ {vs ws : List V} {ds es : List D}, RpA K F R vs ds → RpA K F R ws es → RpA K F R (vs ++ ws) (ds ++ es)
  | _, _, _, _, .nil, s => s
  | _, _, _, _, .cons r t, s => .cons r (RpA.append t s)
theorem RpA.take : ∀ {vs : List V} {ds : List D} (n : Nat), RpA K F R vs ds → RpA K F R (vs.take n) (ds.take n)
  | _, _, 0, _ => .nil
  | _, _, _ + 1, .nil => .nil
  | _, _, n + 1, .cons r t => .cons r (RpA.take n t)
theorem RpA.drop : ∀ {vs : List V} {ds : List D} (n : Nat), RpA K F R vs ds → RpA K F R (vs.drop n) (ds.drop n)
  | _, _, 0, r => r
  | _, _, _ + 1, .nil => .nil
  | _, _, n + 1, .cons _ t => RpA.drop n t
theorem RpA.set {v : V} {d : D} (r : Rp K F R v d) : ∀ {vs : List V} {ds : List D} (i : Nat), RpA K F R vs ds → RpA K F R (vs.set i v) (ds.set i d)
  | _, _, _, .nil => .nil
  | _, _, 0, .cons _ t => .cons r t
  | _, _, i + 1, .cons q t => .cons q (RpA.set r i t)
theorem RpA.flat {vs : List V} {ds : List D} (r : RpA K F R vs ds) : ∀ n : Nat, RpA K F R (List.replicate n vs).flatten (List.replicate n ds).flatten
  | 0 => .nil
  | n + 1 => by
    rw [List.replicate_succ, List.replicate_succ, List.flatten_cons, List.flatten_cons]
    exact r.append (RpA.flat r n)
theorem RpA.ints : ∀ {vs : List V} {ns : List Int}, RpA K F R vs (ns.map D.int) → vs = ns.map V.int
  | _, [], .nil => rfl
  | _, n :: ns, .cons (.int _) t => by rw [RpA.ints (ns := ns) t]; rfl
theorem RpA.strs : ∀ {vs : List V} {xs : List (List Nat)}, RpA K F R vs (xs.map D.str) → ∃ zs : List Str, vs = zs.map V.str ∧ zs.map (·.cps.toList) = xs
  | _, [], .nil => ⟨[], rfl, rfl⟩
  | _, x :: xs, .cons (.str z _ e) t => by
    obtain ⟨zs, h1, h2⟩ := RpA.strs (xs := xs) t
    exact ⟨z :: zs, by rw [h1]; rfl, by rw [List.map_cons, e, h2]⟩
theorem RpA.bls : ∀ {vs : List V} {bs : List Bool}, RpA K F R vs (bs.map D.bl) → vs = bs.map V.bl
  | _, [], .nil => rfl
  | _, b :: bs, .cons (.bl _) t => by rw [RpA.bls (bs := bs) t]; rfl
end

structure Ghost where
  G : Type
  ok : PySem.W.Frag → G → List Addr → Hp → Hp → Prop
  keep : ∀ {K : PySem.W.Frag} {g : G} {R : List Addr} {F H F' H' : Hp}, ok K g R F H → Same F F' → (∀ a ∈ R, H' a = H a) → ok K g R F' H'
structure Wd (M : Ghost) where
  F : Hp
  H : Hp
  R : List Addr
  g : M.G
structure Wok {M : Ghost} (K : PySem.W.Frag) (W : Wd M) : Prop where
  sub : Same W.F W.H
  gh : M.ok K W.g W.R W.F W.H
  rf : ∀ a ∈ W.R, W.F a = none
  rh : ∀ a ∈ W.R, W.H a ≠ none
structure Go {M : Ghost} (W W' : Wd M) : Prop where
  sub : Same W.F W'.F
  keep : ∀ a o, W.H a = some o → a ∉ W.R → W'.H a = some o
  live : ∀ a, W.H a ≠ none → W'.H a ≠ none
  young : ∀ a, W'.F a ≠ none → W.F a ≠ none ∨ W.H a = none
  reg : ∃ new, W'.R = W.R ++ new ∧ ∀ a ∈ new, W.H a = none
section
variable {M : Ghost} {K : PySem.W.Frag} {W W1 W2 W' : Wd M}
theorem Go.refl (W : Wd M) : Go W W := ⟨Same.refl _, fun _ _ h _ => h, fun _ h => h, fun _ h => .inl h, [], by simp, by simp⟩
theorem Go.notR (g : Go W W1) {a : Addr} (h : W.H a ≠ none) (n : a ∉ W.R) : a ∉ W1.R := by
  obtain ⟨new, e, q⟩ := g.reg
  rw [e]
  intro z
  rcases List.mem_append.mp z with z | z
  · exact n z
  · exact h (q a z)
theorem Go.trans (a : Go W W1) (b : Go W1 W2) : Go W W2 := by
  refine ⟨a.sub.trans b.sub, fun c o h n => ?_, fun c h => b.live c (a.live c h), fun c h => ?_, ?_⟩
  · exact b.keep c o (a.keep c o h n) (a.notR (by rw [h]; simp) n)
  · rcases b.young c h with z | z
    · exact a.young c z
    · right
      cases q : W.H c with
      | none => rfl
      | some o => exact absurd z (a.live c (by rw [q]; simp))
  · obtain ⟨n1, e1, q1⟩ := a.reg
    obtain ⟨n2, e2, q2⟩ := b.reg
    refine ⟨n1 ++ n2, by rw [e2, e1, List.append_assoc], fun c hc => ?_⟩
    rcases List.mem_append.mp hc with z | z
    · exact q1 c z
    · cases q : W.H c with
      | none => rfl
      | some o => exact absurd (q2 c z) (a.live c (by rw [q]; simp))
theorem Go.ix (g : Go W W1) : ∀ (k : Nat) a, W.R[k]? = some a → W1.R[k]? = some a := by
  obtain ⟨new, e, _⟩ := g.reg
  intro k a h
  rw [e, List.getElem?_append_left (List.getElem?_eq_some_iff.mp h).1]
  exact h
theorem Rp.step {v : V} {d : D} (h : Rp K W.F W.R v d) (g : Go W W1) : Rp K W1.F W1.R v d := h.mono g.sub g.ix
theorem RpA.step {v : List V} {d : List D} (h : RpA K W.F W.R v d) (g : Go W W1) : RpA K W1.F W1.R v d := h.mono g.sub g.ix
theorem RpK.step {v : List (Key × V)} {d : List (Key × D)} (h : RpK K W.F W.R v d) (g : Go W W1) : RpK K W1.F W1.R v d := h.mono g.sub g.ix

/-- a new object that stands still -/
abbrev Wd.lay (W : Wd M) (p : Addr) (o : HO) : Wd M := { W with F := upd W.F p o, H := upd W.H p o }
/-- a new object that is not (yet) frozen -/
abbrev Wd.new (W : Wd M) (p : Addr) (o : HO) : Wd M := { W with H := upd W.H p o }
abbrev Wd.freeze (W : Wd M) (p : Addr) (o : HO) : Wd M := { W with F := upd W.F p o }
theorem same_new {H : Hp} {p : Addr} {o : HO} (h : H p = none) : Same H (upd H p o) := fun b x e => by
  rw [upd_ne (ne_of_none e h)]
  exact e
theorem Wok.noR (k : Wok K W) {p : Addr} (h : W.H p = none) : p ∉ W.R := fun z => k.rh p z h
theorem Wok.noF (k : Wok K W) {p : Addr} (h : W.H p = none) : W.F p = none := k.sub.free h
theorem Go.new (k : Wok K W) {p : Addr} {o : HO} (h : W.H p = none) : Go W (W.new p o) := by
  refine ⟨Same.refl _, fun a x e _ => same_new h a x e, fun a e => ?_, fun _ z => .inl z, [], by simp, by simp⟩
  show upd W.H p o a ≠ none
  cases q : W.H a with
  | none => exact absurd q e
  | some x => rw [same_new h a x q]; simp
theorem Wok.new (k : Wok K W) {p : Addr} {o : HO} (h : W.H p = none) : Wok K (W.new p o) := by
  have nr := k.noR h
  refine ⟨k.sub.trans (same_new h), M.keep k.gh (Same.refl _) fun a ha => upd_ne (fun z => nr (z ▸ ha)), k.rf, fun a ha => ?_⟩
  show upd W.H p o a ≠ none
  rw [upd_ne (show a ≠ p from fun z => nr (z ▸ ha))]
  exact k.rh a ha
theorem Go.lay (k : Wok K W) {p : Addr} {o : HO} (h : W.H p = none) : Go W (W.lay p o) := by
  have g := Go.new (o := o) k h
  refine ⟨same_new (k.noF h), g.keep, g.live, fun a z => ?_, [], by simp, by simp⟩
  by_cases e : a = p
  · subst e; exact .inr h
  · rw [show (W.lay p o).F a = W.F a from upd_ne e] at z
    exact .inl z
theorem Wok.lay (k : Wok K W) {p : Addr} {o : HO} (h : W.H p = none) : Wok K (W.lay p o) := by
  have nr := k.noR h
  have q := Wok.new (o := o) k h
  refine ⟨fun a x e => ?_, M.keep q.gh (same_new (k.noF h)) fun a ha => rfl, fun a ha => ?_, q.rh⟩
  · by_cases z : a = p
    · subst z
      rw [show (W.lay a o).F a = some o from upd_same] at e
      rw [show (W.lay a o).H a = some o from upd_same]
      exact e
    · rw [show (W.lay p o).F a = W.F a from upd_ne z] at e
      rw [show (W.lay p o).H a = W.H a from upd_ne z]
      exact k.sub _ _ e
  · show upd W.F p o a = none
    rw [upd_ne (show a ≠ p from fun z => nr (z ▸ ha))]
    exact k.rf a ha
/-- freezing a thing of one's own -/
theorem Wok.freeze (k : Wok K W) {p : Addr} {o : HO} (h : W.H p = some o) (hf : W.F p = none) (nr : p ∉ W.R) : Wok K (W.freeze p o) := by
  refine ⟨fun a x e => ?_, M.keep k.gh (same_new hf) fun a ha => rfl, fun a ha => ?_, k.rh⟩
  · by_cases z : a = p
    · subst z
      rw [show (W.freeze a o).F a = some o from upd_same] at e
      cases e
      exact h
    · rw [show (W.freeze p o).F a = W.F a from upd_ne z] at e
      exact k.sub _ _ e
  · show upd W.F p o a = none
    rw [upd_ne (show a ≠ p from fun z => nr (z ▸ ha))]
    exact k.rf a ha
theorem Go.freeze {W0 : Wd M} (g : Go W0 W) {p : Addr} {o : HO} (hf : W.F p = none) (h0 : W0.H p = none) : Go W0 (W.freeze p o) := by
  refine ⟨g.sub.trans (same_new hf), g.keep, g.live, fun a z => ?_, g.reg⟩
  by_cases e : a = p
  · subst e; exact .inr h0
  · rw [show (W.freeze p o).F a = W.F a from upd_ne e] at z
    exact g.young a z
/-- writing a thing of one's own -/
abbrev Wd.put (W : Wd M) (p : Addr) (o : HO) : Wd M := { W with H := upd W.H p o }
theorem Wok.put (k : Wok K W) {p : Addr} {o : HO} (hf : W.F p = none) (nr : p ∉ W.R) : Wok K (W.put p o) := by
  refine ⟨fun a x e => ?_, M.keep k.gh (Same.refl _) fun a ha => upd_ne (fun z => nr (z ▸ ha)), k.rf, fun a ha => ?_⟩
  · show upd W.H p o a = some x
    rw [upd_ne (show a ≠ p from fun z => by rw [z, hf] at e; cases e)]
    exact k.sub _ _ e
  · show upd W.H p o a ≠ none
    rw [upd_ne (show a ≠ p from fun z => nr (z ▸ ha))]
    exact k.rh a ha
theorem Go.put {W0 : Wd M} (g : Go W0 W) {p : Addr} {o : HO} (h0 : W0.H p = none) : Go W0 (W.put p o) := by
  refine ⟨g.sub, fun a x e n => ?_, fun a e => ?_, g.young, g.reg⟩
  · show upd W.H p o a = some x
    rw [upd_ne (ne_of_none e h0)]
    exact g.keep a x e n
  · show upd W.H p o a ≠ none
    by_cases z : a = p
    · subst z; rw [upd_same]; simp
    · rw [upd_ne z]; exact g.live a e
end

structure Gs {M : Ghost} (W W' : Wd M) : Prop where
  sub : Same W.F W'.F
  ix : ∀ (k : Nat) a, W.R[k]? = some a → W'.R[k]? = some a
section
variable {M : Ghost} {W W1 W2 : Wd M}
theorem Gs.refl (W : Wd M) : Gs W W := ⟨Same.refl _, fun _ _ h => h⟩
theorem Gs.trans (a : Gs W W1) (b : Gs W1 W2) : Gs W W2 := ⟨a.sub.trans b.sub, fun k c h => b.ix k c (a.ix k c h)⟩
theorem Go.s (g : Go W W1) : Gs W W1 := ⟨g.sub, g.ix⟩
theorem Rp.gs {K : PySem.W.Frag} {v : V} {d : D} (h : Rp K W.F W.R v d) (g : Gs W W1) : Rp K W1.F W1.R v d := h.mono g.sub g.ix
theorem RpA.gs {K : PySem.W.Frag} {v : List V} {d : List D} (h : RpA K W.F W.R v d) (g : Gs W W1) : RpA K W1.F W1.R v d := h.mono g.sub g.ix
end

inductive Sl where
  | no | im (d : D) | own (ds : List D) | odt (kds : List (Key × D))
/-- a list or a dict of one's own -/
def Sl.isOwn : Sl → Bool
  | .own _ => true
  | .odt _ => true
  | _ => false
abbrev DEnv := List Sl
/-- an exception of the text: its class by name, its fields -/
structure Exn where
  cls : Str
  ns : List Str
  ds : List D
structure Ct (M : Ghost) where
  X : Cx
  W0 : Wd M
  EX : Exn → DEnv → M.G → Prop
  B : Wd M
section
variable {M : Ghost}
def SlOk (C : Ct M) (W : Wd M) : Sl → Option V → Prop
  | .no, _ => True
  | .im d, o => ∃ v, o = some v ∧ Rp C.X.K W.F W.R v d
  | .own ds, o => ∃ p vs, o = some (.ref p) ∧ W.H p = some (.lst vs) ∧ W.F p = none ∧ p ∉ W.R ∧ C.W0.H p = none ∧ RpA C.X.K W.F W.R vs ds
  | .odt kds, o => ∃ p kvs, o = some (.ref p) ∧ W.H p = some (.dK kvs) ∧ W.F p = none ∧ p ∉ W.R ∧ C.W0.H p = none ∧ RpK C.X.K W.F W.R kvs kds
theorem SlOk.live {C : Ct M} {W : Wd M} {s : Sl} {o : Option V} (h : SlOk C W s o) (ow : s.isOwn = true) : ∃ p u, o = some (.ref p) ∧ W.H p = some u ∧ W.F p = none ∧ p ∉ W.R ∧ C.W0.H p = none := by
  cases s with
  | no => cases ow
  | im d => cases ow
  | own ds =>
    obtain ⟨p, vs, e, h1, h2, h3, h4, r⟩ := h
    exact ⟨p, _, e, h1, h2, h3, h4⟩
  | odt ds =>
    obtain ⟨p, vs, e, h1, h2, h3, h4, r⟩ := h
    exact ⟨p, _, e, h1, h2, h3, h4⟩
structure Sat (C : Ct M) (σ : St) (ρ : DEnv) (W : Wd M) : Prop where
  ok : Wok C.X.K W
  go : Go C.W0 W
  len : σ.length = ρ.length
  sl : ∀ (i : Nat) s, ρ[i]? = some s → ∃ o, σ[i]? = some o ∧ SlOk C W s o
  dis : ∀ (i j : Nat) s t p, ρ[i]? = some s → ρ[j]? = some t → s.isOwn = true → t.isOwn = true → σ[i]? = some (some (.ref p)) → σ[j]? = some (some (.ref p)) → i = j
  gs : Gs C.B W
variable {C : Ct M} {W W1 W' : Wd M} {σ : St} {ρ : DEnv}
theorem SlOk.step {s : Sl} {o : Option V} (h : SlOk C W s o) (g : Go W W1) : SlOk C W1 s o := by
  cases s with
  | no => trivial
  | im d =>
    obtain ⟨v, e, r⟩ := h
    exact ⟨v, e, r.step g⟩
  | own ds =>
    obtain ⟨p, vs, e, h1, h2, h3, h4, r⟩ := h
    refine ⟨p, vs, e, g.keep _ _ h1 h3, ?_, g.notR (by rw [h1]; simp) h3, h4, r.step g⟩
    cases q : W1.F p with
    | none => rfl
    | some o =>
      rcases g.young p (by rw [q]; simp) with z | z
      · exact absurd h2 z
      · rw [h1] at z; cases z
  | odt ds =>
    obtain ⟨p, vs, e, h1, h2, h3, h4, r⟩ := h
    refine ⟨p, vs, e, g.keep _ _ h1 h3, ?_, g.notR (by rw [h1]; simp) h3, h4, r.step g⟩
    cases q : W1.F p with
    | none => rfl
    | some o =>
      rcases g.young p (by rw [q]; simp) with z | z
      · exact absurd h2 z
      · rw [h1] at z; cases z
theorem Sat.step (S : Sat C σ ρ W) (g : Go W W1) (k : Wok C.X.K W1) : Sat C σ ρ W1 :=
  ⟨k, S.go.trans g, S.len, fun i s e => let ⟨o, h1, h2⟩ := S.sl i s e; ⟨o, h1, h2.step g⟩, S.dis, S.gs.trans g.s⟩

abbrev EW (M : Ghost) := DEnv → M.G → (D → M.G → Prop) → Prop
def tOf (X : Cx) (e : Expr) : TE := fun σ H Q => ∀ (pins : List (Addr × Obj)) (s : Shared), Inv X pins σ H s → wpAny (model X.prog X.w) X.A (eval e X.env) (EP X pins σ Q) X.xe s
theorem pe_tOf {X : Cx} {e : Expr} : PE X e (tOf X e) := ⟨fun pins s _ _ _ I h => h pins s I⟩
theorem tOf_of {X : Cx} {e : Expr} {t : TE} (h : PE X e t) {σ : St} {H : Hp} {Q : VK} (q : t σ H Q) : tOf X e σ H Q := fun pins s I => h.run pins s σ H Q I q
/-- a value that may be looked at now: it stands still, or it is a list of one's own -/
def RdP (K : PySem.W.Frag) (W : Wd M) (v : V) (d : D) : Prop := Rp K W.F W.R v d ∨ ∃ p vs ds, v = .ref p ∧ d = .lst ds ∧ W.H p = some (.lst vs) ∧ p ∉ W.R ∧ RpA K W.F W.R vs ds
theorem RdP.step {K : PySem.W.Frag} {v : V} {d : D} (h : RdP K W v d) (g : Go W W1) : RdP K W1 v d := by
  rcases h with h | ⟨p, vs, ds, e1, e2, h, n, r⟩
  · exact .inl (h.step g)
  · exact .inr ⟨p, vs, ds, e1, e2, g.keep _ _ h n, g.notR (by rw [h]; simp) n, r.step g⟩
/-- the value of an expression that stands still -/
structure DE (C : Ct M) (e : Expr) (w : EW M) : Prop where
  run : ∀ (σ : St) (ρ : DEnv) (W : Wd M) (Q : VK) (q : D → M.G → Prop), Sat C σ ρ W → (∀ v d W', Go W W' → Wok C.X.K W' → Rp C.X.K W'.F W'.R v d → q d W'.g → Q v W'.H) → w ρ W.g q → tOf C.X e σ W.H Q
/-- one that is looked at -/
structure DP (C : Ct M) (e : Expr) (w : EW M) : Prop where
  run : ∀ (σ : St) (ρ : DEnv) (W : Wd M) (Q : VK) (q : D → M.G → Prop), Sat C σ ρ W → (∀ v d W', Go W W' → Wok C.X.K W' → RdP C.X.K W' v d → q d W'.g → Q v W'.H) → w ρ W.g q → tOf C.X e σ W.H Q
/-- what a slot may take -/
def Fresh (K : PySem.W.Frag) (W W' : Wd M) : V → Sl → Prop
  | _, .no => True
  | v, .im d => Rp K W'.F W'.R v d
  | v, .own ds => ∃ p vs, v = .ref p ∧ W'.H p = some (.lst vs) ∧ W'.F p = none ∧ p ∉ W'.R ∧ W.H p = none ∧ RpA K W'.F W'.R vs ds
  | v, .odt kds => ∃ p kvs, v = .ref p ∧ W'.H p = some (.dK kvs) ∧ W'.F p = none ∧ p ∉ W'.R ∧ W.H p = none ∧ RpK K W'.F W'.R kvs kds
theorem Fresh.live {K : PySem.W.Frag} {W W' : Wd M} {v : V} {s : Sl} (f : Fresh K W W' v s) (ow : s.isOwn = true) : ∃ p u, v = .ref p ∧ W'.H p = some u ∧ W'.F p = none ∧ p ∉ W'.R ∧ W.H p = none := by
  cases s with
  | no => cases ow
  | im d => cases ow
  | own ds =>
    obtain ⟨p, vs, e, h1, h2, h3, h4, r⟩ := f
    exact ⟨p, _, e, h1, h2, h3, h4⟩
  | odt ds =>
    obtain ⟨p, vs, e, h1, h2, h3, h4, r⟩ := f
    exact ⟨p, _, e, h1, h2, h3, h4⟩
abbrev VW (M : Ghost) := DEnv → M.G → (Sl → M.G → Prop) → Prop
structure DV (C : Ct M) (e : Expr) (w : VW M) : Prop where
  run : ∀ (σ : St) (ρ : DEnv) (W : Wd M) (Q : VK) (q : Sl → M.G → Prop), Sat C σ ρ W → (∀ v s W', Go W W' → Wok C.X.K W' → Fresh C.X.K W W' v s → q s W'.g → Q v W'.H) → w ρ W.g q → tOf C.X e σ W.H Q
/-- a new list -/
abbrev NW (M : Ghost) := DEnv → M.G → (List D → M.G → Prop) → Prop
structure DN (C : Ct M) (e : Expr) (w : NW M) : Prop where
  run : ∀ (σ : St) (ρ : DEnv) (W : Wd M) (Q : VK) (q : List D → M.G → Prop), Sat C σ ρ W → (∀ p vs ds W', Go W W' → Wok C.X.K W' → W'.H p = some (.lst vs) → W'.F p = none → p ∉ W'.R → W.H p = none → RpA C.X.K W'.F W'.R vs ds → q ds W'.g → Q (.ref p) W'.H) → w ρ W.g q → tOf C.X e σ W.H Q
variable {e : Expr} {w : EW M}
@[simp] def wL (w : NW M) : EW M := fun ρ g q => w ρ g fun ds g' => q (.lst ds) g'
@[simp] def wI (w : EW M) : VW M := fun ρ g q => w ρ g fun d g' => q (.im d) g'
@[simp] def wO (w : NW M) : VW M := fun ρ g q => w ρ g fun ds g' => q (.own ds) g'
theorem DE.p (h : DE C e w) : DP C e w := ⟨fun σ ρ W Q q S hQ hw => h.run σ ρ W Q q S (fun v d W' g k r => hQ v d W' g k (.inl r)) hw⟩
theorem DE.v (h : DE C e w) : DV C e (wI w) := ⟨fun σ ρ W Q q S hQ hw => h.run σ ρ W Q _ S (fun v d W' g k r hq => hQ v (.im d) W' g k r hq) hw⟩
theorem DN.v {w : NW M} (h : DN C e w) : DV C e (wO w) := ⟨fun σ ρ W Q q S hQ hw => h.run σ ρ W Q _ S (fun p vs ds W' g k h1 h2 h3 h4 r hq => hQ (.ref p) (.own ds) W' g k ⟨p, vs, rfl, h1, h2, h3, h4, r⟩ hq) hw⟩
theorem DN.p {w : NW M} (h : DN C e w) : DP C e (wL w) := ⟨fun σ ρ W Q q S hQ hw => h.run σ ρ W Q _ S (fun p vs ds W' g k h1 h2 h3 h4 r hq => hQ (.ref p) (.lst ds) W' g k (.inr ⟨p, vs, ds, rfl, rfl, h1, h3, r⟩) hq) hw⟩
theorem DN.fr {w : NW M} (h : DN C e w) : DE C e (wL w) := ⟨fun σ ρ W Q q S hQ hw => h.run σ ρ W Q _ S (fun p vs ds W' g k h1 h2 h3 h4 r hq =>
  hQ (.ref p) (.lst ds) (W'.freeze p (.lst vs)) (Go.freeze g h2 h4) (k.freeze h1 h2 h3) (.lst upd_same (r.mono (same_new h2) fun _ _ z => z)) hq) hw⟩

@[simp] def wVar (i : Nat) : EW M := fun ρ g q => ∃ d, ρ[i]? = some (.im d) ∧ q d g
@[simp] def wPk (i : Nat) : EW M := fun ρ g q => ∃ ds, ρ[i]? = some (.own ds) ∧ q (.lst ds) g
@[simp] def wC (d : D) : EW M := fun _ g q => q d g
theorem de_var {i : Nat} {x : Str} {pos : Pos} (h : PE C.X (.Name x pos) (tVar i)) : DE C (.Name x pos) (wVar i) := ⟨fun σ ρ W Q q S hQ hw => by
  obtain ⟨d, e, hq⟩ := hw
  obtain ⟨o, h1, v, h2, r⟩ := S.sl i _ e
  subst h2
  exact tOf_of h ⟨v, h1, hQ v d W (Go.refl W) S.ok r hq⟩⟩
theorem dp_own {i : Nat} {x : Str} {pos : Pos} (h : PE C.X (.Name x pos) (tVar i)) : DP C (.Name x pos) (wPk i) := ⟨fun σ ρ W Q q S hQ hw => by
  obtain ⟨ds, e, hq⟩ := hw
  obtain ⟨o, h1, p, vs, h2, h3, h4, h5, h6, r⟩ := S.sl i _ e
  subst h2
  exact tOf_of h ⟨.ref p, h1, hQ _ _ W (Go.refl W) S.ok (.inr ⟨p, vs, ds, rfl, rfl, h3, h5, r⟩) hq⟩⟩
theorem de_c {e : Expr} {v : V} {d : D} (h : PE C.X e (tC v)) (r : ∀ F R, Rp C.X.K F R v d) : DE C e (wC d) := ⟨fun σ ρ W Q q S hQ hw => tOf_of h (hQ v d W (Go.refl W) S.ok (r _ _) hw)⟩
theorem de_int {i : Int} {j : Nat} {pos : Pos} : DE C (.Constant (.int i) j pos) (wC (.int i)) := de_c pe_int fun _ _ => .int i
theorem de_bl {b : Bool} {j : Nat} {pos : Pos} : DE C (.Constant (.bool b) j pos) (wC (.bl b)) := de_c pe_bl fun _ _ => .bl b
theorem de_non {j : Nat} {pos : Pos} : DE C (.Constant .none j pos) (wC .non) := de_c pe_non fun _ _ => .non
theorem de_str {x : Str} {j : Nat} {pos : Pos} (y : List Nat) (h : x.cps.toList = y := by decide) : DE C (.Constant (.str x) j pos) (wC (.str y)) := de_c pe_str fun _ _ => .str x y h

/-- an operation on two values, by data -/
structure OpD (C : Ct M) (f : Value → Value → Sem Value) (r : D → D → (D → Prop) → Prop) : Prop where
  run : ∃ rr, OpR C.X f rr ∧ ∀ (W : Wd M) (x y : V) (d e : D) (Q : VK) (q : D → Prop), Wok C.X.K W → RdP C.X.K W x d → RdP C.X.K W y e →
    (∀ v d' W', Go W W' → Wok C.X.K W' → W'.g = W.g → Rp C.X.K W'.F W'.R v d' → q d' → Q v W'.H) → r d e q → rr x y W.H Q
/-- .. that makes a new list -/
structure OpN (C : Ct M) (f : Value → Value → Sem Value) (r : D → D → (List D → Prop) → Prop) : Prop where
  run : ∃ rr, OpR C.X f rr ∧ ∀ (W : Wd M) (x y : V) (d e : D) (Q : VK) (q : List D → Prop), Wok C.X.K W → RdP C.X.K W x d → RdP C.X.K W y e →
    (∀ p vs ds W', Go W W' → Wok C.X.K W' → W'.g = W.g → W'.H p = some (.lst vs) → W'.F p = none → p ∉ W'.R → W.H p = none → RpA C.X.K W'.F W'.R vs ds → q ds → Q (.ref p) W'.H) → r d e q → rr x y W.H Q
@[simp] def wBin (r : D → D → (D → Prop) → Prop) (wa wb : EW M) : EW M := fun ρ g q => wa ρ g fun x g1 => wb ρ g1 fun y g2 => r x y fun d => q d g2
@[simp] def wBinN (r : D → D → (List D → Prop) → Prop) (wa wb : EW M) : NW M := fun ρ g q => wa ρ g fun x g1 => wb ρ g1 fun y g2 => r x y fun d => q d g2
variable {a b : Expr} {wa wb : EW M} {pos : Pos} {r : D → D → (D → Prop) → Prop} {rn : D → D → (List D → Prop) → Prop}
theorem two_run {f : Value → Value → Sem Value} {rr : R2} (ha : DP C a wa) (hb : DP C b wb) {Q : VK} {q : D → D → M.G → Prop} (S : Sat C σ ρ W)
    (h : ∀ W1 x y d e, Go W W1 → Wok C.X.K W1 → RdP C.X.K W1 x d → RdP C.X.K W1 y e → q d e W1.g → rr x y W1.H Q) (hw : wa ρ W.g fun x g1 => wb ρ g1 fun y g2 => q x y g2) :
    tOp rr (tOf C.X a) (tOf C.X b) σ W.H Q :=
  ha.run σ ρ W _ _ S (fun v d W1 g1 k1 r1 q1 => hb.run σ ρ W1 _ _ (S.step g1 k1) (fun u e W2 g2 k2 r2 q2 => h W2 v u d e (g1.trans g2) k2 (r1.step g2) r2 q2) q1) hw
theorem de_op {op : Operator} (ho : OpD C (binaryOp op) r) (ha : DP C a wa) (hb : DP C b wb) : DE C (.BinOp a op b pos) (wBin r wa wb) := ⟨fun σ ρ W Q q S hQ hw => by
  obtain ⟨rr, hop, h⟩ := ho.run
  exact tOf_of (pe_op hop pe_tOf pe_tOf) (two_run (f := binaryOp op) ha hb S (fun W1 x y d e g k r1 r2 q1 => h W1 x y d e Q _ k r1 r2 (fun v d' W' g' k' eg r' q' => hQ v d' W' (g.trans g') k' r' (eg ▸ q')) q1) hw)⟩
theorem dn_op {op : Operator} (ho : OpN C (binaryOp op) rn) (ha : DP C a wa) (hb : DP C b wb) : DN C (.BinOp a op b pos) (wBinN rn wa wb) := ⟨fun σ ρ W Q q S hQ hw => by
  obtain ⟨rr, hop, h⟩ := ho.run
  refine tOf_of (pe_op hop pe_tOf pe_tOf) (two_run (f := binaryOp op) ha hb S (fun W1 x y d e g k r1 r2 q1 => h W1 x y d e Q _ k r1 r2 (fun p vs ds W' g' k' eg h1 h2 h3 h4 r' q' => hQ p vs ds W' (g.trans g') k' h1 h2 h3 ?_ r' (eg ▸ q')) q1) hw)
  cases z : W.H p with
  | none => rfl
  | some o => exact absurd h4 (g.live p (by rw [z]; simp))⟩
theorem de_cmp {op : CmpOp} (ho : OpD C (compareOp op) r) (ha : DP C a wa) (hb : DP C b wb) (hm : behindInMarks op b = false) : DE C (.Compare a [op] [b] pos) (wBin r wa wb) := ⟨fun σ ρ W Q q S hQ hw => by
  obtain ⟨rr, hop, h⟩ := ho.run
  exact tOf_of (pe_cmpR hop pe_tOf pe_tOf hm) (two_run (f := compareOp op) ha hb S (fun W1 x y d e g k r1 r2 q1 => h W1 x y d e Q _ k r1 r2 (fun v d' W' g' k' eg r' q' => hQ v d' W' (g.trans g') k' r' (eg ▸ q')) q1) hw)⟩

abbrev TW (M : Ghost) := DEnv → M.G → (Bool → M.G → Prop) → Prop
def ttOf (X : Cx) (e : Expr) : TT := fun σ H Q => ∀ (pins : List (Addr × Obj)) (s : Shared), Inv X pins σ H s → wpAny (model X.prog X.w) X.A (isTrue e X.env (eval e X.env)) (TP X pins σ Q) X.xe s
theorem pt_tOf {X : Cx} {e : Expr} : PT X e (ttOf X e) := ⟨fun pins s _ _ _ I h => h pins s I⟩
theorem ttOf_of {X : Cx} {e : Expr} {t : TT} (h : PT X e t) {σ : St} {H : Hp} {Q : Bool → Hp → Prop} (q : t σ H Q) : ttOf X e σ H Q := fun pins s I => h.run pins s σ H Q I q
structure DT (C : Ct M) (e : Expr) (w : TW M) : Prop where
  run : ∀ (σ : St) (ρ : DEnv) (W : Wd M) (Q : Bool → Hp → Prop) (q : Bool → M.G → Prop), Sat C σ ρ W → (∀ b W', Go W W' → Wok C.X.K W' → q b W'.g → Q b W'.H) → w ρ W.g q → ttOf C.X e σ W.H Q
def twOf (X : Cx) (e : Expr) : TT := fun σ H Q => ∀ (whole : Sem Value) (pins : List (Addr × Obj)) (s : Shared), Inv X pins σ H s → wpAny (model X.prog X.w) X.A (isTrue e X.env whole) (TP X pins σ Q) X.xe s
theorem pw_tOf {X : Cx} {e : Expr} : PW X e (twOf X e) := ⟨fun wh pins s _ _ _ I h => h wh pins s I⟩
theorem twOf_of {X : Cx} {e : Expr} {t : TT} (h : PW X e t) {σ : St} {H : Hp} {Q : Bool → Hp → Prop} (q : t σ H Q) : twOf X e σ H Q := fun wh pins s I => h.run wh pins s σ H Q I q
structure DW (C : Ct M) (e : Expr) (w : TW M) : Prop where
  run : ∀ (σ : St) (ρ : DEnv) (W : Wd M) (Q : Bool → Hp → Prop) (q : Bool → M.G → Prop), Sat C σ ρ W → (∀ b W', Go W W' → Wok C.X.K W' → q b W'.g → Q b W'.H) → w ρ W.g q → twOf C.X e σ W.H Q
/-- the truth of a datum that is a bool -/
def isB (d : D) (q : Bool → Prop) : Prop := match d with
  | .bl b => q b
  | _ => False
@[simp] def wB (w : EW M) : TW M := fun ρ g q => w ρ g fun d g' => isB d fun b => q b g'
theorem isB_elim {d : D} {q : Bool → Prop} (h : isB d q) : ∃ b, d = .bl b ∧ q b := by
  cases d <;> first | exact h.elim | exact ⟨_, rfl, h⟩
theorem Rp.bl_inv {K : PySem.W.Frag} {F : Hp} {R : List Addr} {v : V} {b : Bool} (r : Rp K F R v (.bl b)) : v = .bl b := by cases r; rfl
theorem RdP.bl_inv {K : PySem.W.Frag} {v : V} {b : Bool} (r : RdP K W v (.bl b)) : v = .bl b := by
  rcases r with r | ⟨_, _, _, _, e, _⟩
  · exact r.bl_inv
  · cases e
theorem RdP.int_inv {K : PySem.W.Frag} {v : V} {b : Int} (r : RdP K W v (.int b)) : v = .int b := by
  rcases r with r | ⟨_, _, _, _, e, _⟩
  · cases r; rfl
  · cases e
theorem RdP.non_inv {K : PySem.W.Frag} {v : V} (r : RdP K W v .non) : v = .non := by
  rcases r with r | ⟨_, _, _, _, e, _⟩
  · cases r; rfl
  · cases e
theorem RdP.str_inv {K : PySem.W.Frag} {v : V} {x : List Nat} (r : RdP K W v (.str x)) : ∃ z : Str, v = .str z ∧ z.cps.toList = x := by
  rcases r with r | ⟨_, _, _, _, e, _⟩
  · cases r with
    | str z _ h => exact ⟨z, rfl, h⟩
  · cases e
theorem RdP.lst_inv {K : PySem.W.Frag} {v : V} {ds : List D} (k : Wok K W) (r : RdP K W v (.lst ds)) : ∃ p vs, v = .ref p ∧ W.H p = some (.lst vs) ∧ p ∉ W.R ∧ RpA K W.F W.R vs ds := by
  rcases r with r | ⟨p, vs, es, e1, e2, h, n, r⟩
  · cases r with
    | lst h q => exact ⟨_, _, rfl, k.sub _ _ h, (fun z => by rw [k.rf _ z] at h; cases h), q⟩
  · cases e2
    exact ⟨p, vs, e1, h, n, r⟩
theorem RdP.tup_inv {K : PySem.W.Frag} {v : V} {ds : List D} (r : RdP K W v (.tup ds)) : ∃ p vs, v = .ref p ∧ SqT K W.F p vs ∧ RpA K W.F W.R vs ds := by
  rcases r with r | ⟨_, _, _, _, e, _⟩
  · cases r with
    | tup h q => exact ⟨_, _, rfl, h, q⟩
  · cases e
theorem dt_val (h : DE C e w) (he : ∀ whole, isTrue e C.X.env whole = (do let v ← whole; standAt e.pos; holding [v] (truthy v)) := by intro _; rfl) : DT C e (wB w) := ⟨fun σ ρ W Q q S hQ hw =>
  ttOf_of (pt_val pe_tOf he) (h.run σ ρ W _ _ S (fun v d W' g k r1 q1 => by
    obtain ⟨b, rfl, q2⟩ := isB_elim q1
    exact ⟨b, r1.bl_inv, hQ b W' g k q2⟩) hw)⟩
theorem dt_cmp {op : CmpOp} (ho : OpD C (compareOp op) r) (ha : DP C a wa) (hb : DP C b wb) (hm : behindInMarks op b = false) : DT C (.Compare a [op] [b] pos) (wB (wBin r wa wb)) := ⟨fun σ ρ W Q q S hQ hw => by
  obtain ⟨rr, hop, h⟩ := ho.run
  exact ttOf_of (pt_cmpR hop pe_tOf pe_tOf hm) (two_run (f := compareOp op) ha hb S (fun W1 x y d e g k r1 r2 q1 => h W1 x y d e _ _ k r1 r2 (fun v d' W' g' k' eg r' q' => by
    obtain ⟨c, rfl, q2⟩ := isB_elim q'
    exact ⟨c, r'.bl_inv, hQ c W' (g.trans g') k' (eg ▸ q2)⟩) q1) hw)⟩
variable {wt wu : TW M} {rest : List Expr}
@[simp] def wNot (w : TW M) : TW M := fun ρ g q => w ρ g fun b g' => q (!b) g'
@[simp] def wAnd (w u : TW M) : TW M := fun ρ g q => w ρ g fun b g' => if b = true then u ρ g' q else q false g'
@[simp] def wOr (w u : TW M) : TW M := fun ρ g q => w ρ g fun b g' => if b = true then q true g' else u ρ g' q
theorem dt_not (ha : DT C a wt) : DT C (.UnaryOp .Not a pos) (wNot wt) := ⟨fun σ ρ W Q q S hQ hw => ttOf_of (pt_not pt_tOf) (ha.run σ ρ W _ _ S (fun b W' g k q1 => hQ (!b) W' g k q1) hw)⟩
theorem DW.t (h : DW C e wt) : DT C e wt := ⟨fun σ ρ W Q q S hQ hw pins s I => h.run σ ρ W Q q S hQ hw _ pins s I⟩
theorem dw_and1 (ha : DT C a wt) : DW C (.BoolOp .And [a] pos) wt := ⟨fun σ ρ W Q q S hQ hw => twOf_of (pw_and1 pt_tOf) (ha.run σ ρ W Q q S hQ hw)⟩
theorem dw_or1 (ha : DT C a wt) : DW C (.BoolOp .Or [a] pos) wt := ⟨fun σ ρ W Q q S hQ hw => twOf_of (pw_or1 pt_tOf) (ha.run σ ρ W Q q S hQ hw)⟩
theorem dw_and (ha : DT C a wt) (hb : DW C (.BoolOp .And (b :: rest) pos) wu) : DW C (.BoolOp .And (a :: b :: rest) pos) (wAnd wt wu) := ⟨fun σ ρ W Q q S hQ hw => twOf_of (pw_and pt_tOf pw_tOf) (ha.run σ ρ W _ _ S (fun c W' g k q1 => by
  cases c with
  | true => exact iteT (hb.run σ ρ W' Q q (S.step g k) (fun d W2 g2 k2 q2 => hQ d W2 (g.trans g2) k2 q2) q1)
  | false => exact iteF (hQ false W' g k q1)) hw)⟩
theorem dw_or (ha : DT C a wt) (hb : DW C (.BoolOp .Or (b :: rest) pos) wu) : DW C (.BoolOp .Or (a :: b :: rest) pos) (wOr wt wu) := ⟨fun σ ρ W Q q S hQ hw => twOf_of (pw_or pt_tOf pw_tOf) (ha.run σ ρ W _ _ S (fun c W' g k q1 => by
  cases c with
  | true => exact iteT (hQ true W' g k q1)
  | false => exact iteF (hb.run σ ρ W' Q q (S.step g k) (fun d W2 g2 k2 q2 => hQ d W2 (g.trans g2) k2 q2) q1)) hw)⟩
/-- .. as values -/
@[simp] def wNotV (w : EW M) : EW M := fun ρ g q => w ρ g fun d g' => isB d fun b => q (.bl (!b)) g'
@[simp] def wAndV (w u : EW M) : EW M := fun ρ g q => w ρ g fun d g' => isB d fun b => if b = true then u ρ g' q else q (.bl false) g'
@[simp] def wOrV (w u : EW M) : EW M := fun ρ g q => w ρ g fun d g' => isB d fun b => if b = true then q (.bl true) g' else u ρ g' q
theorem de_not (ha : DE C a wa) : DE C (.UnaryOp .Not a pos) (wNotV wa) := ⟨fun σ ρ W Q q S hQ hw => tOf_of (pe_not pe_tOf) (ha.run σ ρ W _ _ S (fun v d W' g k r1 q1 => by
  obtain ⟨b, rfl, q2⟩ := isB_elim q1
  exact ⟨b, r1.bl_inv, hQ _ _ W' g k (.bl _) q2⟩) hw)⟩
theorem de_one {op : BoolOp} (ha : DE C a wa) : DE C (.BoolOp op [a] pos) wa := ⟨fun σ ρ W Q q S hQ hw => tOf_of (pe_one pe_tOf) (ha.run σ ρ W _ _ S hQ hw)⟩
theorem de_and (ha : DE C a wa) (hb : DE C (.BoolOp .And (b :: rest) pos) wb) : DE C (.BoolOp .And (a :: b :: rest) pos) (wAndV wa wb) := ⟨fun σ ρ W Q q S hQ hw => tOf_of (pe_and pe_tOf pe_tOf) (ha.run σ ρ W _ _ S (fun v d W' g k r1 q1 => by
  obtain ⟨c, rfl, q2⟩ := isB_elim q1
  refine ⟨c, r1.bl_inv, ?_⟩
  cases c with
  | true => exact iteT (hb.run σ ρ W' Q q (S.step g k) (fun v d W2 g2 k2 r2 q2 => hQ v d W2 (g.trans g2) k2 r2 q2) q2)
  | false => exact iteF (hQ _ _ W' g k (.bl _) q2)) hw)⟩
theorem de_or (ha : DE C a wa) (hb : DE C (.BoolOp .Or (b :: rest) pos) wb) : DE C (.BoolOp .Or (a :: b :: rest) pos) (wOrV wa wb) := ⟨fun σ ρ W Q q S hQ hw => tOf_of (pe_or pe_tOf pe_tOf) (ha.run σ ρ W _ _ S (fun v d W' g k r1 q1 => by
  obtain ⟨c, rfl, q2⟩ := isB_elim q1
  refine ⟨c, r1.bl_inv, ?_⟩
  cases c with
  | true => exact iteT (hQ _ _ W' g k (.bl _) q2)
  | false => exact iteF (hb.run σ ρ W' Q q (S.step g k) (fun v d W2 g2 k2 r2 q2 => hQ v d W2 (g.trans g2) k2 r2 q2) q2)) hw)⟩
@[simp] def wIf (w : TW M) (wa wb : EW M) : EW M := fun ρ g q => w ρ g fun b g' => if b = true then wa ρ g' q else wb ρ g' q
theorem de_if {c : Expr} (hc : DT C c wt) (ha : DE C a wa) (hb : DE C b wb) : DE C (.IfExp c a b pos) (wIf wt wa wb) := ⟨fun σ ρ W Q q S hQ hw => tOf_of (pe_ifExp pt_tOf pe_tOf pe_tOf) (hc.run σ ρ W _ _ S (fun c W' g k q1 => by
  cases c with
  | true => exact iteT (ha.run σ ρ W' Q q (S.step g k) (fun v d W2 g2 k2 r2 q2 => hQ v d W2 (g.trans g2) k2 r2 q2) q1)
  | false => exact iteF (hb.run σ ρ W' Q q (S.step g k) (fun v d W2 g2 k2 r2 q2 => hQ v d W2 (g.trans g2) k2 r2 q2) q1)) hw)⟩
end
end DL
set_option Elab.async false
set_option linter.all false
set_option maxRecDepth 100000
set_option maxHeartbeats 1000000
namespace DL
open PySem L2

section
variable {M : Ghost} {C : Ct M} {W W1 W2 W' : Wd M} {σ : L2.St} {ρ : DEnv}
structure K3 (M : Ghost) where
  nx : DEnv → M.G → Prop
  rt : D → M.G → Prop
  bk : DEnv → M.G → Prop
  ct : DEnv → M.G → Prop
abbrev SW (M : Ghost) := K3 M → DEnv → M.G → Prop
/-- what is wanted by data is what is wanted by the heap -/
structure Lf (C : Ct M) (W : Wd M) (k : K3 M) (E : Ends) : Prop where
  nx : ∀ σ' ρ' W', Gs W W' → Sat C σ' ρ' W' → k.nx ρ' W'.g → E.nx σ' W'.H
  rt : ∀ v d W', Go C.W0 W' → Wok C.X.K W' → Rp C.X.K W'.F W'.R v d → k.rt d W'.g → E.rt v W'.H
  bk : ∀ σ' ρ' W', Gs W W' → Sat C σ' ρ' W' → k.bk ρ' W'.g → E.bk σ' W'.H
  ct : ∀ σ' ρ' W', Gs W W' → Sat C σ' ρ' W' → k.ct ρ' W'.g → E.ct σ' W'.H
theorem Lf.step {k : K3 M} {E : Ends} (l : Lf C W k E) (g : Gs W W1) : Lf C W1 k E :=
  ⟨fun σ' ρ' W' g' => l.nx σ' ρ' W' (g.trans g'), l.rt, fun σ' ρ' W' g' => l.bk σ' ρ' W' (g.trans g'), fun σ' ρ' W' g' => l.ct σ' ρ' W' (g.trans g')⟩
def tsOf (X : Cx) (st : Stmt) : TS := fun D σ H => ∀ (pins : List (Addr × Obj)) (s : Shared), Inv X pins σ H s → wpAny (model X.prog X.w) X.A (exec st X.env) (SP X pins D) X.xe s
theorem ps_tOf {X : Cx} {st : Stmt} : PS X st (tsOf X st) := ⟨fun pins s _ _ _ I h => h pins s I⟩
theorem tsOf_of {X : Cx} {st : Stmt} {t : TS} (h : PS X st t) {E : Ends} {H : Hp} (q : t E σ H) : tsOf X st E σ H := fun pins s I => h.run pins s σ H E I q
def tssOf (X : Cx) (st : List Stmt) : TS := fun D σ H => ∀ (pins : List (Addr × Obj)) (s : Shared), Inv X pins σ H s → wpAny (model X.prog X.w) X.A (execs st X.env) (SP X pins D) X.xe s
theorem pss_tOf {X : Cx} {st : List Stmt} : PSs X st (tssOf X st) := ⟨fun pins s _ _ _ I h => h pins s I⟩
theorem tssOf_of {X : Cx} {st : List Stmt} {t : TS} (h : PSs X st t) {E : Ends} {H : Hp} (q : t E σ H) : tssOf X st E σ H := fun pins s I => h.run pins s σ H E I q
structure DS (C : Ct M) (st : Stmt) (w : SW M) : Prop where
  run : ∀ (σ : L2.St) (ρ : DEnv) (W : Wd M) (k : K3 M) (E : Ends), Sat C σ ρ W → Lf C W k E → w k ρ W.g → tsOf C.X st E σ W.H
structure DSs (C : Ct M) (st : List Stmt) (w : SW M) : Prop where
  run : ∀ (σ : L2.St) (ρ : DEnv) (W : Wd M) (k : K3 M) (E : Ends), Sat C σ ρ W → Lf C W k E → w k ρ W.g → tssOf C.X st E σ W.H
variable {st : Stmt} {sts : List Stmt} {w u : SW M} {e : Expr} {we : EW M} {pos : Pos}
@[simp] def wNext : SW M := fun k ρ g => k.nx ρ g
@[simp] def wSeq (w u : SW M) : SW M := fun k ρ g => w { k with nx := u k } ρ g
theorem dss_nil : DSs C [] wNext := ⟨fun σ ρ W k E S l h => tssOf_of pss_nil (l.nx σ ρ W (Gs.refl W) S h)⟩
theorem dss_cons (h1 : DS C st w) (h2 : DSs C sts u) : DSs C (st :: sts) (wSeq w u) := ⟨fun σ ρ W k E S l h =>
  tssOf_of (pss_cons ps_tOf pss_tOf) (h1.run σ ρ W { k with nx := u k } _ S ⟨fun σ' ρ' W' g S' q => h2.run σ' ρ' W' k E S' (l.step g) q, l.rt, l.bk, l.ct⟩ h)⟩
theorem dss_one (h1 : DS C st w) : DSs C [st] w := ⟨fun σ ρ W k E S l h => tssOf_of (pss_one ps_tOf) (h1.run σ ρ W _ _ S l h)⟩
@[simp] def wBreak : SW M := fun k ρ g => k.bk ρ g
@[simp] def wCont : SW M := fun k ρ g => k.ct ρ g
theorem ds_pass : DS C (.Pass pos) wNext := ⟨fun σ ρ W k E S l h => tsOf_of ps_pass (l.nx σ ρ W (Gs.refl W) S h)⟩
theorem ds_break : DS C (.Break pos) wBreak := ⟨fun σ ρ W k E S l h => tsOf_of ps_break (l.bk σ ρ W (Gs.refl W) S h)⟩
theorem ds_continue : DS C (.Continue pos) wCont := ⟨fun σ ρ W k E S l h => tsOf_of ps_continue (l.ct σ ρ W (Gs.refl W) S h)⟩
@[simp] def wDrop (w : EW M) : SW M := fun k ρ g => w ρ g fun _ g' => k.nx ρ g'
theorem ds_expr (he : DE C e we) (hs : swapsWith e none pos.line C.X.env = pure false := by rfl) : DS C (.Expr e pos) (wDrop we) := ⟨fun σ ρ W k E S l h =>
  tsOf_of (ps_expr pe_tOf hs) (he.run σ ρ W _ _ S (fun v d W' g ok r q => l.nx σ ρ W' g.s (S.step g ok) q) h)⟩
@[simp] def wRet (w : EW M) : SW M := fun k ρ g => w ρ g k.rt
theorem ds_ret (he : DE C e we) : DS C (.Return (some e) pos) (wRet we) := ⟨fun σ ρ W k E S l h =>
  tsOf_of (ps_ret pe_tOf) (he.run σ ρ W _ _ S (fun v d W' g ok r q => l.rt v d W' (S.go.trans g) ok r q) h)⟩
@[simp] def wRetN : SW M := fun k ρ g => k.rt .non g
theorem ds_retN : DS C (.Return none pos) wRetN := ⟨fun σ ρ W k E S l h => tsOf_of ps_retN (l.rt .non .non W S.go S.ok .non h)⟩
/-- return of a list of one's own: it is frozen -/
@[simp] def wRetO (i : Nat) : SW M := fun k ρ g => ∃ ds, ρ[i]? = some (.own ds) ∧ k.rt (.lst ds) g
theorem ds_retO {i : Nat} {x : Str} {pos' : Pos} (h : PE C.X (.Name x pos') (tVar i)) : DS C (.Return (some (.Name x pos')) pos) (wRetO i) := ⟨fun σ ρ W k E S l hw => by
  obtain ⟨ds, e, hq⟩ := hw
  obtain ⟨o, h1, p, vs, h2, h3, h4, h5, h6, r⟩ := S.sl i _ e
  subst h2
  exact tsOf_of (ps_ret h) ⟨.ref p, h1, l.rt _ _ (W.freeze p (.lst vs)) (Go.freeze S.go h4 h6) (S.ok.freeze h3 h4 h5) (.lst upd_same (r.mono (same_new h4) fun _ _ z => z)) hq⟩⟩
@[simp] def wIfS (c : TW M) (w u : SW M) : SW M := fun k ρ g => c ρ g fun b g' => if b = true then w k ρ g' else u k ρ g'
theorem ds_if {c : Expr} {a b : List Stmt} {wc : TW M} (hc : DT C c wc) (ha : DSs C a w) (hb : DSs C b u) : DS C (.If c a b pos) (wIfS wc w u) := ⟨fun σ ρ W k E S l h =>
  tsOf_of (ps_if pt_tOf pss_tOf pss_tOf) (hc.run σ ρ W _ _ S (fun b W' g ok q => by
    cases b with
    | true => exact iteT (ha.run σ ρ W' k E (S.step g ok) (l.step g.s) q)
    | false => exact iteF (hb.run σ ρ W' k E (S.step g ok) (l.step g.s) q)) h)⟩

theorem slOk_fresh (S : Sat C σ ρ W) (g : Go W W') {v : V} {s : Sl} (f : Fresh C.X.K W W' v s) : SlOk C W' s (some v) := by
  have old : ∀ p, W.H p = none → C.W0.H p = none := fun p h4 => by
    cases q : C.W0.H p with
    | none => rfl
    | some o => exact absurd h4 (S.go.live p (by rw [q]; simp))
  cases s with
  | no => trivial
  | im d => exact ⟨v, rfl, f⟩
  | own ds =>
    obtain ⟨p, vs, e, h1, h2, h3, h4, r⟩ := f
    exact ⟨p, vs, by rw [e], h1, h2, h3, old p h4, r⟩
  | odt ds =>
    obtain ⟨p, vs, e, h1, h2, h3, h4, r⟩ := f
    exact ⟨p, vs, by rw [e], h1, h2, h3, old p h4, r⟩
theorem own_live (S : Sat C σ ρ W) {m : Nat} {t : Sl} {p : Addr} (ow : t.isOwn = true) (e1 : ρ[m]? = some t) (e2 : σ[m]? = some (some (.ref p))) : W.H p ≠ none := by
  obtain ⟨o, h1, h2⟩ := S.sl m _ e1
  obtain ⟨q, u, h3, h4, _⟩ := h2.live ow
  rw [e2] at h1
  cases h1
  cases h3
  rw [h4]
  simp
/-- a value put into a slot that stands apart from the others -/
theorem Sat.puts (S : Sat C σ ρ W) {v : V} {s : Sl} (f : SlOk C W s (some v)) (i : Nat) (ap : ∀ p, s.isOwn = true → v = .ref p → ∀ (m : Nat) t, t.isOwn = true → m ≠ i → ρ[m]? = some t → σ[m]? ≠ some (some (.ref p))) :
    Sat C (σ.set i (some v)) (ρ.set i s) W := by
  refine ⟨S.ok, S.go, by rw [List.length_set, List.length_set, S.len], fun j t e => ?_, fun j l d1 d2 q e1 e2 w1 w2 e3 e4 => ?_, S.gs⟩
  · by_cases hij : i = j
    · subst hij
      have hlt : i < ρ.length := by
        have := (List.getElem?_eq_some_iff.mp e).1
        rwa [List.length_set] at this
      rw [List.getElem?_set_self hlt] at e
      cases e
      exact ⟨some v, List.getElem?_set_self (by rw [S.len]; exact hlt), f⟩
    · rw [List.getElem?_set_ne hij] at e
      obtain ⟨o, h1, h2⟩ := S.sl j t e
      exact ⟨o, by rw [List.getElem?_set_ne hij]; exact h1, h2⟩
  · have here : ∀ (m : Nat) d, i = m → (ρ.set i s)[m]? = some d → (σ.set i (some v))[m]? = some (some (.ref q)) → s = d ∧ v = .ref q := fun m d hm e1 e2 => by
      subst hm
      have hlt : i < ρ.length := by
        have := (List.getElem?_eq_some_iff.mp e1).1
        rwa [List.length_set] at this
      rw [List.getElem?_set_self hlt] at e1
      rw [List.getElem?_set_self (by rw [S.len]; exact hlt)] at e2
      exact ⟨Option.some.inj e1, Option.some.inj (Option.some.inj e2)⟩
    by_cases hj : i = j
    · by_cases hl : i = l
      · exact hj.symm.trans hl
      · obtain ⟨h1, h2⟩ := here j d1 hj e1 e3
        rw [List.getElem?_set_ne hl] at e2 e4
        exact absurd e4 (ap _ (h1 ▸ w1) h2 l d2 w2 (fun z => hl z.symm) e2)
    · by_cases hl : i = l
      · obtain ⟨h1, h2⟩ := here l d2 hl e2 e4
        rw [List.getElem?_set_ne hj] at e1 e3
        exact absurd e3 (ap _ (h1 ▸ w2) h2 j d1 w1 (fun z => hj z.symm) e1)
      · rw [List.getElem?_set_ne hj] at e1 e3
        rw [List.getElem?_set_ne hl] at e2 e4
        exact S.dis j l d1 d2 q e1 e2 w1 w2 e3 e4
theorem fresh_dead {K : PySem.W.Frag} {v : V} {s : Sl} {p : Addr} (f : Fresh K W W' v s) (ow : s.isOwn = true) (e : v = .ref p) : W.H p = none := by
  obtain ⟨p', u, e', h1, h2, h3, h4⟩ := f.live ow
  rw [e] at e'
  cases e'
  exact h4
theorem fresh_live {K : PySem.W.Frag} {v : V} {s : Sl} {p : Addr} (f : Fresh K W W' v s) (ow : s.isOwn = true) (e : v = .ref p) : W'.H p ≠ none := by
  obtain ⟨p', u, e', h1, h2, h3, h4⟩ := f.live ow
  rw [e] at e'
  cases e'
  rw [h1]
  simp
theorem Sat.set (S : Sat C σ ρ W) (g : Go W W') (ok : Wok C.X.K W') {v : V} {s : Sl} (f : Fresh C.X.K W W' v s) (i : Nat) : Sat C (σ.set i (some v)) (ρ.set i s) W' :=
  (S.step g ok).puts (slOk_fresh S g f) i fun p w1 e m t w2 _ e1 e2 => own_live S w2 e1 e2 (fresh_dead f w1 e)
@[simp] def wSet (i : Nat) (w : VW M) : SW M := fun k ρ g => w ρ g fun s g' => k.nx (ρ.set i s) g'
theorem ds_set {i : Nat} {x : Str} {pos' : Pos} {wv : VW M} (hN : C.X.N.Nodup) (hi : C.X.N[i]? = some x) (hx : Loc C.X.env.scope x) (he : DV C e wv) (hs : swapsWith e (some (.Name x pos')) pos.line C.X.env = pure false := by rfl)
    (hf : C.X.fn x = true ∨ C.X.env.scope.names.lookup x = some .local := by first | exact .inl rfl | exact .inr rfl | assumption) : DS C (.Assign [.Name x pos'] e pos) (wSet i wv) := ⟨fun σ ρ W k E S l h =>
  tsOf_of (ps_set hN hi hx pe_tOf hs hf) (he.run σ ρ W _ _ S (fun v s W' g ok f q => l.nx _ _ W' g.s (S.set g ok f i) q) h)⟩
/-- a thing of one's own, written -/
theorem Sat.writeG (S : Sat C σ ρ W) {i : Nat} {s0 s1 : Sl} {p : Addr} {u : HO} (e : ρ[i]? = some s0) (ow : s0.isOwn = true) (ow1 : s1.isOwn = true) (hp : σ[i]? = some (some (.ref p))) (f : W.F p = none → p ∉ W.R → C.W0.H p = none → SlOk C (W.put p u) s1 (some (.ref p))) :
    Sat C σ (ρ.set i s1) (W.put p u) ∧ Gs W (W.put p u) := by
  obtain ⟨o, h1, h2⟩ := S.sl i _ e
  obtain ⟨p', v, h2, h3, h4, h5, h6⟩ := h2.live ow
  rw [hp] at h1
  cases h1
  cases h2
  have hlt : i < ρ.length := (List.getElem?_eq_some_iff.mp e).1
  refine ⟨⟨S.ok.put h4 h5, S.go.put h6, by rw [List.length_set]; exact S.len, fun j t ej => ?_, fun j l d1 d2 q e1 e2 w1 w2 e3 e4 => ?_, S.gs.trans ⟨Same.refl _, fun _ _ h => h⟩⟩, Same.refl _, fun _ _ h => h⟩
  · by_cases hij : i = j
    · subst hij
      rw [List.getElem?_set_self hlt] at ej
      cases ej
      exact ⟨_, hp, f h4 h5 h6⟩
    · rw [List.getElem?_set_ne hij] at ej
      obtain ⟨o, q1, q2⟩ := S.sl j t ej
      refine ⟨o, q1, ?_⟩
      have ne : ∀ p2, t.isOwn = true → o = some (.ref p2) → upd W.H p u p2 = W.H p2 := fun p2 wt eo => upd_ne (fun z => hij (by subst z; exact S.dis i j _ _ p2 e ej ow wt hp (eo ▸ q1)))
      cases t with
      | no => trivial
      | im d => exact q2
      | own d2 =>
        obtain ⟨p2, v2, a1, a2, a3, a4, a5, a6⟩ := q2
        exact ⟨p2, v2, a1, (ne p2 rfl a1).trans a2, a3, a4, a5, a6⟩
      | odt d2 =>
        obtain ⟨p2, v2, a1, a2, a3, a4, a5, a6⟩ := q2
        exact ⟨p2, v2, a1, (ne p2 rfl a1).trans a2, a3, a4, a5, a6⟩
  · have back : ∀ (j : Nat) d, (ρ.set i s1)[j]? = some d → d.isOwn = true → ∃ d', ρ[j]? = some d' ∧ d'.isOwn = true := fun j d ej wd => by
      by_cases hij : i = j
      · subst hij; exact ⟨_, e, ow⟩
      · rw [List.getElem?_set_ne hij] at ej; exact ⟨_, ej, wd⟩
    obtain ⟨d1', e1', w1'⟩ := back j d1 e1 w1
    obtain ⟨d2', e2', w2'⟩ := back l d2 e2 w2
    exact S.dis j l _ _ q e1' e2' w1' w2' e3 e4
/-- a list of one's own, written -/
theorem Sat.write (S : Sat C σ ρ W) {i : Nat} {ds : List D} {p : Addr} {ws : List V} {es : List D} (e : ρ[i]? = some (.own ds)) (hp : σ[i]? = some (some (.ref p))) (r : RpA C.X.K W.F W.R ws es) :
    Sat C σ (ρ.set i (.own es)) (W.put p (.lst ws)) ∧ Gs W (W.put p (.lst ws)) :=
  S.writeG e rfl rfl hp fun h4 h5 h6 => ⟨p, ws, rfl, upd_same, h4, h5, h6, r⟩
/-- freezing a slot, where nothing is done -/
theorem Sat.frz (S : Sat C σ ρ W) {i : Nat} {ds : List D} (e : ρ[i]? = some (.own ds)) : ∃ W', W'.H = W.H ∧ W'.g = W.g ∧ Gs W W' ∧ Sat C σ (ρ.set i (.im (.lst ds))) W' := by
  obtain ⟨o, h1, p, vs, h2, h3, h4, h5, h6, r⟩ := S.sl i _ e
  subst h2
  have hlt : i < ρ.length := (List.getElem?_eq_some_iff.mp e).1
  have rr : ∀ {v d}, Rp C.X.K W.F W.R v d → Rp C.X.K (upd W.F p (.lst vs)) W.R v d := fun h => h.mono (same_new h4) fun _ _ z => z
  refine ⟨W.freeze p (.lst vs), rfl, rfl, ⟨same_new h4, fun _ _ h => h⟩, S.ok.freeze h3 h4 h5, Go.freeze S.go h4 h6, by rw [List.length_set]; exact S.len, fun j t ej => ?_, fun j l d1 d2 q e1 e2 w1 w2 e3 e4 => ?_, S.gs.trans ⟨same_new h4, fun _ _ h => h⟩⟩
  · by_cases hij : i = j
    · subst hij
      rw [List.getElem?_set_self hlt] at ej
      cases ej
      exact ⟨_, h1, .ref p, rfl, .lst upd_same (r.mono (same_new h4) fun _ _ z => z)⟩
    · rw [List.getElem?_set_ne hij] at ej
      obtain ⟨o, q1, q2⟩ := S.sl j t ej
      refine ⟨o, q1, ?_⟩
      have ne : ∀ p2, t.isOwn = true → o = some (.ref p2) → upd W.F p (.lst vs) p2 = W.F p2 := fun p2 wt eo => upd_ne (fun z => hij (by subst z; exact S.dis i j _ _ p2 e ej rfl wt h1 (eo ▸ q1)))
      cases t with
      | no => trivial
      | im d =>
        obtain ⟨v, a1, a2⟩ := q2
        exact ⟨v, a1, rr a2⟩
      | own d2 =>
        obtain ⟨p2, v2, a1, a2, a3, a4, a5, a6⟩ := q2
        exact ⟨p2, v2, a1, a2, (ne p2 rfl a1).trans a3, a4, a5, a6.mono (same_new h4) fun _ _ z => z⟩
      | odt d2 =>
        obtain ⟨p2, v2, a1, a2, a3, a4, a5, a6⟩ := q2
        exact ⟨p2, v2, a1, a2, (ne p2 rfl a1).trans a3, a4, a5, a6.mono (same_new h4) fun _ _ z => z⟩
  · have back : ∀ (j : Nat) d, (ρ.set i (.im (.lst ds)))[j]? = some d → d.isOwn = true → ρ[j]? = some d := fun j d ej wd => by
      by_cases hij : i = j
      · subst hij
        rw [List.getElem?_set_self hlt] at ej
        cases ej
        cases wd
      · rw [List.getElem?_set_ne hij] at ej; exact ej
    exact S.dis j l _ _ q (back j d1 e1 w1) (back l d2 e2 w2) w1 w2 e3 e4
@[simp] def wFrz (i : Nat) (w : SW M) : SW M := fun k ρ g => ∃ ds, ρ[i]? = some (.own ds) ∧ w k (ρ.set i (.im (.lst ds))) g
theorem dss_frz (i : Nat) (h : DSs C sts w) : DSs C sts (wFrz i w) := ⟨fun σ ρ W k E S l hw => by
  obtain ⟨ds, e, hw⟩ := hw
  obtain ⟨W', e1, e2, g, S'⟩ := S.frz e
  rw [← e1]
  exact h.run σ _ W' k E S' (l.step g) (by rw [e2]; exact hw)⟩

abbrev GW := D → DEnv → (DEnv → Prop) → Prop
abbrev GWs := List D → DEnv → (DEnv → Prop) → Prop
def tgOf (X : Cx) (tg : Expr) : TG := fun v σ H Q => ∀ (pins : List (Addr × Obj)) (s : Shared) (u : Value), Inv X pins σ H s → RelV v u →
  wpAny (model X.prog X.w) X.A (assign tg X.env u) (fun _ s' => ∃ σ' H', Inv X pins σ' H' s' ∧ Q σ' H') X.xe s
theorem pg_tOf {X : Cx} {tg : Expr} : PG X tg (tgOf X tg) := ⟨fun pins s _ _ _ u _ I r h => h pins s u I r⟩
theorem tgOf_of {X : Cx} {tg : Expr} {t : TG} (h : PG X tg t) {v : V} {H : Hp} {Q : L2.St → Hp → Prop} (q : t v σ H Q) : tgOf X tg v σ H Q := fun pins s u I r => h.run pins s σ H v u Q I r q
def tgsOf (X : Cx) (ts : List Expr) : TGs := fun vs σ H Q => ∀ (pins : List (Addr × Obj)) (s : Shared) (us : List Value), Inv X pins σ H s → Vals vs us →
  wpAny (model X.prog X.w) X.A (assignInOrder ((assignEach ts X.env).map (·.2)) us) (fun _ s' => ∃ σ' H', Inv X pins σ' H' s' ∧ Q σ' H') X.xe s
theorem pgs_tOf {X : Cx} {ts : List Expr} : PGs X ts (tgsOf X ts) := ⟨fun pins s _ _ _ us _ I r h => h pins s us I r⟩
theorem tgsOf_of {X : Cx} {ts : List Expr} {t : TGs} (h : PGs X ts t) {vs : List V} {H : Hp} {Q : L2.St → Hp → Prop} (q : t vs σ H Q) : tgsOf X ts vs σ H Q := fun pins s us I r => h.run pins s σ H vs us Q I r q
structure DG (C : Ct M) (is : List Nat) (tg : Expr) (w : GW) : Prop where
  run : ∀ (σ : L2.St) (ρ : DEnv) (W : Wd M) (v : V) (d : D) (Q : L2.St → Hp → Prop) (q : DEnv → Prop), Sat C σ ρ W → Rp C.X.K W.F W.R v d →
    (∀ σ' ρ', Sat C σ' ρ' W → σ'.length = σ.length → (∀ j, j ∉ is → σ'[j]? = σ[j]?) → q ρ' → Q σ' W.H) → w d ρ q → tgOf C.X tg v σ W.H Q
structure DGs (C : Ct M) (is : List Nat) (ts : List Expr) (w : GWs) : Prop where
  run : ∀ (σ : L2.St) (ρ : DEnv) (W : Wd M) (vs : List V) (ds : List D) (Q : L2.St → Hp → Prop) (q : DEnv → Prop), Sat C σ ρ W → RpA C.X.K W.F W.R vs ds →
    (∀ σ' ρ', Sat C σ' ρ' W → σ'.length = σ.length → (∀ j, j ∉ is → σ'[j]? = σ[j]?) → q ρ' → Q σ' W.H) → w ds ρ q → tgsOf C.X ts vs σ W.H Q
@[simp] def gwN (i : Nat) : GW := fun d ρ q => q (ρ.set i (.im d))
@[simp] def gwNil : GWs := fun ds ρ q => match ds with
  | [] => q ρ
  | _ => False
@[simp] def gwCons (w : GW) (u : GWs) : GWs := fun ds ρ q => match ds with
  | d :: ds => w d ρ fun ρ' => u ds ρ' q
  | [] => False
@[simp] def gwT (n : Nat) (u : GWs) : GW := fun d ρ q => match d with
  | .tup ds => ds.length = n ∧ u ds ρ q
  | _ => False
theorem dg_name {i : Nat} {x : Str} (h : PG C.X (.Name x pos) (gName i)) : DG C [i] (.Name x pos) (gwN i) := ⟨fun σ ρ W v d Q q S r hQ hw =>
  tgOf_of h (hQ _ _ (S.set (Go.refl W) S.ok (s := .im d) r i) (by simp) (fun j hj => by rw [List.getElem?_set_ne (by simpa using Ne.symm (by simpa using hj))]) hw)⟩
theorem dgs_nil : DGs C [] [] gwNil := ⟨fun σ ρ W vs ds Q q S r hQ hw => by
  cases ds with
  | nil =>
    cases r
    exact tgsOf_of pgs_nil ⟨rfl, hQ σ ρ S rfl (fun _ _ => rfl) hw⟩
  | cons d ds => exact hw.elim⟩
theorem dgs_cons {is js : List Nat} {tg : Expr} {ts : List Expr} {gw : GW} {gs : GWs} (h1 : DG C is tg gw) (h2 : DGs C js ts gs)
    (hs : (assignEach (tg :: ts) C.X.env).map (·.2) = assign tg C.X.env :: (assignEach ts C.X.env).map (·.2) := by rfl) : DGs C (is ++ js) (tg :: ts) (gwCons gw gs) := ⟨fun σ ρ W vs ds Q q S r hQ hw => by
  cases ds with
  | nil => exact hw.elim
  | cons d ds =>
    cases r with
    | cons r1 r2 =>
      refine tgsOf_of (pgs_cons pg_tOf pgs_tOf hs) ⟨_, _, rfl, h1.run σ ρ W _ d _ _ S r1 (fun σ' ρ' S' l1 k1 q1 => ?_) hw⟩
      refine h2.run σ' ρ' W _ ds _ _ S' r2 (fun σ2 ρ2 S2 l2 k2 q2 => hQ σ2 ρ2 S2 (l2.trans l1) (fun j hj => ?_) q2) q1
      rw [List.mem_append, not_or] at hj
      rw [k2 j hj.2, k1 j hj.1]⟩
theorem dg_tup {is : List Nat} {ts : List Expr} {kk n : Nat} {gs : GWs} (hc : C.X.calm = true) (h : DGs C is ts gs) (hn : (assignEach ts C.X.env).length = n := by rfl) (hst : (assignEach ts C.X.env).findIdx? (·.1) = none := by rfl) :
    DG C is (.Tuple ts kk pos) (gwT n gs) := ⟨fun σ ρ W v d Q q S r hQ hw => by
  cases d with
  | tup ds =>
    cases r with
    | tup hs r2 =>
      refine tgOf_of (pg_tup hc pgs_tOf hn hst) ⟨_, _, rfl, same_tup S.ok.sub hs, by rw [r2.length]; exact hw.1, h.run σ ρ W _ ds _ _ S r2 hQ hw.2⟩
  | _ => exact hw.elim⟩

structure WK (K : PySem.W.Frag) (Ws : Wd M) (J : It) (ds : List D) : Prop where
  go : ∀ (i : Nat) (W : Wd M) d, Gs Ws W → Wok K W → ds[i]? = some d → J.go i W.H ∧ ∀ x H', J.yld i W.H x H' → ∃ W', W'.H = H' ∧ Go W W' ∧ Wok K W' ∧ W'.g = W.g ∧ Rp K W'.F W'.R x d
  stop : ∀ (i : Nat) (W : Wd M), Gs Ws W → Wok K W → ds[i]? = none → J.stop i W.H
abbrev IW (M : Ghost) := DEnv → M.G → (List D → M.G → Prop) → Prop
def iOf (X : Cx) (tg iter : Expr) : TI := fun σ H R => ∀ (pins : List (Addr × Obj)) (s : Shared), Inv X pins σ H s →
  wpAny (model X.prog X.w) X.A (eval iter X.env) (fun v s1 => wpAny (model X.prog X.w) X.A (pyIter v) (PIE X pins σ tg R) X.xe s1) X.xe s
theorem pi_tOf {X : Cx} {tg iter : Expr} : PI X tg iter (iOf X tg iter) := ⟨fun pins s _ _ _ I h => h pins s I⟩
theorem iOf_of {X : Cx} {tg iter : Expr} {t : TI} (h : PI X tg iter t) {H : Hp} {R : It → Hp → Prop} (q : t σ H R) : iOf X tg iter σ H R := fun pins s I => h.run pins s σ H R I q
structure DI (C : Ct M) (tg iter : Expr) (w : IW M) : Prop where
  run : ∀ (σ : L2.St) (ρ : DEnv) (W : Wd M) (R : It → Hp → Prop) (q : List D → M.G → Prop), Sat C σ ρ W → (∀ J ds W', Go W W' → Wok C.X.K W' → WK C.X.K W' J ds → q ds W'.g → R J W'.H) → w ρ W.g q → iOf C.X tg iter σ W.H R
/-- a list, a tuple or a text that stands still -/
def itemsOf : D → Option (List D)
  | .lst ds => some ds
  | .tup ds => some ds
  | .str x => some (x.map fun c => .str [c])
  | _ => none
@[simp] def wItems (w : EW M) : IW M := fun ρ g q => w ρ g fun d g' => ∃ ds, itemsOf d = some ds ∧ q ds g'
def iSeq (K : PySem.W.Frag) (tl : TE) : TI := fun σ H R => tl σ H fun x H1 => (∃ a xs, x = .ref a ∧ SqL K H1 a xs ∧ R (Itl K a) H1) ∨ (∃ a xs, x = .ref a ∧ SqT K H1 a xs ∧ R (Itt K a) H1) ∨ (∃ z, x = .str z ∧ R (Its z) H1)
theorem pi_seq {X : Cx} {tg l : Expr} {tl : TE} (hl : PE X l tl) : PI X tg l (iSeq X.K tl) := by
  refine ⟨fun pins s σ H R I h => ?_⟩
  refine thn (hl.run pins s σ H _ I h) fun v s1 ⟨x, H1, I1, r1, q1⟩ => ?_
  rcases q1 with ⟨a, xs, rfl, hq, q⟩ | ⟨a, xs, rfl, hq, q⟩ | ⟨z, rfl, q⟩
  · cases r1
    obtain ⟨its, rv, p, hz⟩ := I1.list hq
    refine wpAny_pyIter_list p.isList ?_
    refine ⟨s1.heap.objs.size, [s1.heap.objs.size], _, _, H1, rfl, I1.kept (t' := s1.toks) fun b o e => Heap.get?_push_of_some _ e, turn_list a _, ⟨_, Heap.get?_push_size _ rfl, rfl, rfl⟩, fun b hb => ?_, q⟩
    have e : b = s1.heap.objs.size := by simpa using hb
    subst e
    exact I1.fpOk (Nat.le_refl _) (I1.hok.fresh (Nat.le_refl _))
  · cases r1
    obtain ⟨its, rv, p, hz⟩ := I1.tuple hq
    refine wpAny_pyIter_tuple (show s1.heap.IsTuple a its.toArray from p) ?_
    refine ⟨s1.heap.objs.size, [s1.heap.objs.size], _, _, H1, rfl, I1.kept (t' := s1.toks) fun b o e => Heap.get?_push_of_some _ e, turn_tuple a _, ⟨_, Heap.get?_push_size _ rfl, rfl, rfl⟩, fun b hb => ?_, q⟩
    have e : b = s1.heap.objs.size := by simpa using hb
    subst e
    exact I1.fpOk (Nat.le_refl _) (I1.hok.fresh (Nat.le_refl _))
  · obtain ⟨t, rfl⟩ := r1
    cases ha : z.cps.all (· < 128)
    · exact wpAny_pyIter_wide ha (pi_one (tk := s1.toks) I1 _ (turn_str _ z t "str_iterator" (.inr rfl)) ⟨_, Heap.get?_push_size _ rfl, rfl, rfl⟩ q)
    · exact wpAny_pyIter_ascii ha (pi_one (tk := s1.toks) I1 _ (turn_str _ z t "str_ascii_iterator" (.inl rfl)) ⟨_, Heap.get?_push_size _ rfl, rfl, rfl⟩ q)
theorem wk_lst {K : PySem.W.Frag} {a : Addr} {vs : List V} {ds : List D} (h : W.F a = some (.lst vs)) (r : RpA K W.F W.R vs ds) : WK K W (Itl K a) ds where
  go := fun i W1 d g k e => by
    obtain ⟨v, e1, e2⟩ := r.get' e
    have hl : SqL K W1.H a vs := .of (k.sub _ _ (g.sub _ _ h))
    refine ⟨⟨vs, v, hl, e1⟩, fun x H' y => ?_⟩
    obtain ⟨rfl, y⟩ := y
    have ex : x = v := Option.some.inj ((y _ hl).symm.trans e1)
    subst ex
    exact ⟨W1, rfl, Go.refl _, k, rfl, e2.gs g⟩
  stop := fun i W1 g k e => ⟨vs, .of (k.sub _ _ (g.sub _ _ h)), by rw [r.length]; exact List.getElem?_eq_none_iff.mp e⟩
theorem wk_tup {K : PySem.W.Frag} {a : Addr} {vs : List V} {ds : List D} (h : SqT K W.F a vs) (r : RpA K W.F W.R vs ds) : WK K W (Itt K a) ds where
  go := fun i W1 d g k e => by
    obtain ⟨v, e1, e2⟩ := r.get' e
    have hl : SqT K W1.H a vs := same_tup k.sub (same_tup g.sub h)
    refine ⟨⟨vs, v, hl, e1⟩, fun x H' y => ?_⟩
    obtain ⟨rfl, y⟩ := y
    have ex : x = v := Option.some.inj ((y _ hl).symm.trans e1)
    subst ex
    exact ⟨W1, rfl, Go.refl _, k, rfl, e2.gs g⟩
  stop := fun i W1 g k e => ⟨vs, same_tup k.sub (same_tup g.sub h), by rw [r.length]; exact List.getElem?_eq_none_iff.mp e⟩
theorem wk_str {K : PySem.W.Frag} {z : Str} : WK K W (Its z) (z.cps.toList.map fun c => .str [c]) where
  go := fun i W1 d g k e => by
    rw [List.getElem?_map] at e
    cases q : z.cps.toList[i]? with
    | none => rw [q] at e; cases e
    | some c =>
      rw [q] at e
      cases e
      have hi : i < z.cps.size := by
        have := (List.getElem?_eq_some_iff.mp q).1
        simpa using this
      refine ⟨hi, fun x H' y => ?_⟩
      obtain ⟨rfl, c', e1, rfl⟩ := y
      refine ⟨W1, rfl, Go.refl _, k, rfl, .str _ _ ?_⟩
      have : z.cps.toList[i]? = some c' := by simpa using e1
      rw [q] at this
      cases this
      rfl
  stop := fun i W1 g k e => by
    have := List.getElem?_eq_none_iff.mp e
    rw [List.length_map] at this
    show z.cps.size ≤ i
    simpa using this
theorem di_seq {tg : Expr} (he : DE C e we) : DI C tg e (wItems we) := ⟨fun σ ρ W R q S hR hw => iOf_of (pi_seq pe_tOf) (he.run σ ρ W _ _ S (fun v d W' g k r q1 => by
  obtain ⟨ds, e1, q1⟩ := q1
  cases d with
  | lst ds' =>
    cases e1
    cases r with
    | lst h r2 => exact .inl ⟨_, _, rfl, .of (k.sub _ _ h), hR _ _ W' g k (wk_lst h r2) q1⟩
  | tup ds' =>
    cases e1
    cases r with
    | tup h r2 => exact .inr (.inl ⟨_, _, rfl, same_tup k.sub h, hR _ _ W' g k (wk_tup h r2) q1⟩)
  | str x =>
    cases e1
    cases r with
    | str z _ h =>
      subst h
      exact .inr (.inr ⟨z, rfl, hR _ _ W' g k wk_str q1⟩)
  | _ => cases e1) hw)⟩

def forW (gw : GW) (wb : SW M) : List D → SW M
  | [], k => k.nx
  | d :: ds, k => fun ρ g => gw d ρ fun ρ' => wb { nx := forW gw wb ds k, rt := k.rt, bk := k.nx, ct := forW gw wb ds k } ρ' g
@[simp] def wFor (wi : IW M) (gw : GW) (wb : SW M) : SW M := fun k ρ g => wi ρ g fun ds g' => forW gw wb ds k ρ g'
theorem ds_for {tg iter : Expr} {body : List Stmt} {is : List Nat} {wi : IW M} {gw : GW} {wb : SW M} (hp : PassesOwn (model C.X.prog C.X.w) C.X.A C.X.env C.X.xe) (hc : C.X.calm = true) (hi : DI C tg iter wi) (hg : DG C is tg gw) (hb : DSs C body wb)
    (hs : ∀ x, foldedSetIterable iter C.X.env x = pure x := by intro _; rfl) : DS C (.For tg iter body [] pos) (wFor wi gw wb) := ⟨fun σ ρ W k E S l h => by
  refine tsOf_of (ps_for hp hc pi_tOf pg_tOf pss_tOf hs) (hi.run σ ρ W _ _ S (fun J ds W1 g1 k1 wk q1 => ?_) h)
  refine ⟨fun i m σ H => ∃ (ρ : DEnv) (W2 : Wd M), W2.H = H ∧ Sat C σ ρ W2 ∧ Gs W1 W2 ∧ m = ds.length - i ∧ forW gw wb (ds.drop i) k ρ W2.g, ⟨ds.length, ρ, W1, rfl, S.step g1 k1, Gs.refl _, rfl, q1⟩, ?_⟩
  rintro i m σ2 H2 ⟨ρ2, W2, rfl, S2, g2, rfl, q2⟩
  cases hd : ds[i]? with
  | none =>
    have e : ds.drop i = [] := List.drop_eq_nil_of_le (List.getElem?_eq_none_iff.mp hd)
    rw [e] at q2
    exact .inl ⟨wk.stop i W2 g2 S2.ok hd, l.nx σ2 ρ2 W2 (g1.s.trans g2) S2 q2⟩
  | some d =>
    obtain ⟨hlt, hd'⟩ := List.getElem?_eq_some_iff.mp hd
    have e : ds.drop i = d :: ds.drop (i + 1) := by rw [List.drop_eq_getElem_cons hlt, hd']
    rw [e] at q2
    obtain ⟨go, yld⟩ := wk.go i W2 d g2 S2.ok hd
    refine .inr ⟨go, fun σ H => ∃ (ρ : DEnv) (W3 : Wd M), W3.H = H ∧ Sat C σ ρ W3 ∧ Gs W1 W3 ∧ forW gw wb (ds.drop (i + 1)) k ρ W3.g, ?_, fun x H' y => ?_⟩
    · rintro σ' H' ⟨ρ3, W3, e3, S3, g3, q3⟩
      exact ⟨ds.length - (i + 1), by omega, ρ3, W3, e3, S3, g3, rfl, q3⟩
    · obtain ⟨W3, rfl, g3, k3, e3, r3⟩ := yld x H' y
      rw [← e3] at q2
      refine hg.run σ2 ρ2 W3 x d _ _ (S2.step g3 k3) r3 (fun σ4 ρ4 S4 _ _ q4 => ?_) q2
      have g13 : Gs W1 W3 := g2.trans g3.s
      have nx : ∀ σ' ρ' W', Gs W3 W' → Sat C σ' ρ' W' → forW gw wb (ds.drop (i + 1)) k ρ' W'.g → ∃ (ρ : DEnv) (W4 : Wd M), W4.H = W'.H ∧ Sat C σ' ρ W4 ∧ Gs W1 W4 ∧ forW gw wb (ds.drop (i + 1)) k ρ W4.g :=
        fun σ' ρ' W' g S' q => ⟨ρ', W', rfl, S', g13.trans g, q⟩
      exact hb.run σ4 ρ4 W3 { nx := forW gw wb (ds.drop (i + 1)) k, rt := k.rt, bk := k.nx, ct := forW gw wb (ds.drop (i + 1)) k } _ S4 ⟨nx, l.rt, fun σ' ρ' W' g S' q => l.nx σ' ρ' W' ((g1.s.trans g13).trans g) S' q, nx⟩ q4⟩

def whN (c : TW M) (wb : SW M) : Nat → SW M
  | 0, _ => fun _ _ => False
  | n + 1, k => fun ρ g => c ρ g fun t g' => if t = true then wb { nx := whN c wb n k, rt := k.rt, bk := k.nx, ct := whN c wb n k } ρ g' else k.nx ρ g'
@[simp] def wWhile (c : TW M) (wb : SW M) : SW M := fun k ρ g => ∃ n, whN c wb n k ρ g
theorem ds_while {c : Expr} {body : List Stmt} {wc : TW M} {wb : SW M} (hp : PassesOwn (model C.X.prog C.X.w) C.X.A C.X.env C.X.xe) (hc : DT C c wc) (hb : DSs C body wb) : DS C (.While c body [] pos) (wWhile wc wb) := ⟨fun σ ρ W k E S l h => by
  obtain ⟨n, h⟩ := h
  refine tsOf_of (ps_while hp pt_tOf pss_tOf) ⟨fun m σ H => ∃ (ρ : DEnv) (W2 : Wd M), W2.H = H ∧ Sat C σ ρ W2 ∧ Gs W W2 ∧ whN wc wb m k ρ W2.g, ⟨n, ρ, W, rfl, S, Gs.refl _, h⟩, ?_⟩
  rintro m σ2 H2 ⟨ρ2, W2, rfl, S2, g2, q2⟩
  cases m with
  | zero => exact q2.elim
  | succ m =>
    refine hc.run σ2 ρ2 W2 _ _ S2 (fun b W3 g3 k3 q3 => ?_) q2
    cases b with
    | false => exact iteF (l.nx σ2 ρ2 W3 (g2.trans g3.s) (S2.step g3 k3) q3)
    | true =>
      refine iteT ⟨fun σ H => ∃ (ρ : DEnv) (W2 : Wd M), W2.H = H ∧ Sat C σ ρ W2 ∧ Gs W W2 ∧ whN wc wb m k ρ W2.g, fun σ' H' z => ⟨m, Nat.lt_succ_self m, z⟩, ?_⟩
      have nx : ∀ σ' ρ' W', Gs W3 W' → Sat C σ' ρ' W' → whN wc wb m k ρ' W'.g → ∃ (ρ : DEnv) (W4 : Wd M), W4.H = W'.H ∧ Sat C σ' ρ W4 ∧ Gs W W4 ∧ whN wc wb m k ρ W4.g :=
        fun σ' ρ' W' g S' q => ⟨ρ', W', rfl, S', (g2.trans g3.s).trans g, q⟩
      exact hb.run σ2 ρ2 W3 { nx := whN wc wb m k, rt := k.rt, bk := k.nx, ct := whN wc wb m k } _ (S2.step g3 k3) ⟨nx, l.rt, fun σ' ρ' W' g S' q => l.nx σ' ρ' W' ((g2.trans g3.s).trans g) S' q, nx⟩ q3⟩
end
end DL
set_option Elab.async false
set_option linter.all false
set_option maxRecDepth 100000
set_option maxHeartbeats 1000000
namespace DL
open PySem L2
section
variable {M : Ghost} {C : Ct M} {W W1 W2 W' : Wd M} {σ : L2.St} {ρ : DEnv} {e : Expr} {es : List Expr} {we : EW M} {pos : Pos}

@[simp] def wipeD (ρ : DEnv) : List Nat → DEnv
  | [] => ρ
  | v :: vs => (wipeD ρ vs).set v .no
theorem Sat.setNo (S : Sat C σ ρ W) (i : Nat) : Sat C (σ.set i none) (ρ.set i .no) W := by
  refine ⟨S.ok, S.go, by rw [List.length_set, List.length_set, S.len], fun j t e => ?_, fun j l ds es p e1 e2 w1 w2 e3 e4 => ?_, S.gs⟩
  · by_cases hij : i = j
    · subst hij
      have hlt : i < ρ.length := by
        have := (List.getElem?_eq_some_iff.mp e).1
        rwa [List.length_set] at this
      rw [List.getElem?_set_self hlt] at e
      cases e
      exact ⟨none, by rw [List.getElem?_set_self (by rw [S.len]; exact hlt)], trivial⟩
    · rw [List.getElem?_set_ne hij] at e
      obtain ⟨o, h1, h2⟩ := S.sl j t e
      exact ⟨o, by rw [List.getElem?_set_ne hij]; exact h1, h2⟩
  · have nj : ∀ (j : Nat) d, (ρ.set i .no)[j]? = some d → d.isOwn = true → i ≠ j ∧ ρ[j]? = some d := fun j d e wd => by
      by_cases hij : i = j
      · subst hij
        have hlt : i < ρ.length := by
          have := (List.getElem?_eq_some_iff.mp e).1
          rwa [List.length_set] at this
        rw [List.getElem?_set_self hlt] at e
        cases e
        cases wd
      · rw [List.getElem?_set_ne hij] at e
        exact ⟨hij, e⟩
    obtain ⟨n1, e1'⟩ := nj j ds e1 w1
    obtain ⟨n2, e2'⟩ := nj l es e2 w2
    rw [List.getElem?_set_ne n1] at e3
    rw [List.getElem?_set_ne n2] at e4
    exact S.dis j l ds es p e1' e2' w1 w2 e3 e4
theorem Sat.wipe (S : Sat C σ ρ W) : ∀ vs : List Nat, Sat C (L2.wipe σ vs) (wipeD ρ vs) W
  | [] => S
  | v :: vs => (Sat.wipe S vs).setNo v
theorem wipe_in {σ : L2.St} {i : Nat} : ∀ {vs : List Nat}, i ∈ vs → (L2.wipe σ vs)[i]? = if i < σ.length then some none else none
  | [], h => by cases h
  | v :: vs, h => by
    unfold L2.wipe
    by_cases hi : v = i
    · subst hi
      by_cases hv : v < σ.length
      · rw [if_pos hv, List.getElem?_set_self (by rw [wipe_length]; exact hv)]
      · rw [if_neg hv, List.getElem?_eq_none (by rw [List.length_set, wipe_length]; omega)]
    · rw [List.getElem?_set_ne hi]
      exact wipe_in ((List.mem_cons.mp h).resolve_left fun z => hi z.symm)
theorem wipe_eq {σ σ' : L2.St} {vs : List Nat} (hl : σ'.length = σ.length) (h : ∀ j, j ∉ vs → σ'[j]? = σ[j]?) : L2.wipe σ' vs = L2.wipe σ vs := by
  refine List.ext_getElem? fun j => ?_
  by_cases hj : j ∈ vs
  · rw [wipe_in hj, wipe_in hj, hl]
  · rw [wipe_out hj, wipe_out hj, h j hj]
abbrev Ct.blk (C : Ct M) (s : Shared) (H : Hp) (scope : Scope) (cenv : Env) (fp : List Addr) : Ct M := ⟨C.X.blk s H scope cenv fp, C.W0, fun _ _ _ => False, C.B⟩
abbrev Ct.bk (C : Ct M) (s : Shared) (H : Hp) (scope : Scope) (cl : List (Str × Addr)) (Cc : Addr) (fp : List Addr) : Ct M := C.blk s H scope (compEnvC scope cl Cc C.X.env) fp
theorem Sat.blk (S : Sat C σ ρ W) {s : Shared} {H : Hp} {scope : Scope} {cenv : Env} {fp : List Addr} : Sat (C.blk s H scope cenv fp) σ ρ W := ⟨S.ok, S.go, S.len, S.sl, S.dis, S.gs⟩
def ttsOf (X : Cx) (ifs : List Expr) : TT := fun σ H Q => ∀ (pins : List (Addr × Obj)) (s : Shared), Inv X pins σ H s →
  wpAny (model X.prog X.w) X.A (forIn ifs true fun c r => if r = true then do let ok ← isTrue c X.env (eval c X.env); pure (ForInStep.yield ok) else pure (ForInStep.yield r)) (TP X pins σ Q) X.xe s
structure DTs (C : Ct M) (ifs : List Expr) (w : TW M) : Prop where
  run : ∀ (σ : L2.St) (ρ : DEnv) (W : Wd M) (Q : Bool → Hp → Prop) (q : Bool → M.G → Prop), Sat C σ ρ W → (∀ b W', Go W W' → Wok C.X.K W' → q b W'.g → Q b W'.H) → w ρ W.g q → ttsOf C.X ifs σ W.H Q
@[simp] def wYes : TW M := fun _ g q => q true g
theorem dts_nil : DTs C [] wYes := ⟨fun σ ρ W Q q S hQ hw pins s I => pts_nil.run pins s σ W.H Q I (hQ true W (Go.refl W) S.ok hw)⟩
theorem dts_one {c : Expr} {wt : TW M} (h : DT C c wt) : DTs C [c] wt := ⟨fun σ ρ W Q q S hQ hw pins s I => (pts_one pt_tOf).run pins s σ W.H Q I (h.run σ ρ W Q q S hQ hw)⟩
def lcW (gw : GW) (wt : TW M) (we : EW M) (ρ : DEnv) : List D → M.G → (List D → M.G → Prop) → Prop
  | [], g, q => q [] g
  | d :: ds, g, q => gw d ρ fun ρ' => wt ρ' g fun b g1 => if b = true then we ρ' g1 fun y g2 => lcW gw wt we ρ ds g2 fun ys g3 => q (y :: ys) g3 else lcW gw wt we ρ ds g1 q
@[simp] def wLc (wi : IW M) (gw : GW) (wt : TW M) (we : EW M) (vs : List Nat) : NW M := fun ρ g q => wi ρ g fun ds g' => ds.length ≤ sizeLine ∧ lcW gw wt we (wipeD ρ vs) ds g' q
theorem lcW_mono {gw : GW} {wt : TW M} {ds : List D} {g : M.G} {q q' : List D → M.G → Prop} (h : lcW gw wt we ρ ds g q) (e : q = q') : lcW gw wt we ρ ds g q' := e ▸ h
section
variable {elt tg iter : Expr} {ifs : List Expr} {scope : Scope} {own : List (Str × Nat)} {wi : IW M} {gw : GW} {wt : TW M} {is : List Nat}
def teB (C : Ct M) (scope : Scope) (e : Expr) : TE := fun σ H Q => ∀ s H0 Cc cl fp, tOf (C.X.blk s H0 scope (compEnvC scope cl Cc C.X.env) fp) e σ H Q
def ttB (C : Ct M) (scope : Scope) (e : List Expr) : TT := fun σ H Q => ∀ s H0 Cc cl fp, ttsOf (C.X.blk s H0 scope (compEnvC scope cl Cc C.X.env) fp) e σ H Q
def tgB (C : Ct M) (scope : Scope) (e : Expr) : TG := fun v σ H Q => ∀ s H0 Cc cl fp, tgOf (C.X.blk s H0 scope (compEnvC scope cl Cc C.X.env) fp) e v σ H Q
theorem lc_run (hi : DI C tg iter wi) (hvs : ∀ j ∈ is, j ∈ own.map (·.2)) (hg : ∀ s H Cc cl fp, DG (C.bk s H scope cl Cc fp) is tg gw) (ht : ∀ s H Cc cl fp, DTs (C.bk s H scope cl Cc fp) ifs wt)
    (he : ∀ s H Cc cl fp, DE (C.bk s H scope cl Cc fp) elt we) {Q : VK} {q : List D → M.G → Prop} (S : Sat C σ ρ W)
    (hQ : ∀ p vs ds W', Go W W' → Wok C.X.K W' → W'.H p = some (.lst vs) → W'.F p = none → p ∉ W'.R → W.H p = none → RpA C.X.K W'.F W'.R vs ds → q ds W'.g → Q (.ref p) W'.H)
    (hw : wLc wi gw wt we (own.map (·.2)) ρ W.g q) : tLc (iOf C.X tg iter) (tgB C scope tg) (ttB C scope ifs) (teB C scope elt) (own.map (·.2)) σ W.H Q := by
  refine hi.run σ ρ W _ _ S (fun J ds W1 g1 k1 wk q1 P hP => ?_) hw
  obtain ⟨hz, q1⟩ := q1
  have hP0 : W.H P = none := by
    cases z : W.H P with
    | none => rfl
    | some o => exact absurd hP (g1.live P (by rw [z]; simp))
  refine ⟨fun i m H => ∃ (W2 : Wd M) (acc : List V) (as : List D), W2.H = H ∧ Go W1 W2 ∧ Wok C.X.K W2 ∧ H P = some (.lst acc) ∧ W2.F P = none ∧ P ∉ W2.R ∧ RpA C.X.K W2.F W2.R acc as ∧ as.length ≤ i ∧ m = ds.length - i ∧
      lcW gw wt we (wipeD ρ (own.map (·.2))) (ds.drop i) W2.g fun ys g' => q (as ++ ys) g',
    ⟨ds.length, W1.new P (.lst []), [], [], rfl, Go.new k1 hP, k1.new hP, upd_same, k1.noF hP, k1.noR hP, .nil, Nat.zero_le _, rfl, q1⟩, ?_⟩
  rintro i m H ⟨W2, acc, as, rfl, g2, k2, h1, h2, h3, r, hl, rfl, q2⟩
  cases hd : ds[i]? with
  | none =>
    have e : ds.drop i = [] := List.drop_eq_nil_of_le (List.getElem?_eq_none_iff.mp hd)
    rw [e] at q2
    have q3 : q (as ++ []) W2.g := q2
    rw [List.append_nil] at q3
    exact .inl ⟨wk.stop i W2 g2.s k2 hd, hQ P acc as W2 (g1.trans g2) k2 h1 h2 h3 hP0 r q3⟩
  | some d =>
    obtain ⟨hlt, hd'⟩ := List.getElem?_eq_some_iff.mp hd
    have e : ds.drop i = d :: ds.drop (i + 1) := by rw [List.drop_eq_getElem_cons hlt, hd']
    rw [e] at q2
    obtain ⟨go, yld⟩ := wk.go i W2 d g2.s k2 hd
    refine .inr ⟨go, fun H => ∃ (W2 : Wd M) (acc : List V) (as : List D), W2.H = H ∧ Go W1 W2 ∧ Wok C.X.K W2 ∧ H P = some (.lst acc) ∧ W2.F P = none ∧ P ∉ W2.R ∧ RpA C.X.K W2.F W2.R acc as ∧ as.length ≤ i + 1 ∧
      lcW gw wt we (wipeD ρ (own.map (·.2))) (ds.drop (i + 1)) W2.g fun ys g' => q (as ++ ys) g', ?_, fun x H' y => ?_⟩
    · rintro H' ⟨W3, a3, d3, b1, b2, b3, b4, b5, b6, b7, b8, b9⟩
      exact ⟨ds.length - (i + 1), by omega, W3, a3, d3, b1, b2, b3, b4, b5, b6, b7, b8, rfl, b9⟩
    · obtain ⟨W3, rfl, g3, k3, e3, r3⟩ := yld x H' y
      rw [← e3] at q2
      have Sw : Sat C (L2.wipe σ (own.map (·.2))) (wipeD ρ (own.map (·.2))) W3 := (S.step ((g1.trans g2).trans g3) k3).wipe _
      -- the new list stays as it is
      have stay : ∀ {W4 : Wd M}, Go W2 W4 → W4.H P = some (.lst acc) ∧ W4.F P = none ∧ P ∉ W4.R := fun {W4} g => by
        refine ⟨g.keep _ _ h1 h3, ?_, g.notR (by rw [h1]; simp) h3⟩
        cases z : W4.F P with
        | none => rfl
        | some o =>
          rcases g.young P (by rw [z]; simp) with a | a
          · exact absurd h2 a
          · rw [h1] at a; cases a
      intro s0 H0 Cc cl fp
      refine (hg s0 H0 Cc cl fp).run _ _ W3 x d _ _ Sw.blk r3 (fun σ4 ρ4 S4 l4 n4 q4 => ⟨?_, fun s1 H1 Cc1 cl1 fp1 => ?_⟩) q2
      · rw [wipe_eq (σ := L2.wipe σ (own.map (·.2))) l4 fun j hj => n4 j fun z => hj (hvs j z)]
        exact wipe_eq (wipe_length _ _) fun j hj => wipe_out hj
      · refine (ht s1 H1 Cc1 cl1 fp1).run σ4 ρ4 W3 _ _ ⟨S4.ok, S4.go, S4.len, S4.sl, S4.dis, S4.gs⟩ (fun b W5 g5 k5 q5 => ?_) q4
        cases b with
        | false =>
          obtain ⟨a1, a2, a3⟩ := stay (g3.trans g5)
          exact iteF ⟨W5, acc, as, rfl, (g2.trans g3).trans g5, k5, a1, a2, a3, r.step (g3.trans g5), by omega, q5⟩
        | true =>
          refine iteT fun s2 H2 Cc2 cl2 fp2 => ?_
          have S5 := S4.step g5 k5
          refine (he s2 H2 Cc2 cl2 fp2).run σ4 ρ4 W5 _ _ ⟨S5.ok, S5.go, S5.len, S5.sl, S5.dis, S5.gs⟩ (fun v dy W6 g6 k6 r6 q6 => ?_) q5
          obtain ⟨a1, a2, a3⟩ := stay ((g3.trans g5).trans g6)
          refine ⟨acc, a1, by rw [r.length]; omega, W6.put P (.lst (acc ++ [v])), acc ++ [v], as ++ [dy], rfl, Go.put (((g2.trans g3).trans g5).trans g6) hP, k6.put a2 a3, upd_same, a2, a3,
            (r.step ((g3.trans g5).trans g6)).append (.cons r6 .nil), by rw [List.length_append, List.length_singleton]; omega, ?_⟩
          refine lcW_mono q6 ?_
          funext ys g'
          rw [List.append_assoc]
          rfl
theorem dn_lc (hc : C.X.calm = true) (hN : C.X.N.Nodup) (hi : DI C tg iter wi) (ok : BlkOk C.X.N C.X.env.scope scope own) (hvs : ∀ j ∈ is, j ∈ own.map (·.2)) (hg : ∀ s H Cc cl fp, DG (C.bk s H scope cl Cc fp) is tg gw)
    (ht : ∀ s H Cc cl fp, DTs (C.bk s H scope cl Cc fp) ifs wt) (he : ∀ s H Cc cl fp, DE (C.bk s H scope cl Cc fp) elt we) (hs : ∀ x, foldedSetIterable iter C.X.env x = pure x := by intro _; rfl) :
    DN C (.ListComp elt [⟨tg, iter, ifs, 0⟩] scope pos) (wLc wi gw wt we (own.map (·.2))) := ⟨fun σ ρ W Q q S hQ hw =>
  tOf_of (pe_lc (wi := iOf C.X tg iter) (g := tgB C scope tg) (tt := ttB C scope ifs) (te := teB C scope elt) hc hN pi_tOf ok (fun s H Cc cl fp => ⟨fun pins s' σ H' v u Q I r h => h s H Cc cl fp pins s' u I r⟩)
    (fun s H Cc cl fp => ⟨fun pins s' σ H' Q I h => h s H Cc cl fp pins s' I⟩) (fun s H Cc cl fp => ⟨fun pins s' σ H' Q I h => h s H Cc cl fp pins s' I⟩) hs) (lc_run hi hvs hg ht he S hQ hw)⟩
theorem fresh_own {K : PySem.W.Frag} {p : Addr} {vs : List V} {ds : List D} (h1 : W'.H p = some (.lst vs)) (h2 : W'.F p = none) (h3 : p ∉ W'.R) (h4 : W.H p = none) (r : RpA K W'.F W'.R vs ds) : Fresh K W W' (.ref p) (.own ds) := ⟨p, vs, rfl, h1, h2, h3, h4, r⟩
/-- y = [..], y a local name: it is one's own -/
theorem ds_setLc {i : Nat} {y : Str} {py spos : Pos} (hc : C.X.calm = true) (hN : C.X.N.Nodup) (hy : C.X.N[i]? = some y) (hyl : C.X.env.scope.names.lookup y = some .local)
    (hsw : swapsWith (.ListComp elt [⟨tg, iter, ifs, 0⟩] scope pos) (some (.Name y py)) spos.line C.X.env = pure true) (hi : DI C tg iter wi) (ok : BlkOk C.X.N C.X.env.scope scope own) (hvs : ∀ j ∈ is, j ∈ own.map (·.2)) (hg : ∀ s H Cc cl fp, DG (C.bk s H scope cl Cc fp) is tg gw)
    (ht : ∀ s H Cc cl fp, DTs (C.bk s H scope cl Cc fp) ifs wt) (he : ∀ s H Cc cl fp, DE (C.bk s H scope cl Cc fp) elt we) (hs : ∀ x, foldedSetIterable iter C.X.env x = pure x := by intro _; rfl) :
    DS C (.Assign [.Name y py] (.ListComp elt [⟨tg, iter, ifs, 0⟩] scope pos) spos) (wSet i (wO (wLc wi gw wt we (own.map (·.2))))) := ⟨fun σ ρ W k E S l h =>
  tsOf_of (ps_setLc (wi := iOf C.X tg iter) (g := tgB C scope tg) (tt := ttB C scope ifs) (te := teB C scope elt) hc hN hy hyl hsw pi_tOf ok (fun s H Cc cl fp => ⟨fun pins s' σ H' v u Q I r h => h s H Cc cl fp pins s' u I r⟩)
    (fun s H Cc cl fp => ⟨fun pins s' σ H' Q I h => h s H Cc cl fp pins s' I⟩) (fun s H Cc cl fp => ⟨fun pins s' σ H' Q I h => h s H Cc cl fp pins s' I⟩) hs)
    (lc_run hi hvs hg ht he S (fun p vs ds W' g k' h1 h2 h3 h4 r q => l.nx _ _ W' g.s (S.set g k' (fresh_own h1 h2 h3 h4 r) i) q) h)⟩
/-- .. frozen at once -/
theorem ds_setLcI {i : Nat} {y : Str} {py spos : Pos} (hc : C.X.calm = true) (hN : C.X.N.Nodup) (hy : C.X.N[i]? = some y) (hyl : C.X.env.scope.names.lookup y = some .local)
    (hsw : swapsWith (.ListComp elt [⟨tg, iter, ifs, 0⟩] scope pos) (some (.Name y py)) spos.line C.X.env = pure true) (hi : DI C tg iter wi) (ok : BlkOk C.X.N C.X.env.scope scope own) (hvs : ∀ j ∈ is, j ∈ own.map (·.2)) (hg : ∀ s H Cc cl fp, DG (C.bk s H scope cl Cc fp) is tg gw)
    (ht : ∀ s H Cc cl fp, DTs (C.bk s H scope cl Cc fp) ifs wt) (he : ∀ s H Cc cl fp, DE (C.bk s H scope cl Cc fp) elt we) (hs : ∀ x, foldedSetIterable iter C.X.env x = pure x := by intro _; rfl) :
    DS C (.Assign [.Name y py] (.ListComp elt [⟨tg, iter, ifs, 0⟩] scope pos) spos) (wSet i (wI (wL (wLc wi gw wt we (own.map (·.2)))))) := ⟨fun σ ρ W k E S l h =>
  tsOf_of (ps_setLc (wi := iOf C.X tg iter) (g := tgB C scope tg) (tt := ttB C scope ifs) (te := teB C scope elt) hc hN hy hyl hsw pi_tOf ok (fun s H Cc cl fp => ⟨fun pins s' σ H' v u Q I r h => h s H Cc cl fp pins s' u I r⟩)
    (fun s H Cc cl fp => ⟨fun pins s' σ H' Q I h => h s H Cc cl fp pins s' I⟩) (fun s H Cc cl fp => ⟨fun pins s' σ H' Q I h => h s H Cc cl fp pins s' I⟩) hs)
    (lc_run hi hvs hg ht he S (fun p vs ds W' g k' h1 h2 h3 h4 r q => by
      have S2 := S.set (Go.freeze g h2 h4) (k'.freeze h1 h2 h3) (s := .im (.lst ds)) (v := .ref p) (show Rp C.X.K (upd W'.F p (.lst vs)) W'.R (.ref p) (.lst ds) from .lst upd_same (r.mono (same_new h2) fun _ _ z => z)) i
      exact l.nx _ _ (W'.freeze p (.lst vs)) (Go.s (Go.freeze g h2 h4)) S2 q) h)⟩
end

abbrev AW (M : Ghost) := DEnv → M.G → (List D → M.G → Prop) → Prop
def aOf (X : Cx) (es : List Expr) : TA := fun σ H Q => ∀ (pos : Pos) (pins : List (Addr × Obj)) (s : Shared), Inv X pins σ H s → wpAny (model X.prog X.w) X.A (spliced (backTo pos (starEach es X.env))) (AP X pins σ Q) X.xe s
theorem pa_tOf {X : Cx} {es : List Expr} : PA X es (aOf X es) := ⟨fun pos pins s _ _ _ I h => h pos pins s I⟩
theorem aOf_of {X : Cx} {es : List Expr} {t : TA} (h : PA X es t) {H : Hp} {Q : List V → Hp → Prop} (q : t σ H Q) : aOf X es σ H Q := fun pos pins s I => h.run pos pins s σ H Q I q
structure DA (C : Ct M) (es : List Expr) (w : AW M) : Prop where
  run : ∀ (σ : L2.St) (ρ : DEnv) (W : Wd M) (Q : List V → Hp → Prop) (q : List D → M.G → Prop), Sat C σ ρ W → (∀ vs ds W', Go W W' → Wok C.X.K W' → RpA C.X.K W'.F W'.R vs ds → q ds W'.g → Q vs W'.H) → w ρ W.g q → aOf C.X es σ W.H Q
structure DAP (C : Ct M) (es : List Expr) (w : AW M) : Prop where
  run : ∀ (σ : L2.St) (ρ : DEnv) (W : Wd M) (Q : List V → Hp → Prop) (q : List D → M.G → Prop), Sat C σ ρ W → (∀ vs ds W', Go W W' → Wok C.X.K W' → Paired (RdP C.X.K W') vs ds → q ds W'.g → Q vs W'.H) → w ρ W.g q → aOf C.X es σ W.H Q
@[simp] def wANil : AW M := fun _ g q => q [] g
@[simp] def wACons (w : EW M) (u : AW M) : AW M := fun ρ g q => w ρ g fun d g1 => u ρ g1 fun ds g2 => q (d :: ds) g2
variable {wa : AW M}
theorem da_nil : DA C [] wANil := ⟨fun σ ρ W Q q S hQ hw => aOf_of pa_nil (hQ [] [] W (Go.refl W) S.ok .nil hw)⟩
theorem da_cons (he : DE C e we) (hr : DA C es wa) (hs : starEach (e :: es) C.X.env = (false, eval e C.X.env) :: starEach es C.X.env := by rfl) : DA C (e :: es) (wACons we wa) := ⟨fun σ ρ W Q q S hQ hw =>
  aOf_of (pa_cons pe_tOf pa_tOf hs) (he.run σ ρ W _ _ S (fun v d W1 g1 k1 r1 q1 => hr.run σ ρ W1 _ _ (S.step g1 k1) (fun vs ds W2 g2 k2 r2 q2 => hQ (v :: vs) (d :: ds) W2 (g1.trans g2) k2 (.cons (r1.step g2) r2) q2) q1) hw)⟩
theorem dap_nil : DAP C [] wANil := ⟨fun σ ρ W Q q S hQ hw => aOf_of pa_nil (hQ [] [] W (Go.refl W) S.ok .nil hw)⟩
theorem dap_cons (he : DP C e we) (hr : DAP C es wa) (hs : starEach (e :: es) C.X.env = (false, eval e C.X.env) :: starEach es C.X.env := by rfl) : DAP C (e :: es) (wACons we wa) := ⟨fun σ ρ W Q q S hQ hw =>
  aOf_of (pa_cons pe_tOf pa_tOf hs) (he.run σ ρ W _ _ S (fun v d W1 g1 k1 r1 q1 => hr.run σ ρ W1 _ _ (S.step g1 k1) (fun vs ds W2 g2 k2 r2 q2 => hQ (v :: vs) (d :: ds) W2 (g1.trans g2) k2 (.cons (r1.step g2) r2) q2) q1) hw)⟩

@[simp] def wTup (wa : AW M) : EW M := fun ρ g q => wa ρ g fun ds g' => ds.length ≤ sizeLine ∧ q (.tup ds) g'
theorem de_tup {kk : Nat} (ha : DA C es wa) : DE C (.Tuple es kk pos) (wTup wa) := ⟨fun σ ρ W Q q S hQ hw =>
  tOf_of (pe_tup pa_tOf) (ha.run σ ρ W _ _ S (fun vs ds W1 g1 k1 r1 q1 => ⟨by rw [r1.length]; exact q1.1, fun p hp => hQ (.ref p) (.tup ds) (W1.lay p (.tup vs)) (g1.trans (Go.lay k1 hp)) (k1.lay hp) (.tup (.of upd_same) (r1.mono (same_new (k1.noF hp)) fun _ _ z => z)) q1.2⟩) hw)⟩
@[simp] def wLst (wa : AW M) : NW M := fun ρ g q => wa ρ g fun ds g' => ds.length ≤ sizeLine ∧ q ds g'
theorem dn_lst (ha : DA C es wa) : DN C (.List es pos) (wLst wa) := ⟨fun σ ρ W Q q S hQ hw =>
  tOf_of (pe_lst pa_tOf) (ha.run σ ρ W _ _ S (fun vs ds W1 g1 k1 r1 q1 => ⟨by rw [r1.length]; exact q1.1, fun p hp => hQ p vs ds (W1.new p (.lst vs)) (g1.trans (Go.new k1 hp)) (k1.new hp) upd_same (k1.noF hp) (k1.noR hp) (by
    cases z : W.H p with
    | none => rfl
    | some o => exact absurd hp (g1.live p (by rw [z]; simp))) r1 q1.2⟩) hw)⟩

abbrev DSp (M : Ghost) := List D → M.G → (D → M.G → Prop) → (Exn → M.G → Prop) → Prop
/-- an exception by its class's name and its fields -/
def ExR (K : PySem.W.Frag) (W : Wd M) (x : Exn) (cls : Value) (d : Option Addr) : Prop :=
  PySem.W.nsIn K mainGlobals x.cls = some (some cls) ∧ (∃ C : Addr, cls = .ref C) ∧ ((x.ns = [] ∧ x.ds = [] ∧ d = none) ∨ ∃ dd vs, d = some dd ∧ W.F dd = some (.xd (x.ns.zip vs)) ∧ x.ns.length = vs.length ∧ RpA K W.F W.R vs x.ds)
def EXk (K : PySem.W.Frag) (W0 : Wd M) (ex : Exn → M.G → Prop) : XK := fun cls d H => ∃ x W', W'.H = H ∧ Go W0 W' ∧ Wok K W' ∧ ExR K W' x cls d ∧ ex x W'.g
def liftSp (K : PySem.W.Frag) (mg : Str → Option Value) (n : Nat) (sp : DSp M) : Sp := fun vs H Q E => ∃ (W : Wd M) (ds : List D) (q : D → M.G → Prop) (ex : Exn → M.G → Prop), W.H = H ∧ Wok K W ∧ RpA K W.F W.R vs ds ∧ ds.length = n ∧ sp ds W.g q ex ∧
  (∀ v d W', Go W W' → Wok K W' → Rp K W'.F W'.R v d → q d W'.g → Q v W'.H) ∧ ∀ cls d H', EXk K W ex cls d H' → E cls d H'
/-- what leaves the code is what is wished of exceptions, at the slots as they stand -/
def EXs (C : Ct M) (σ : L2.St) : XK := fun cls d H => ∃ x ρ W', W'.H = H ∧ Sat C σ ρ W' ∧ ExR C.X.K W' x cls d ∧ C.EX x ρ W'.g
def TakesD (C : Ct M) : Prop := Takes C.X fun cls d σ H => EXs C σ cls d H
abbrev xno : Exn → DEnv → M.G → Prop := fun _ _ _ => False
abbrev xk (ex : Exn → M.G → Prop) : Exn → DEnv → M.G → Prop := fun x _ g => ex x g
theorem takesD_blk {s : Shared} {H : Hp} {scope : Scope} {cenv : Env} {fp : List Addr} : TakesD (C.blk s H scope cenv fp) := fun u s' x => by
  obtain ⟨_, _, _, _, _, _, _, _, _, _, _, _, _, _, _, _, z⟩ := x
  obtain ⟨_, _, _, _, _, _, w⟩ := z
  exact w.elim
theorem ExR.step {K : PySem.W.Frag} {x : Exn} {cls : Value} {d : Option Addr} (h : ExR K W x cls d) (g : Go W W1) : ExR K W1 x cls d := by
  obtain ⟨h1, h2, h3⟩ := h
  refine ⟨h1, h2, ?_⟩
  rcases h3 with h3 | ⟨dd, vs, e1, e2, e3, e4⟩
  · exact .inl h3
  · exact .inr ⟨dd, vs, e1, g.sub _ _ e2, e3, e4.step g⟩
/-- a call's exception is the caller's -/
theorem exs_of {EX : Exn → M.G → Prop} {cls : Value} {d : Option Addr} {H : Hp} (S : Sat C σ ρ W) (hx : ∀ x g, EX x g → C.EX x ρ g) (h : EXk C.X.K W EX cls d H) : EXs C σ cls d H := by
  obtain ⟨x, W', h1, h2, h3, h4, h5⟩ := h
  exact ⟨x, ρ, W', h1, S.step h2 h3, h4, hx _ _ h5⟩
@[simp] def wCall (sp : DSp M) (wa : AW M) (EX : Exn → DEnv → M.G → Prop) : EW M := fun ρ g q => wa ρ g fun ds g' => sp ds g' q fun x g2 => EX x ρ g2
@[simp] def startD (N : List Str) (ds : List D) : DEnv := ds.map .im ++ List.replicate (N.length - ds.length) .no
theorem sat_start {N : List Str} {vs : List V} {ds : List D} (ok : Wok C.X.K W) (h0 : C.W0 = W) (hB : C.B = W) (r : RpA C.X.K W.F W.R vs ds) : Sat C (L2.start N vs) (startD N ds) W := by
  have hg : Gs C.B W := by rw [hB]; exact Gs.refl _
  subst h0
  refine ⟨ok, Go.refl _, ?_, fun i s e => ?_, fun i j s1 s2 p e1 e2 w1 w2 e3 e4 => ?_, hg⟩
  · unfold L2.start startD
    rw [List.length_append, List.length_append, List.length_map, List.length_map, List.length_replicate, List.length_replicate, r.length]
  · unfold startD at e
    by_cases hi : i < ds.length
    · rw [List.getElem?_append_left (by rw [List.length_map]; exact hi), List.getElem?_map] at e
      cases hd : ds[i]? with
      | none => rw [hd] at e; cases e
      | some d =>
        rw [hd] at e
        cases e
        obtain ⟨v, h1, h2⟩ := r.get' hd
        refine ⟨some v, ?_, v, rfl, h2⟩
        unfold L2.start
        rw [List.getElem?_append_left (by rw [List.length_map, r.length]; exact hi), List.getElem?_map, h1]
        rfl
    · rw [List.getElem?_append_right (by rw [List.length_map]; omega), List.length_map] at e
      obtain ⟨hlt, e'⟩ := List.getElem?_eq_some_iff.mp e
      rw [List.getElem_replicate] at e'
      subst e'
      rw [List.length_replicate] at hlt
      refine ⟨none, ?_, trivial⟩
      unfold L2.start
      rw [List.getElem?_append_right (by rw [List.length_map, r.length]; omega), List.length_map, r.length, List.getElem?_replicate, if_pos hlt]
  · exfalso
    unfold startD at e1
    by_cases hi : i < ds.length
    · rw [List.getElem?_append_left (by rw [List.length_map]; exact hi), List.getElem?_map] at e1
      cases hd : ds[i]? with
      | none => rw [hd] at e1; cases e1
      | some d => rw [hd] at e1; cases e1; cases w1
    · rw [List.getElem?_append_right (by rw [List.length_map]; omega), List.length_map] at e1
      obtain ⟨hlt, e'⟩ := List.getElem?_eq_some_iff.mp e1
      rw [List.getElem_replicate] at e'
      subst e'
      cases w1
@[simp] def kEnd (q : D → M.G → Prop) : K3 M := { nx := fun _ g => q .non g, rt := q, bk := fun _ _ => False, ct := fun _ _ => False }
end
end DL
set_option Elab.async false
set_option linter.all false
set_option maxRecDepth 100000
set_option maxHeartbeats 1000000
namespace DL
open PySem L2
/-- as the layer's promise of a def, under no guard -/
structure FnG (P : Program) (w : World) (K : PySem.W.Frag) (mg : Str → Option Value) (base : Heap) (k : Nat) (f : Addr) (fd : FuncData) (ps : List Str) (sp : Sp) : Prop where
  len : ∀ xs H Q E, sp xs H Q E → xs.length = ps.length
  run : ∀ (A : Around) (fr : List Env) (s : Shared) (H : Hp) (as : Args) (us : List Value) (xs : List V) (Q : VK) (E : XK), Room k A → A.guards = some [] →
    Env0 P w K mg base A fr s H → BindsTo s fd as (ps.zip us) → Vals xs us → sp xs H Q E → codeAny (model P w) A (.call (.ref f) as) (CR (L2.CX P w) fr P w H s Q E) s
section
variable {P : Program} {w : World} {K : PySem.W.Frag} {mg : Str → Option Value} {base : Heap}
theorem FnG.mono {j k : Nat} {f : Addr} {fd : FuncData} {ps : List Str} {sp : Sp} (F : FnG P w K mg base j f fd ps sp) (h : j ≤ k) : FnG P w K mg base k f fd ps sp :=
  ⟨F.len, fun A fr s H as us xs Q E room => F.run A fr s H as us xs Q E (room.mono h)⟩
theorem fng_of {x qual : Str} {st : Stmt} {f : Addr} {fd : FuncData} {N ps : List Str} {k : Nat} {sp : Sp} (F : Fun K x qual st f fd) (Sc : FnScope N ps (defScope st)) (len : ∀ xs H Q E, sp xs H Q E → xs.length = ps.length)
    (hb : ∀ (cdv : Value) (A : Around) (fr : List Env) (s : Shared) (H : Hp) (xs : List V) (Q : VK) (E : XK), Room k (A.deeper (PyProof.Rows.envOfC qual (defScope st) s.heap.objs.size f cdv)) → A.guards = some [] → sp xs H Q E →
      ∃ t, PSs (cxOf (L2.CX P w) P w K mg base N qual (defScope st) f cdv A fr s H E) (defBody st) t ∧ t { nx := fun _ H' => Q .non H', rt := Q } (L2.start N xs) H) :
    FnG P w K mg base (k + 1) f fd ps sp := by
  obtain ⟨oc, od, kV, doc, pm, an, cdv, ct, osl, rfl, lk, hcd⟩ := F.ex
  refine ⟨len, fun A fr s H as us xs Q E room gd e0 bd rel want => ?_⟩
  have hlen := len _ _ _ _ want
  have kin : K.In s.heap := e0.mod.kin.keeps fun b o e => (e0.bs b o e).1
  have hk : ((ps.zip us).all fun y => (defScope st).names.lookup y.1 == some .local || (defScope st).names.lookup y.1 == some .cell) = true := by
    rw [List.all_eq_true]
    rintro ⟨n, v⟩ hm
    rcases Sc.par n (List.of_mem_zip hm).1 with q | q
    · rw [q]; rfl
    · rw [q]; rfl
  refine Att.call_fn kin (e0.mod.nolimit.keeps fun b o e => (e0.bs b o e).1) lk hcd room.depth bd hk (fun s1 inC => ?_) Sc.co Sc.gen Sc.kind
  obtain ⟨t, ht, hq⟩ := hb cdv A fr s H xs Q E (room.deeper _) gd want
  have inv := inv_start (CX := L2.CX P w) (N := N) (E := E) Sc room.hd e0 hlen rel inC
  refine wpAny_mono (ht.run [] s1 _ H _ inv hq) (fun fl s2 hs => ?_) fun e s2 hs => hs
  have back : ∀ {σ2 : L2.St} {H2 : Hp} {v : V} {u : Value}, Inv (cxOf (L2.CX P w) P w K mg base N qual (defScope st) f cdv A fr s H E) [] σ2 H2 s2 → RelV v u → Q v H2 → CE fr P w H s Q u s2 :=
    fun {σ2 H2 v u} J rv q => ⟨v, H2, J.os, J.bare, J.base, J.hok, rv, q⟩
  match fl, hs with
  | .ret u, ⟨v, σ2, H2, J, rv, q⟩ => exact back J rv q
  | .next, ⟨σ2, H2, J, q⟩ => exact back (v := .non) (u := .none) J rfl q
  | .brk, ⟨_, _, _, q⟩ => exact q.elim
  | .cont, ⟨_, _, _, q⟩ => exact q.elim
end
section
variable {X : Cx} {k : Nat} {f : Addr} {fd : FuncData} {ps : List Str} {sp : Sp} {E : L2.St → XK} {x : Str} {p pos : Pos} {e : Expr} {es : List Expr} {t : TA}
theorem run_fng {pins : List (Addr × Obj)} {σ : L2.St} {H : Hp} {s : Shared} {Q : VK} {us : List Value} {xs : List V} (F : FnG X.prog X.w X.K X.mg X.base k f fd ps sp) (gd : X.A.guards = some []) (room : Room k X.A) (hb : Binds X.K fd ps [])
    (hx : ∀ σ, PassesAt (L2.CX X.prog X.w) X σ (E σ)) (I : Inv X pins σ H s) (rel : Vals xs us) (want : sp xs H Q (E σ)) : wpAny (model X.prog X.w) X.A (call (.ref f) us) (EP X pins σ Q) X.xe s := by
  have hl : (us ++ []).length = ps.length := by rw [List.append_nil, ← rel.length]; exact F.len _ _ _ _ want
  have bd := hb s us I.kIn hl
  rw [List.append_nil] at bd
  refine wpAny_call (codeAny_mono (F.run X.A X.stack s H ⟨us, []⟩ us xs Q (E σ) room gd I.env0 bd rel want) fun r s2 hq => ?_)
  match r, hq with
  | .error er, hq => exact hx σ pins H s er s2 I hq
  | .ok (.ret u), hq => exact I.after hq
  | .ok .next, hq => exact False.elim hq
  | .ok .brk, hq => exact False.elim hq
  | .ok .cont, hq => exact False.elim hq
def tCallG (sp : Sp) (E : L2.St → XK) (t : TA) : TE := fun σ H Q => t σ H fun xs H1 => sp xs H1 Q (E σ)
theorem pe_callG (F : FnG X.prog X.w X.K X.mg X.base k f fd ps sp) (gd : X.A.guards = some []) (room : Room k X.A) (hg : Gl X x) (hm : X.mg x = some (.ref f)) (hk : PySem.W.keepIn X.K (.ref f) = true) (hb : Binds X.K fd ps []) (hx : ∀ σ, PassesAt (L2.CX X.prog X.w) X σ (E σ))
    (ha : PA X (e :: es) t) (hdb : (x == ("__debug__" : Str)) = false := by decide) (he : starEach (e :: es) X.env = (false, eval e X.env) :: starEach es X.env := by rfl) (hpl : (backTo pos (starEach es X.env)).any (·.1) = false := by rfl) :
    PE X (.Call (.Name x p) (e :: es) [] pos) (tCallG sp E t) := ⟨fun pins s σ H Q I h =>
  wpAny_Call_Name_kw (ld_glob I hg hm (PySem.W.callWith_K (h₀ := X.base) I.ok.mod.kin hk (thn (ha.run pos pins s σ H _ I h) fun us s1 ⟨xs, H1, I1, rel, want⟩ => ⟨I1.kIn, run_fng F gd room hb hx I1 rel want⟩) he hpl) hdb)⟩
end
theorem roomH_suite {k : Nat} {A : Around} {v : Option Value} (r : Room k A) : L2H.RoomH k (A.mark v) := ⟨r.dp, r.un⟩
theorem _root_.L2H.RoomH.units {k : Nat} {A : Around} (r : L2H.RoomH k A) : A.units + 64 < cLine := by have := r.un; omega

open L2H in
structure FnQ (P : Program) (w : World) (K : PySem.W.Frag) (mg : Str → Option Value) (base : Heap) (k : Nat) (f : Addr) (fd : FuncData) (ps : List Str) (sp : Sp) : Prop where
  len : ∀ xs H Q E, sp xs H Q E → xs.length = ps.length
  run : ∀ (A : Around) (fr : List Env) (s : Shared) (H : Hp) (as : Args) (us : List Value) (xs : List V) (Q : VK) (E : XK), RoomH k A → A.guards = some [] →
    Env0 P w K mg base A fr s H → BindsTo s fd as (ps.zip us) → Vals xs us → sp xs H Q E → codeAny (model P w) A (.call (.ref f) as) (CR (L2.CX P w) fr P w H s Q E) s
section
open L2H
variable {P : Program} {w : World} {K : PySem.W.Frag} {mg : Str → Option Value} {base : Heap}
theorem FnQ.g {k : Nat} {f : Addr} {fd : FuncData} {ps : List Str} {sp : Sp} (F : FnQ P w K mg base k f fd ps sp) : FnG P w K mg base k f fd ps sp :=
  ⟨F.len, fun A fr s H as us xs Q E room => F.run A fr s H as us xs Q E (roomH_of room)⟩
theorem fnq_of {x qual : Str} {st : Stmt} {f : Addr} {fd : FuncData} {N ps : List Str} {k : Nat} {sp : Sp} (F : Fun K x qual st f fd) (Sc : FnScope N ps (defScope st)) (len : ∀ xs H Q E, sp xs H Q E → xs.length = ps.length)
    (hb : ∀ (cdv : Value) (A : Around) (fr : List Env) (s : Shared) (H : Hp) (xs : List V) (Q : VK) (E : XK) (p : Addr × Obj), RoomH k (A.deeper (PyProof.Rows.envOfC qual (defScope st) s.heap.objs.size f cdv)) → A.guards = some [] → sp xs H Q E →
      ∃ t, PSs (cxH (L2.CX P w) P w K mg base N qual (defScope st) f cdv A fr s H E p) (defBody st) t ∧ t { nx := fun _ H' => Q .non H', rt := Q } (L2.start N xs) H) :
    FnQ P w K mg base (k + 1) f fd ps sp := by
  obtain ⟨oc, od, kV, doc, pm, an, cdv, ct, osl, rfl, lk, hcd⟩ := F.ex
  refine ⟨len, fun A fr s H as us xs Q E room gd e0 bd rel want => ?_⟩
  have hlen := len _ _ _ _ want
  have inB := e0.mod.kin _ _ lk
  have kin : K.In s.heap := e0.mod.kin.keeps fun b o e => (e0.bs b o e).1
  have nof : f ∉ frs fr := fun hm => by
    have z := (e0.funs.mem hm).1
    rw [inB] at z
    cases z
  obtain ⟨p, pin⟩ : ∃ p : Addr × Obj, PinOk fr H s p := ⟨(f, _), (e0.bs _ _ inB).1, (e0.bs _ _ inB).2, nof, fun _ z => nomatch z⟩
  have hk : ((ps.zip us).all fun y => (defScope st).names.lookup y.1 == some .local || (defScope st).names.lookup y.1 == some .cell) = true := by
    rw [List.all_eq_true]
    rintro ⟨n, v⟩ hm
    rcases Sc.par n (List.of_mem_zip hm).1 with q | q
    · rw [q]; rfl
    · rw [q]; rfl
  refine Att.call_fn kin (e0.mod.nolimit.keeps fun b o e => (e0.bs b o e).1) lk hcd room.depth bd hk (fun s1 inC => ?_) Sc.co Sc.gen Sc.kind
  obtain ⟨t, ht, hq⟩ := hb cdv A fr s H xs Q E p (room.deeper _) gd want
  have inv := inv_startH (CX := L2.CX P w) (N := N) (E := E) Sc pin e0 hlen rel inC
  refine wpAny_mono (ht.run [] s1 _ H _ inv hq) (fun fl s2 hs => ?_) fun e s2 hs => hs
  have back : ∀ {σ2 : L2.St} {H2 : Hp} {v : V} {u : Value}, Inv (cxH (L2.CX P w) P w K mg base N qual (defScope st) f cdv A fr s H E p) [] σ2 H2 s2 → RelV v u → Q v H2 → CE fr P w H s Q u s2 :=
    fun {σ2 H2 v u} J rv q => ⟨v, H2, J.os, J.bare, J.base, J.hok, rv, q⟩
  match fl, hs with
  | .ret u, ⟨v, σ2, H2, J, rv, q⟩ => exact back J rv q
  | .next, ⟨σ2, H2, J, q⟩ => exact back (v := .non) (u := .none) J rfl q
  | .brk, ⟨_, _, _, q⟩ => exact q.elim
  | .cont, ⟨_, _, _, q⟩ => exact q.elim
end
section
open L2H
variable {X : Cx} {k : Nat} {f : Addr} {fd : FuncData} {ps : List Str} {sp : Sp} {E : L2.St → XK} {x : Str} {p pos : Pos} {e : Expr} {es : List Expr} {t : TA}
theorem pe_callQ (F : FnQ X.prog X.w X.K X.mg X.base k f fd ps sp) (gd : X.A.guards = some []) (room : RoomH k X.A) (hg : Gl X x) (hm : X.mg x = some (.ref f)) (hk : PySem.W.keepIn X.K (.ref f) = true) (hb : Binds X.K fd ps []) (hx : ∀ σ, PassesAt (L2.CX X.prog X.w) X σ (E σ))
    (ha : PA X (e :: es) t) (hdb : (x == ("__debug__" : Str)) = false := by decide) (he : starEach (e :: es) X.env = (false, eval e X.env) :: starEach es X.env := by rfl) (hpl : (backTo pos (starEach es X.env)).any (·.1) = false := by rfl) :
    PE X (.Call (.Name x p) (e :: es) [] pos) (tCallG sp E t) := ⟨fun pins s σ H Q I h =>
  wpAny_Call_Name_kw (ld_glob I hg hm (PySem.W.callWith_K (h₀ := X.base) I.ok.mod.kin hk (thn (ha.run pos pins s σ H _ I h) fun us s1 ⟨xs, H1, I1, rel, want⟩ => ⟨I1.kIn, by
    have hl : (us ++ []).length = ps.length := by rw [List.append_nil, ← rel.length]; exact F.len _ _ _ _ want
    have bd := hb s1 us I1.kIn hl
    rw [List.append_nil] at bd
    refine wpAny_call (codeAny_mono (F.run X.A X.stack s1 H1 ⟨us, []⟩ us xs Q (E σ) room gd I1.env0 bd rel want) fun r s2 hq => ?_)
    match r, hq with
    | .error er, hq => exact hx σ pins H1 s1 er s2 I1 hq
    | .ok (.ret u), hq => exact I1.after hq
    | .ok .next, hq => exact False.elim hq
    | .ok .brk, hq => exact False.elim hq
    | .ok .cont, hq => exact False.elim hq⟩) he hpl) hdb)⟩
end
end DL
set_option Elab.async false
set_option linter.all false
set_option maxRecDepth 100000
set_option maxHeartbeats 1000000
namespace DL
open PySem L2
def S (x : List Nat) : Str := ⟨x.toArray⟩
theorem S_list (x : List Nat) : (S x).cps.toList = x := by simp [S]
theorem S_of (z : Str) : S z.cps.toList = z := by simp [S]
theorem str_len (z : Str) : z.length = z.cps.toList.length := by simp [Str.length]
theorem str_app (a b : Str) : (a ++ b).cps.toList = a.cps.toList ++ b.cps.toList := PySem.W.KT.app_list a b
section
variable {M : Ghost} {C : Ct M} {W W1 W2 W' : Wd M} {σ : L2.St} {ρ : DEnv} {e : Expr} {es : List Expr} {we : EW M} {pos : Pos}
theorem rp_str {K : PySem.W.Frag} {F : Hp} {R : List Addr} (z : Str) : Rp K F R (.str z) (.str z.cps.toList) := .str z _ rfl
theorem rp_strS {K : PySem.W.Frag} {F : Hp} {R : List Addr} (z : Str) {x : List Nat} (h : z.cps.toList = x) : Rp K F R (.str z) (.str x) := .str z _ h

def oAdd : D → D → (D → Prop) → Prop
  | .int i, .int j, q => q (.int (i + j))
  | .int i, .bl k, q => q (.int (i + PyProof.Rows.b2i k))
  | .str x, .str y, q => x.length + y.length ≤ sizeLine ∧ q (.str (x ++ y))
  | .tup x, .tup y, q => x.length + y.length ≤ sizeLine ∧ q (.tup (x ++ y))
  | _, _, _ => False
theorem opd_add : OpD C (binaryOp .Add) oAdd := by
  refine ⟨_, ((op_add.or op_add_ib).or op_add_str).or op_catA, fun W x y d e Q q k r1 r2 hQ h => ?_⟩
  cases d with
  | int i =>
    cases e with
    | int j => exact .inl (.inl (.inl ⟨i, j, r1.int_inv, r2.int_inv, hQ _ _ W (Go.refl W) k rfl (.int _) h⟩))
    | bl b => exact .inl (.inl (.inr ⟨i, b, r1.int_inv, r2.bl_inv, hQ _ _ W (Go.refl W) k rfl (.int _) h⟩))
    | _ => exact h.elim
  | str a =>
    cases e with
    | str b =>
      obtain ⟨z, rfl, rfl⟩ := r1.str_inv
      obtain ⟨z2, rfl, rfl⟩ := r2.str_inv
      exact .inl (.inr ⟨z, z2, rfl, rfl, by rw [str_len, str_len]; exact h.1, hQ _ _ W (Go.refl W) k rfl (rp_strS _ (str_app z z2)) h.2⟩)
    | _ => exact h.elim
  | tup a =>
    cases e with
    | tup b =>
      obtain ⟨p, vs, rfl, hs, ra⟩ := r1.tup_inv
      obtain ⟨p2, vs2, rfl, hs2, rb⟩ := r2.tup_inv
      refine .inr ⟨p, p2, vs, vs2, rfl, rfl, same_tup k.sub hs, same_tup k.sub hs2, by rw [ra.length, rb.length]; exact h.1, fun e => ?_, fun _ e => ?_, fun _ _ l hl => ?_⟩
      · subst e
        cases ra
        exact hQ _ _ W (Go.refl W) k rfl (.tup hs2 rb) h.2
      · subst e
        cases rb
        have hq := h.2
        rw [List.append_nil] at hq
        exact hQ _ _ W (Go.refl W) k rfl (.tup hs ra) hq
      · exact hQ _ _ (W.lay l (.tup (vs ++ vs2))) (Go.lay k hl) (k.lay hl) rfl (.tup (.of upd_same) ((ra.append rb).mono (same_new (k.noF hl)) fun _ _ z => z)) h.2
    | _ => exact h.elim
  | _ => exact h.elim
def oCat : D → D → (List D → Prop) → Prop
  | .lst x, .lst y, q => x.length + y.length ≤ sizeLine ∧ q (x ++ y)
  | _, _, _ => False
theorem opn_cat : OpN C (binaryOp .Add) oCat := by
  refine ⟨_, op_cat, fun W x y d e Q q k r1 r2 hQ h => ?_⟩
  cases d with
  | lst a =>
    cases e with
    | lst b =>
      obtain ⟨p, vs, rfl, hp, np, ra⟩ := r1.lst_inv k
      obtain ⟨p2, vs2, rfl, hp2, np2, rb⟩ := r2.lst_inv k
      exact ⟨p, p2, vs, vs2, rfl, rfl, hp, hp2, by rw [ra.length, rb.length]; exact h.1, fun l hl => hQ l _ _ (W.new l (.lst (vs ++ vs2))) (Go.new k hl) (k.new hl) rfl upd_same (k.noF hl) (k.noR hl) hl (ra.append rb) h.2⟩
    | _ => exact h.elim
  | _ => exact h.elim
def oSub : D → D → (D → Prop) → Prop
  | .int i, .int j, q => q (.int (i - j))
  | _, _, _ => False
theorem opd_sub : OpD C (binaryOp .Sub) oSub := by
  refine ⟨_, op_sub, fun W x y d e Q q k r1 r2 hQ h => ?_⟩
  cases d with
  | int i =>
    cases e with
    | int j => exact ⟨i, j, r1.int_inv, r2.int_inv, hQ _ _ W (Go.refl W) k rfl (.int _) h⟩
    | _ => exact h.elim
  | _ => exact h.elim
/-- a text times a number -/
theorem op_rep_str {X : Cx} : OpR X (binaryOp .Mult) (fun x y H Q => ∃ z k, x = .str z ∧ y = .int k ∧ 0 ≤ k ∧ z.length * k.toNat ≤ sizeLine ∧ k ≤ 2 ^ 32 ∧ Q (.str (S (List.replicate k.toNat z.cps.toList).flatten)) H) := by
  intro pins s σ H x y v u Q I rx ry h
  obtain ⟨z, k, rfl, rfl, h0, hz, hk, q⟩ := h
  obtain ⟨t, rfl⟩ := rx
  obtain ⟨t', rfl⟩ := ry
  have e63 : (2 : Int) ^ 63 = 9223372036854775808 := by decide
  have e32 : (2 : Int) ^ 32 = 4294967296 := by decide
  refine PySem.P.mul_str ?_ (fun h1 h2 => ?_) (fun h1 h2 => ?_) ?_
  · rw [decide_eq_false (by omega), decide_eq_false (by omega)]; rfl
  · have h4 : (z.length : Int) ≤ 16777216 := by
      have : z.length * 1 ≤ z.length * k.toNat := Nat.mul_le_mul_left _ (by omega)
      rw [sizeLine_eq] at hz
      omega
    have h5 : (16777216 : Int) ≤ (2 ^ 63 - 1) / k := by
      refine Int.le_ediv_of_mul_le (by omega) ?_
      have : 16777216 * k ≤ 16777216 * 4294967296 := Int.mul_le_mul_of_nonneg_left (by omega) (by omega)
      omega
    omega
  · unfold Builtin.Str.tooLong
    exact decide_eq_false (by omega)
  · by_cases h1 : k < 1
    · rw [if_pos h1]
      have : k = 0 := by omega
      subst this
      exact ⟨by decide, .str _, H, I.tok _, ⟨_, rfl⟩, q⟩
    · rw [if_neg h1]
      by_cases h2 : (k == 1 || z.length == 0) = true
      · rw [if_pos h2]
        have e : S (List.replicate k.toNat z.cps.toList).flatten = z := by
          rcases Bool.or_eq_true_iff.mp h2 with h3 | h3
          · have : k = 1 := by simpa using h3
            subst this
            simp [S]
          · have : z.cps = #[] := by simpa [Str.length] using h3
            obtain ⟨c⟩ := z
            simp at this
            subst this
            simp [S]
        rw [e] at q
        exact ⟨.str z, H, I, ⟨t, rfl⟩, q⟩
      · rw [if_neg h2]
        have e : (⟨(List.replicate k.toNat z.cps).foldl (· ++ ·) #[]⟩ : Str) = S (List.replicate k.toNat z.cps.toList).flatten := by
          have f : ∀ (n : Nat) (acc : Array Nat), ((List.replicate n z.cps).foldl (· ++ ·) acc).toList = acc.toList ++ (List.replicate n z.cps.toList).flatten := fun n => by
            induction n with
            | zero => intro acc; simp
            | succ n ih => intro acc; rw [List.replicate_succ, List.foldl_cons, ih]; simp [List.replicate_succ]
          unfold S
          congr 1
          apply Array.toList_inj.mp
          rw [f]
          simp
        refine ⟨?_, .str _, H, I.tok _, ⟨_, by rw [e]⟩, q⟩
        rw [e, str_len, S_list, PyProof.Rows.lm_len_rep_flat, ← str_len, Nat.mul_comm]
        exact hz

def oMul : D → D → (D → Prop) → Prop
  | .int i, .int j, q => CMul i j ∧ q (.int (i * j))
  | .str x, .int j, q => 0 ≤ j ∧ x.length * j.toNat ≤ sizeLine ∧ j ≤ 2 ^ 32 ∧ q (.str (List.replicate j.toNat x).flatten)
  | _, _, _ => False
theorem opd_mul : OpD C (binaryOp .Mult) oMul := by
  refine ⟨_, op_mul.or op_rep_str, fun W x y d e Q q k r1 r2 hQ h => ?_⟩
  cases d with
  | int i =>
    cases e with
    | int j => exact .inl ⟨i, j, r1.int_inv, r2.int_inv, h.1, hQ _ _ W (Go.refl W) k rfl (.int _) h.2⟩
    | _ => exact h.elim
  | str a =>
    cases e with
    | int j =>
      obtain ⟨z, rfl, rfl⟩ := r1.str_inv
      exact .inr ⟨z, j, rfl, r2.int_inv, h.1, by rw [str_len]; exact h.2.1, h.2.2.1, hQ _ _ W (Go.refl W) k rfl (rp_strS _ (S_list _)) h.2.2.2⟩
    | _ => exact h.elim
  | _ => exact h.elim
def oRep : D → D → (List D → Prop) → Prop
  | .lst x, .int j, q => -(2 ^ 63) ≤ j ∧ j < 2 ^ 63 ∧ x.length * j.toNat ≤ sizeLine ∧ q (List.replicate j.toNat x).flatten
  | _, _, _ => False
theorem opn_rep : OpN C (binaryOp .Mult) oRep := by
  refine ⟨_, op_rep, fun W x y d e Q q k r1 r2 hQ h => ?_⟩
  cases d with
  | lst a =>
    cases e with
    | int j =>
      obtain ⟨p, vs, rfl, hp, np, ra⟩ := r1.lst_inv k
      exact ⟨p, j, vs, rfl, r2.int_inv, hp, h.1, h.2.1, by rw [ra.length]; exact h.2.2.1, fun l hl => hQ l _ _ (W.new l (.lst _)) (Go.new k hl) (k.new hl) rfl upd_same (k.noF hl) (k.noR hl) hl (ra.flat _) h.2.2.2⟩
    | _ => exact h.elim
  | _ => exact h.elim
/-- ints by ints -/
theorem opd_ii {f : Value → Value → Sem Value} {Cd : Int → Int → Prop} {g : Int → Int → V} {gd : Int → Int → D} (ho : OpR C.X f (rI Cd g)) (hg : ∀ F R i j, Rp C.X.K F R (g i j) (gd i j)) :
    OpD C f (fun d e q => match d, e with | .int i, .int j => Cd i j ∧ q (gd i j) | _, _ => False) := by
  refine ⟨_, ho, fun W x y d e Q q k r1 r2 hQ h => ?_⟩
  cases d with
  | int i =>
    cases e with
    | int j => exact ⟨i, j, r1.int_inv, r2.int_inv, h.1, hQ _ _ W (Go.refl W) k rfl (hg _ _ _ _) h.2⟩
    | _ => exact h.elim
  | _ => exact h.elim
def oDiv : D → D → (D → Prop) → Prop := fun d e q => match d, e with | .int i, .int j => CDiv i j ∧ q (.int (i / j)) | _, _ => False
theorem opd_div : OpD C (binaryOp .FloorDiv) oDiv := opd_ii op_fdiv fun _ _ _ _ => .int _
def oMod : D → D → (D → Prop) → Prop := fun d e q => match d, e with | .int i, .int j => 0 < j ∧ q (.int (i % j)) | _, _ => False
theorem opd_mod : OpD C (binaryOp .Mod) oMod := opd_ii op_mod fun _ _ _ _ => .int _
def oPow : D → D → (D → Prop) → Prop := fun d e q => match d, e with | .int i, .int j => CPow i j ∧ q (.int (i ^ j.toNat)) | _, _ => False
theorem opd_pow : OpD C (binaryOp .Pow) oPow := opd_ii op_pow fun _ _ _ _ => .int _
def asI (d : D) (q : Int → Prop) : Prop := match d with
  | .int i => q i
  | _ => False
@[simp] def wNeg (w : EW M) : EW M := fun ρ g q => w ρ g fun d g' => asI d fun i => q (.int (-i)) g'
theorem de_neg {a : Expr} {wa : EW M} (ha : DE C a wa) : DE C (.UnaryOp .USub a pos) (wNeg wa) := ⟨fun σ ρ W Q q S hQ hw => tOf_of (pe_un un_neg pe_tOf) (ha.run σ ρ W _ _ S (fun v d W' g k r q1 => by
  cases d with
  | int i => exact ⟨i, by cases r; rfl, hQ _ _ W' g k (.int _) q1⟩
  | _ => exact q1.elim) hw)⟩

def oLt : D → D → (D → Prop) → Prop
  | .int i, .int j, q => q (.bl (decide (i < j)))
  | .str x, .str y, q => q (.bl (decide (x < y)))
  | _, _, _ => False
def oLe : D → D → (D → Prop) → Prop
  | .int i, .int j, q => q (.bl (decide (i ≤ j)))
  | .str x, .str y, q => q (.bl (!decide (y < x)))
  | _, _, _ => False
def oGt : D → D → (D → Prop) → Prop
  | .int i, .int j, q => q (.bl (decide (j < i)))
  | .str x, .str y, q => q (.bl (decide (y < x)))
  | _, _, _ => False
def oGe : D → D → (D → Prop) → Prop
  | .int i, .int j, q => q (.bl (decide (j ≤ i)))
  | .str x, .str y, q => q (.bl (!decide (x < y)))
  | _, _, _ => False
theorem opd_is {f : Value → Value → Sem Value} {gi : Int → Int → Bool} {gs : List Nat → List Nat → Bool} (h1 : OpR C.X f (rI0 fun i j => .bl (gi i j)))
    (h2 : OpR C.X f (fun x y H Q => ∃ i j, x = .str i ∧ y = .str j ∧ Q (.bl (gs i.cps.toList j.cps.toList)) H)) :
    OpD C f (fun d e q => match d, e with | .int i, .int j => q (.bl (gi i j)) | .str x, .str y => q (.bl (gs x y)) | _, _ => False) := by
  refine ⟨_, h1.or h2, fun W x y d e Q q k r1 r2 hQ h => ?_⟩
  cases d with
  | int i =>
    cases e with
    | int j => exact .inl ⟨i, j, r1.int_inv, r2.int_inv, hQ _ _ W (Go.refl W) k rfl (.bl _) h⟩
    | _ => exact h.elim
  | str a =>
    cases e with
    | str b =>
      obtain ⟨z, rfl, rfl⟩ := r1.str_inv
      obtain ⟨z2, rfl, rfl⟩ := r2.str_inv
      exact .inr ⟨z, z2, rfl, rfl, hQ _ _ W (Go.refl W) k rfl (.bl _) h⟩
    | _ => exact h.elim
  | _ => exact h.elim
theorem OpD.of_eq {f : Value → Value → Sem Value} {r r' : D → D → (D → Prop) → Prop} (h : OpD C f r) (e : ∀ x y q, r' x y q → r x y q) : OpD C f r' := by
  obtain ⟨rr, h1, h2⟩ := h.run
  exact ⟨rr, h1, fun W x y d e' Q q k r1 r2 hQ hr => h2 W x y d e' Q q k r1 r2 hQ (e _ _ _ hr)⟩
theorem opd_lt : OpD C (compareOp .Lt) oLt := (opd_is (gi := fun i j => decide (i < j)) (gs := fun x y => decide (x < y)) op_lt op_lt_str).of_eq fun x y q h => by cases x <;> cases y <;> exact h
theorem opd_le : OpD C (compareOp .LtE) oLe := (opd_is (gi := fun i j => decide (i ≤ j)) (gs := fun x y => !decide (y < x)) op_le op_le_str).of_eq fun x y q h => by cases x <;> cases y <;> exact h
theorem opd_gt : OpD C (compareOp .Gt) oGt := (opd_is (gi := fun i j => decide (j < i)) (gs := fun x y => decide (y < x)) op_gt op_gt_str).of_eq fun x y q h => by cases x <;> cases y <;> exact h
theorem opd_ge : OpD C (compareOp .GtE) oGe := (opd_is (gi := fun i j => decide (j ≤ i)) (gs := fun x y => !decide (x < y)) op_ge op_ge_str).of_eq fun x y q h => by cases x <;> cases y <;> exact h

mutual
def py : D → PyData
  | .non => .none
  | .bl b => .bool b
  | .int i => .int i
  | .str x => .str (S x)
  | .lst xs => .list (pyA xs)
  | .tup xs => .tuple (pyA xs)
  | .dic kvs => .dict (pyK kvs)
  | .ob _ => .none
  | .exn _ _ _ => .none
  | .tx _ => .none
def pyA : List D → List PyData
  | [] => []
  | d :: ds => py d :: pyA ds
def pyK : List (Key × D) → List (PyData × PyData)
  | [] => []
  | (k, d) :: r => ((match k with | .inl i => .int i | .inr x => .str x), py d) :: pyK r
end
mutual
def pln : D → Bool
  | .lst xs => plnA xs
  | .tup xs => plnA xs
  | .dic kvs => plnK kvs
  | .ob _ => false
  | .exn _ _ _ => false
  | .tx _ => false
  | .non => true
  | .bl _ => true
  | .int _ => true
  | .str _ => true
def plnA : List D → Bool
  | [] => true
  | d :: ds => pln d && plnA ds
def plnK : List (Key × D) → Bool
  | [] => true
  | (_, d) :: r => pln d && plnK r
end
section
variable {K : PySem.W.Frag} {F H : Hp} {R : List Addr}
mutual
theorem rp_dp (s : Same F H) : ∀ {v : V} {d : D}, Rp K F R v d → (py d).canLay0 = true → pln d = true → Dp K H v (py d)
  | _, _, .non, _, _ => .non
  | _, _, .bl b, _, _ => .bl b
  | _, _, .int i, _, _ => .int i
  | _, _, .str z x h, _, _ => by subst h; rw [show py (.str z.cps.toList) = .str (S z.cps.toList) from rfl, S_of]; exact .str z
  | _, .lst ds, .lst h q, hc, hp => .lst (.of (s _ _ h)) (rpA_dp s q (by simpa [py, PyData.canLay0] using hc) (by simpa [pln] using hp))
  | _, .tup ds, .tup h q, hc, hp => .tup (same_tup s h) (rpA_dp s q (by simpa [py, PyData.canLay0] using hc) (by simpa [pln] using hp))
  | _, .dic ds, .dic h q, hc, _ => by simp [py, PyData.canLay0] at hc
  | _, .ob k, .ob h, _, hp => by simp [pln] at hp
  | _, .exn _ _ _, .exn0 _ _ _ _, _, hp => by simp [pln] at hp
  | _, .exn _ _ _, .exn _ _ _ _ _ _ _, _, hp => by simp [pln] at hp
  | _, .tx _, .tx _ _ _ _, _, hp => by simp [pln] at hp
theorem rpA_dp (s : Same F H) : ∀ {vs : List V} {ds : List D}, RpA K F R vs ds → PyData.canLayAll0 (pyA ds) = true → plnA ds = true → DpAll K H vs (pyA ds)
  | _, _, .nil, _, _ => .nil
  | _, d :: ds, .cons r t, hc, hp => by
    have h1 : (py d).canLay0 = true ∧ PyData.canLayAll0 (pyA ds) = true := by simpa [pyA, PyData.canLayAll0] using hc
    have h2 : pln d = true ∧ plnA ds = true := by simpa [plnA] using hp
    exact .cons (rp_dp s r h1.1 h2.1) (rpA_dp s t h1.2 h2.2)
end
end
theorem rdp_dp {K : PySem.W.Frag} (k : Wok K W) {v : V} {d : D} (h : RdP K W v d) (hc : (py d).canLay0 = true) (hp : pln d = true) : Dp K W.H v (py d) := by
  rcases h with h | ⟨p, vs, ds, rfl, rfl, h, n, r⟩
  · exact rp_dp k.sub h hc hp
  · exact .lst (.of h) (rpA_dp k.sub r (by simpa [py, PyData.canLay0] using hc) (by simpa [pln] using hp))
/-- == of data -/
def deq (d e : D) : Bool := PyData.eqv (py d) (py e)
def shp (d : D) : Bool := SeqAt.shaped (py d) && pln d
def oEqB (f : Bool → Bool) : D → D → (D → Prop) → Prop
  | .int i, .int j, q => q (.bl (f (decide (i = j))))
  | .str x, .str y, q => q (.bl (f (decide (x = y))))
  | .bl x, .bl y, q => q (.bl (f (decide (x = y))))
  | d, e, q => shp d = true ∧ shp e = true ∧ q (.bl (f (deq d e)))
def oEq := oEqB id
def oNe := oEqB not
theorem str_dec (z z2 : Str) : decide (V.str z = V.str z2) = decide (z.cps.toList = z2.cps.toList) := by
  refine decide_eq_decide.mpr ⟨fun h => by cases h; rfl, fun h => ?_⟩
  obtain ⟨a⟩ := z
  obtain ⟨b⟩ := z2
  rw [show a = b from Array.toList_inj.mp h]
theorem oEqB_cases {f : Bool → Bool} {d e : D} {q : D → Prop} (h : oEqB f d e q) : (∃ i j, d = .int i ∧ e = .int j ∧ q (.bl (f (decide (i = j))))) ∨ (∃ i j, d = .str i ∧ e = .str j ∧ q (.bl (f (decide (i = j))))) ∨ (∃ i j, d = .bl i ∧ e = .bl j ∧ q (.bl (f (decide (i = j))))) ∨
    (shp d = true ∧ shp e = true ∧ q (.bl (f (deq d e)))) := by
  cases d <;> cases e <;> first | exact .inl ⟨_, _, rfl, rfl, h⟩ | exact .inr (.inl ⟨_, _, rfl, rfl, h⟩) | exact .inr (.inr (.inl ⟨_, _, rfl, rfl, h⟩)) | exact .inr (.inr (.inr h))
theorem shp_and {d : D} (h : shp d = true) : SeqAt.shaped (py d) = true ∧ pln d = true := by simpa [shp] using h
theorem opd_eqB {f : Bool → Bool} {g : Value → Value → Sem Value} (h1 : OpR C.X g (fun x y H Q => scal x y = true ∧ Q (.bl (f (decide (x = y)))) H)) (h2 : OpR C.X g (fun x y H Q => ∃ d e, Dp C.X.K H x d ∧ Dp C.X.K H y e ∧ SeqAt.shaped d = true ∧ SeqAt.shaped e = true ∧ Q (.bl (f (PyData.eqv d e))) H)) :
    OpD C g (oEqB f) := by
  refine ⟨_, h1.or h2, fun W x y d e Q q k r1 r2 hQ h => ?_⟩
  rcases oEqB_cases h with ⟨i, j, rfl, rfl, h⟩ | ⟨i, j, rfl, rfl, h⟩ | ⟨i, j, rfl, rfl, h⟩ | ⟨a, b, h⟩
  · have e1 := r1.int_inv
    have e2 := r2.int_inv
    subst e1 e2
    refine .inl ⟨rfl, hQ _ _ W (Go.refl W) k rfl (.bl _) ?_⟩
    rw [dec_int, Bool.beq_eq_decide_eq]
    exact h
  · obtain ⟨z, rfl, rfl⟩ := r1.str_inv
    obtain ⟨z2, rfl, rfl⟩ := r2.str_inv
    refine .inl ⟨rfl, hQ _ _ W (Go.refl W) k rfl (.bl _) ?_⟩
    rw [str_dec]
    exact h
  · have e1 := r1.bl_inv
    have e2 := r2.bl_inv
    subst e1 e2
    refine .inl ⟨rfl, hQ _ _ W (Go.refl W) k rfl (.bl _) ?_⟩
    rw [dec_bl, Bool.beq_eq_decide_eq]
    exact h
  · obtain ⟨a1, a2⟩ := shp_and a
    obtain ⟨b1, b2⟩ := shp_and b
    exact .inr ⟨py d, py e, rdp_dp k r1 (SeqAt.canLay_of_shaped a1) a2, rdp_dp k r2 (SeqAt.canLay_of_shaped b1) b2, a1, b1, hQ _ _ W (Go.refl W) k rfl (.bl _) h⟩
theorem opd_eq (hu : C.X.A.units + 64 < cLine) : OpD C (compareOp .Eq) oEq := opd_eqB op_eq (op_eqD hu)
theorem opd_ne (hu : C.X.A.units + 64 < cLine) : OpD C (compareOp .NotEq) oNe := opd_eqB op_ne (op_neD hu)
/-- is None -/
def isN : D → Bool
  | .non => true
  | _ => false
def oIsN : D → D → (D → Prop) → Prop := fun d e q => match e with | .non => q (.bl (isN d)) | _ => False
def oNotN : D → D → (D → Prop) → Prop := fun d e q => match e with | .non => q (.bl (!isN d)) | _ => False
theorem isN_of {K : PySem.W.Frag} {v : V} {d : D} (r : RdP K W v d) : decide (v = .non) = isN d := by
  rcases r with r | ⟨p, vs, ds, rfl, rfl, _⟩
  · cases r <;> rfl
  · rfl
theorem opd_isN : OpD C (compareOp .Is) oIsN := by
  refine ⟨_, op_isN, fun W x y d e Q q k r1 r2 hQ h => ?_⟩
  cases e with
  | non => exact ⟨r2.non_inv, hQ _ _ W (Go.refl W) k rfl (.bl _) (by rw [isN_of r1]; exact h)⟩
  | _ => exact h.elim
theorem opd_notN : OpD C (compareOp .IsNot) oNotN := by
  refine ⟨_, op_notN, fun W x y d e Q q k r1 r2 hQ h => ?_⟩
  cases e with
  | non => exact ⟨r2.non_inv, hQ _ _ W (Go.refl W) k rfl (.bl _) (by rw [isN_of r1]; exact h)⟩
  | _ => exact h.elim

def oIx : D → D → (D → Prop) → Prop
  | .lst ds, .int i, q => ∃ d, atI ds i = some d ∧ q d
  | .tup ds, .int i, q => ∃ d, atI ds i = some d ∧ q d
  | .str x, .int i, q => x.length ≤ sizeLine ∧ ∃ c, atI x i = some c ∧ q (.str [c])
  | _, _, _ => False
theorem atI_get2 {K : PySem.W.Frag} {F : Hp} {R : List Addr} {vs : List V} {ds : List D} {i : Int} {d : D} (r : RpA K F R vs ds) (h : atI ds i = some d) : ∃ v, atI vs i = some v ∧ Rp K F R v d := by
  unfold atI at h ⊢
  rw [← r.length] at h
  cases hj : ixN vs.length i with
  | none => rw [hj] at h; cases h
  | some j =>
    rw [hj] at h
    exact r.get' h
variable {a b : Expr} {wa wb : EW M}
theorem de_ix (ha : DP C a wa) (hb : DP C b wb) (hs : PlainIx b) : DE C (.Subscript a b pos) (wBin oIx wa wb) := ⟨fun σ ρ W Q q S hQ hw =>
  tOf_of (pe_ix ix_seq pe_tOf pe_tOf hs) (two_run (f := fun _ _ => pure .none) ha hb S (fun W1 x y d e g k r1 r2 q1 => by
    cases d with
    | lst ds =>
      cases e with
      | int i =>
        obtain ⟨d, h1, q1⟩ := q1
        obtain ⟨p, vs, rfl, hp, np, ra⟩ := r1.lst_inv k
        obtain ⟨v, h2, h3⟩ := atI_get2 ra h1
        exact .inl ⟨p, vs, i, v, rfl, r2.int_inv, .of hp, h2, hQ v d W1 g k h3 q1⟩
      | _ => exact q1.elim
    | tup ds =>
      cases e with
      | int i =>
        obtain ⟨d, h1, q1⟩ := q1
        obtain ⟨p, vs, rfl, hp, ra⟩ := r1.tup_inv
        obtain ⟨v, h2, h3⟩ := atI_get2 ra h1
        exact .inr (.inl ⟨p, vs, i, v, rfl, r2.int_inv, same_tup k.sub hp, h2, hQ v d W1 g k h3 q1⟩)
      | _ => exact q1.elim
    | str x =>
      cases e with
      | int i =>
        obtain ⟨hz, c, h1, q1⟩ := q1
        obtain ⟨z, rfl, rfl⟩ := r1.str_inv
        exact .inr (.inr ⟨z, i, c, rfl, r2.int_inv, by rw [str_len]; exact hz, h1, hQ _ _ W1 g k (rp_strS _ rfl) q1⟩)
      | _ => exact q1.elim
    | _ => exact q1.elim) hw)⟩
abbrev OW (M : Ghost) := DEnv → M.G → (Option Int → M.G → Prop) → Prop
def oOf (X : Cx) (e : Option Expr) : TO := fun σ H Q => ∀ (pins : List (Addr × Obj)) (s : Shared), Inv X pins σ H s →
  wpAny (model X.prog X.w) X.A (evalPart e X.env) (fun u s' => ∃ o H', Inv X pins σ H' s' ∧ PySem.IsPart u o ∧ Q o H') X.xe s
theorem po_tOf {X : Cx} {e : Option Expr} : PO X e (oOf X e) := ⟨fun pins s _ _ _ I h => h pins s I⟩
structure DO (C : Ct M) (e : Option Expr) (w : OW M) : Prop where
  run : ∀ (σ : L2.St) (ρ : DEnv) (W : Wd M) (Q : Option Int → Hp → Prop) (q : Option Int → M.G → Prop), Sat C σ ρ W → (∀ o W', Go W W' → Wok C.X.K W' → q o W'.g → Q o W'.H) → w ρ W.g q → oOf C.X e σ W.H Q
@[simp] def wONone : OW M := fun _ g q => q none g
@[simp] def wOSome (w : EW M) : OW M := fun ρ g q => w ρ g fun d g' => asI d fun i => q (some i) g'
theorem do_none : DO C none wONone := ⟨fun σ ρ W Q q S hQ hw pins s I => po_none.run pins s σ W.H Q I (hQ none W (Go.refl W) S.ok hw)⟩
theorem do_some (he : DE C e we) : DO C (some e) (wOSome we) := ⟨fun σ ρ W Q q S hQ hw pins s I => (po_some pe_tOf).run pins s σ W.H Q I (he.run σ ρ W _ _ S (fun v d W' g k r q1 => by
  cases d with
  | int i => exact ⟨i, by cases r; rfl, hQ _ W' g k q1⟩
  | _ => exact q1.elim) hw)⟩
def cutL {α : Type} (xs : List α) (lo hi : Option Int) : List α := (xs.drop (HT.sIx xs.length 0 lo)).take (HT.sIx xs.length xs.length hi - HT.sIx xs.length 0 lo)
theorem RpA.cut {K : PySem.W.Frag} {F : Hp} {R : List Addr} {vs : List V} {ds : List D} (r : RpA K F R vs ds) (lo hi : Option Int) : RpA K F R (cutV vs lo hi) (cutL ds lo hi) := by
  unfold cutV cutL
  rw [r.length]
  exact (r.drop _).take _
theorem cut_all {α : Type} {xs : List α} {lo hi : Option Int} (h : HT.sIx xs.length 0 lo = 0 ∧ HT.sIx xs.length xs.length hi = xs.length) : cutL xs lo hi = xs := by
  unfold cutL
  rw [h.1, h.2]
  simp
def oSl : D → Option Int → Option Int → (D → Prop) → Prop
  | .str x, lo, hi, q => x.length ≤ sizeLine ∧ q (.str (cutL x lo hi))
  | .tup ds, lo, hi, q => q (.tup (cutL ds lo hi))
  | .lst ds, lo, hi, q => q (.lst (cutL ds lo hi))
  | _, _, _, _ => False
def oSlN : D → Option Int → Option Int → (List D → Prop) → Prop
  | .lst ds, lo, hi, q => q (cutL ds lo hi)
  | _, _, _, _ => False
@[simp] def wSl (w : EW M) (l h : OW M) : EW M := fun ρ g q => w ρ g fun d g1 => l ρ g1 fun lo g2 => h ρ g2 fun hi g3 => oSl d lo hi fun r => q r g3
@[simp] def wSlN (w : EW M) (l h : OW M) : NW M := fun ρ g q => w ρ g fun d g1 => l ρ g1 fun lo g2 => h ρ g2 fun hi g3 => oSlN d lo hi fun r => q r g3
variable {lo hi : Option Expr} {wl wh : OW M} {p2 : Pos}
theorem sl_run {rr : V → Option Int → Option Int → Hp → VK → Prop} (ha : DP C a wa) (hl : DO C lo wl) (hh : DO C hi wh) {Q : VK} {q : D → Option Int → Option Int → M.G → Prop} (S : Sat C σ ρ W)
    (h : ∀ W1 x d l u, Go W W1 → Wok C.X.K W1 → RdP C.X.K W1 x d → q d l u W1.g → rr x l u W1.H Q) (hw : wa ρ W.g fun d g1 => wl ρ g1 fun l g2 => wh ρ g2 fun u g3 => q d l u g3) :
    tSl rr (tOf C.X a) (oOf C.X lo) (oOf C.X hi) σ W.H Q :=
  ha.run σ ρ W _ _ S (fun v d W1 g1 k1 r1 q1 => hl.run σ ρ W1 _ _ (S.step g1 k1) (fun l W2 g2 k2 q2 => hh.run σ ρ W2 _ _ (S.step (g1.trans g2) k2) (fun u W3 g3 k3 q3 => h W3 v d l u ((g1.trans g2).trans g3) k3 ((r1.step g2).step g3) q3) q2) q1) hw
theorem de_slice (ha : DP C a wa) (hl : DO C lo wl) (hh : DO C hi wh) : DE C (.Subscript a (.Slice lo hi none p2) pos) (wSl wa wl wh) := ⟨fun σ ρ W Q q S hQ hw =>
  tOf_of (pe_slice ((sl_str.or sl_tupA).or sl_list) pe_tOf po_tOf po_tOf) (sl_run ha hl hh S (fun W1 x d l u g k r q1 => by
    cases d with
    | str y =>
      obtain ⟨z, rfl, rfl⟩ := r.str_inv
      refine .inl (.inl ⟨z, rfl, by rw [str_len]; exact q1.1, hQ _ _ W1 g k (rp_strS _ ?_) q1.2⟩)
      unfold cutS cutL
      rw [str_len]
    | tup ds =>
      obtain ⟨p, vs, rfl, hp, ra⟩ := r.tup_inv
      refine .inl (.inr ⟨p, vs, rfl, same_tup k.sub hp, fun hw => ?_, fun _ t ht => ?_⟩)
      · rw [ra.length] at hw
        rw [show oSl (.tup ds) l u (fun r => q r W1.g) = q (.tup (cutL ds l u)) W1.g from rfl, cut_all hw] at q1
        exact hQ _ _ W1 g k (.tup hp ra) q1
      · exact hQ _ _ (W1.lay t (.tup (cutV vs l u))) (g.trans (Go.lay k ht)) (k.lay ht) (.tup (.of upd_same) ((ra.cut l u).mono (same_new (k.noF ht)) fun _ _ z => z)) q1
    | lst ds =>
      obtain ⟨p, vs, rfl, hp, np, ra⟩ := r.lst_inv k
      exact .inr ⟨p, vs, rfl, .of hp, fun t ht => hQ _ _ (W1.lay t (.lst (cutV vs l u))) (g.trans (Go.lay k ht)) (k.lay ht) (.lst upd_same ((ra.cut l u).mono (same_new (k.noF ht)) fun _ _ z => z)) q1⟩
    | _ => exact q1.elim) hw)⟩
theorem nofresh (g : Go W W1) {p : Addr} (h : W1.H p = none) : W.H p = none := by
  cases z : W.H p with
  | none => rfl
  | some o => exact absurd h (g.live p (by rw [z]; simp))
theorem dn_slice (ha : DP C a wa) (hl : DO C lo wl) (hh : DO C hi wh) : DN C (.Subscript a (.Slice lo hi none p2) pos) (wSlN wa wl wh) := ⟨fun σ ρ W Q q S hQ hw =>
  tOf_of (pe_slice sl_list pe_tOf po_tOf po_tOf) (sl_run ha hl hh S (fun W1 x d l u g k r q1 => by
    cases d with
    | lst ds =>
      obtain ⟨p, vs, rfl, hp, np, ra⟩ := r.lst_inv k
      exact ⟨p, vs, rfl, .of hp, fun t ht => hQ t _ _ (W1.new t (.lst (cutV vs l u))) (g.trans (Go.new k ht)) (k.new ht) upd_same (k.noF ht) (k.noR ht) (nofresh g ht) (ra.cut l u) q1⟩
    | _ => exact q1.elim) hw)⟩

structure CallD (C : Ct M) (f : Value) (r : List D → (D → Prop) → Prop) : Prop where
  run : ∃ rr, CallR C.X f rr ∧ ∀ (W : Wd M) (vs : List V) (ds : List D) (Q : VK) (q : D → Prop), Wok C.X.K W → Paired (RdP C.X.K W) vs ds →
    (∀ v d' W', Go W W' → Wok C.X.K W' → W'.g = W.g → Rp C.X.K W'.F W'.R v d' → q d' → Q v W'.H) → r ds q → rr vs W.H Q
structure CallN (C : Ct M) (f : Value) (r : List D → (List D → Prop) → Prop) : Prop where
  run : ∃ rr, CallR C.X f rr ∧ ∀ (W : Wd M) (vs : List V) (ds : List D) (Q : VK) (q : List D → Prop), Wok C.X.K W → Paired (RdP C.X.K W) vs ds →
    (∀ p vs ds W', Go W W' → Wok C.X.K W' → W'.g = W.g → W'.H p = some (.lst vs) → W'.F p = none → p ∉ W'.R → W.H p = none → RpA C.X.K W'.F W'.R vs ds → q ds → Q (.ref p) W'.H) → r ds q → rr vs W.H Q
@[simp] def wCB (r : List D → (D → Prop) → Prop) (wa : AW M) : EW M := fun ρ g q => wa ρ g fun ds g' => r ds fun d => q d g'
@[simp] def wCN (r : List D → (List D → Prop) → Prop) (wa : AW M) : NW M := fun ρ g q => wa ρ g fun ds g' => r ds fun d => q d g'
variable {x : Str} {p : Pos} {id T : String} {r : List D → (D → Prop) → Prop} {rn : List D → (List D → Prop) → Prop} {wA : AW M}
theorem de_callB (hc : CallD C (.builtin id) r) (hg : Gl C.X x) (hm : C.X.mg x = none) (hv : bootBuiltins x = some (.builtin id)) (ha : DAP C (e :: es) wA) (hn : x ≠ "__name__" := by decide) (hdb : (x == ("__debug__" : Str)) = false := by decide)
    (he : starEach (e :: es) C.X.env = (false, eval e C.X.env) :: starEach es C.X.env := by rfl) (hpl : (backTo pos (starEach es C.X.env)).any (·.1) = false := by rfl) : DE C (.Call (.Name x p) (e :: es) [] pos) (wCB r wA) := ⟨fun σ ρ W Q q S hQ hw => by
  obtain ⟨rr, h1, h2⟩ := hc.run
  exact tOf_of (pe_callB h1 hg hm hv pa_tOf hn hdb he hpl) (ha.run σ ρ W _ _ S (fun vs ds W1 g1 k1 r1 q1 => h2 W1 vs ds Q _ k1 r1 (fun v d W2 g2 k2 eg r2 q2 => hQ v d W2 (g1.trans g2) k2 r2 (eg ▸ q2)) q1) hw)⟩
theorem de_callTy (hc : CallD C (.type T) r) (hg : Gl C.X x) (hm : C.X.mg x = none) (hv : bootBuiltins x = some (.type T)) (ha : DAP C (e :: es) wA) (hn : x ≠ "__name__" := by decide) (hdb : (x == ("__debug__" : Str)) = false := by decide)
    (he : starEach (e :: es) C.X.env = (false, eval e C.X.env) :: starEach es C.X.env := by rfl) (hpl : (backTo pos (starEach es C.X.env)).any (·.1) = false := by rfl) : DE C (.Call (.Name x p) (e :: es) [] pos) (wCB r wA) := ⟨fun σ ρ W Q q S hQ hw => by
  obtain ⟨rr, h1, h2⟩ := hc.run
  exact tOf_of (pe_callTy h1 hg hm hv pa_tOf hn hdb he hpl) (ha.run σ ρ W _ _ S (fun vs ds W1 g1 k1 r1 q1 => h2 W1 vs ds Q _ k1 r1 (fun v d W2 g2 k2 eg r2 q2 => hQ v d W2 (g1.trans g2) k2 r2 (eg ▸ q2)) q1) hw)⟩
theorem dn_callB (hc : CallN C (.builtin id) rn) (hg : Gl C.X x) (hm : C.X.mg x = none) (hv : bootBuiltins x = some (.builtin id)) (ha : DAP C (e :: es) wA) (hn : x ≠ "__name__" := by decide) (hdb : (x == ("__debug__" : Str)) = false := by decide)
    (he : starEach (e :: es) C.X.env = (false, eval e C.X.env) :: starEach es C.X.env := by rfl) (hpl : (backTo pos (starEach es C.X.env)).any (·.1) = false := by rfl) : DN C (.Call (.Name x p) (e :: es) [] pos) (wCN rn wA) := ⟨fun σ ρ W Q q S hQ hw => by
  obtain ⟨rr, h1, h2⟩ := hc.run
  exact tOf_of (pe_callB h1 hg hm hv pa_tOf hn hdb he hpl) (ha.run σ ρ W _ _ S (fun vs ds W1 g1 k1 r1 q1 => h2 W1 vs ds Q _ k1 r1 (fun p vs ds W2 g2 k2 eg a1 a2 a3 a4 r2 q2 => hQ p vs ds W2 (g1.trans g2) k2 a1 a2 a3 (nofresh g1 a4) r2 (eg ▸ q2)) q1) hw)⟩
theorem dn_callTy (hc : CallN C (.type T) rn) (hg : Gl C.X x) (hm : C.X.mg x = none) (hv : bootBuiltins x = some (.type T)) (ha : DAP C (e :: es) wA) (hn : x ≠ "__name__" := by decide) (hdb : (x == ("__debug__" : Str)) = false := by decide)
    (he : starEach (e :: es) C.X.env = (false, eval e C.X.env) :: starEach es C.X.env := by rfl) (hpl : (backTo pos (starEach es C.X.env)).any (·.1) = false := by rfl) : DN C (.Call (.Name x p) (e :: es) [] pos) (wCN rn wA) := ⟨fun σ ρ W Q q S hQ hw => by
  obtain ⟨rr, h1, h2⟩ := hc.run
  exact tOf_of (pe_callTy h1 hg hm hv pa_tOf hn hdb he hpl) (ha.run σ ρ W _ _ S (fun vs ds W1 g1 k1 r1 q1 => h2 W1 vs ds Q _ k1 r1 (fun p vs ds W2 g2 k2 eg a1 a2 a3 a4 r2 q2 => hQ p vs ds W2 (g1.trans g2) k2 a1 a2 a3 (nofresh g1 a4) r2 (eg ▸ q2)) q1) hw)⟩
def cLen : List D → (D → Prop) → Prop
  | [.str x], q => x.length ≤ sizeLine ∧ q (.int x.length)
  | [.lst ds], q => q (.int ds.length)
  | [.tup ds], q => q (.int ds.length)
  | _, _ => False
theorem pair1 {α β : Type} {P : α → β → Prop} {xs : List α} {y : β} (h : Paired P xs [y]) : ∃ x, xs = [x] ∧ P x y := by
  cases h with
  | cons a b => cases b; exact ⟨_, rfl, a⟩
theorem pair2 {α β : Type} {P : α → β → Prop} {xs : List α} {y z : β} (h : Paired P xs [y, z]) : ∃ x x', xs = [x, x'] ∧ P x y ∧ P x' z := by
  cases h with
  | cons a b => cases b with
    | cons c d => cases d; exact ⟨_, _, rfl, a, c⟩
theorem one_of {r : List D → (D → Prop) → Prop} {ds : List D} {q : D → Prop} (h : r ds q) (f : ∀ q, ¬ r [] q) (f2 : ∀ a b c q, ¬ r (a :: b :: c) q) : ∃ d, ds = [d] := by
  cases ds with
  | nil => exact absurd h (f q)
  | cons a t =>
    cases t with
    | nil => exact ⟨a, rfl⟩
    | cons b c => exact absurd h (f2 a b c q)
theorem calld_len : CallD C (.builtin "len") cLen := by
  refine ⟨_, call_len, fun W vs ds Q q k r hQ h => ?_⟩
  obtain ⟨d, rfl⟩ := one_of h (fun _ h => h) (fun a _ _ _ h => by cases a <;> exact h)
  obtain ⟨v, rfl, r0⟩ := pair1 r
  cases d with
  | str x =>
    obtain ⟨z, rfl, rfl⟩ := r0.str_inv
    refine ⟨_, z.length, rfl, ⟨by rw [str_len]; exact h.1, rfl⟩, hQ _ _ W (Go.refl W) k rfl (.int _) ?_⟩
    rw [str_len]
    exact h.2
  | lst ds =>
    obtain ⟨p, vs, rfl, hp, np, ra⟩ := r0.lst_inv k
    exact ⟨_, vs.length, rfl, .inl ⟨vs, .of hp, rfl⟩, hQ _ _ W (Go.refl W) k rfl (.int _) (by rw [ra.length]; exact h)⟩
  | tup ds =>
    obtain ⟨p, vs, rfl, hp, ra⟩ := r0.tup_inv
    exact ⟨_, vs.length, rfl, .inr ⟨vs, same_tup k.sub hp, rfl⟩, hQ _ _ W (Go.refl W) k rfl (.int _) (by rw [ra.length]; exact h)⟩
  | _ => exact h.elim
def cTuple : List D → (D → Prop) → Prop
  | [.lst ds], q => q (.tup ds)
  | [.tup ds], q => q (.tup ds)
  | _, _ => False
theorem calld_tuple : CallD C (.type "tuple") cTuple := by
  refine ⟨_, call_tuple_of, fun W vs ds Q q k r hQ h => ?_⟩
  obtain ⟨d, rfl⟩ := one_of h (fun _ h => h) (fun a _ _ _ h => by cases a <;> exact h)
  obtain ⟨v, rfl, r0⟩ := pair1 r
  cases d with
  | lst ds =>
    obtain ⟨p, vs, rfl, hp, np, ra⟩ := r0.lst_inv k
    exact ⟨p, vs, rfl, .inl ⟨.of hp, fun t ht => hQ _ _ (W.lay t (.tup vs)) (Go.lay k ht) (k.lay ht) rfl (.tup (.of upd_same) (ra.mono (same_new (k.noF ht)) fun _ _ z => z)) h⟩⟩
  | tup ds =>
    obtain ⟨p, vs, rfl, hp, ra⟩ := r0.tup_inv
    exact ⟨p, vs, rfl, .inr ⟨same_tup k.sub hp, hQ _ _ W (Go.refl W) k rfl (.tup hp ra) h⟩⟩
  | _ => exact h.elim
def cList : List D → (List D → Prop) → Prop
  | [.lst ds], q => q ds
  | [.tup ds], q => q ds
  | _, _ => False
theorem calln_list : CallN C (.type "list") cList := by
  refine ⟨_, call_list_of, fun W vs ds Q q k r hQ h => ?_⟩
  have e : ∃ d, ds = [d] := by
    cases ds with
    | nil => exact h.elim
    | cons a t =>
      cases t with
      | nil => exact ⟨a, rfl⟩
      | cons b c => cases a <;> exact h.elim
  obtain ⟨d, rfl⟩ := e
  obtain ⟨v, rfl, r0⟩ := pair1 r
  cases d with
  | lst ds =>
    obtain ⟨p, vs, rfl, hp, np, ra⟩ := r0.lst_inv k
    exact ⟨p, vs, rfl, .inl (.of hp), fun t ht => hQ t _ _ (W.new t (.lst vs)) (Go.new k ht) (k.new ht) rfl upd_same (k.noF ht) (k.noR ht) ht ra h⟩
  | tup ds =>
    obtain ⟨p, vs, rfl, hp, ra⟩ := r0.tup_inv
    exact ⟨p, vs, rfl, .inr (same_tup k.sub hp), fun t ht => hQ t _ _ (W.new t (.lst vs)) (Go.new k ht) (k.new ht) rfl upd_same (k.noF ht) (k.noR ht) ht ra h⟩
  | _ => exact h.elim
def cMin2 : List D → (D → Prop) → Prop
  | [.int i, .int j], q => q (.int (if j < i then j else i))
  | _, _ => False
def cMax2 : List D → (D → Prop) → Prop
  | [.int i, .int j], q => q (.int (if j > i then j else i))
  | _, _ => False
theorem cMin2_inv {ds : List D} {q : D → Prop} (h : cMin2 ds q) : ∃ i j, ds = [.int i, .int j] ∧ q (.int (if j < i then j else i)) := by
  unfold cMin2 at h
  split at h
  · exact ⟨_, _, rfl, h⟩
  · exact h.elim
theorem cMax2_inv {ds : List D} {q : D → Prop} (h : cMax2 ds q) : ∃ i j, ds = [.int i, .int j] ∧ q (.int (if j > i then j else i)) := by
  unfold cMax2 at h
  split at h
  · exact ⟨_, _, rfl, h⟩
  · exact h.elim
theorem calld_min2 (hc : C.X.calm = true) : CallD C (.builtin "min") cMin2 := by
  refine ⟨_, call_min2 hc, fun W vs ds Q q k r hQ h => ?_⟩
  obtain ⟨i, j, rfl, h⟩ := cMin2_inv h
  obtain ⟨v, v', rfl, r1, r2⟩ := pair2 r
  exact ⟨i, j, by rw [r1.int_inv, r2.int_inv], hQ _ _ W (Go.refl W) k rfl (.int _) h⟩
theorem calld_max2 (hc : C.X.calm = true) : CallD C (.builtin "max") cMax2 := by
  refine ⟨_, call_max2 hc, fun W vs ds Q q k r hQ h => ?_⟩
  obtain ⟨i, j, rfl, h⟩ := cMax2_inv h
  obtain ⟨v, v', rfl, r1, r2⟩ := pair2 r
  exact ⟨i, j, by rw [r1.int_inv, r2.int_inv], hQ _ _ W (Go.refl W) k rfl (.int _) h⟩

def jn (sep : List Nat) : List (List Nat) → List Nat := TL.joinL sep
/-- texts among data -/
def strs? : List D → Option (List (List Nat))
  | [] => some []
  | .str x :: r => (strs? r).map (x :: ·)
  | _ :: _ => none
theorem strs?_map : ∀ {ds : List D} {xs : List (List Nat)}, strs? ds = some xs → ds = xs.map D.str
  | [], _, h => by cases h; rfl
  | d :: r, xs, h => by
    cases d with
    | str x =>
      unfold strs? at h
      cases q : strs? r with
      | none => rw [q] at h; cases h
      | some ys =>
        rw [q] at h
        cases h
        rw [strs?_map q]
        rfl
    | _ => cases h
theorem strs?_of : ∀ xs : List (List Nat), strs? (xs.map D.str) = some xs
  | [] => rfl
  | x :: r => by
    show (strs? (r.map D.str)).map (x :: ·) = _
    rw [strs?_of r]
    rfl
def oJoin (sep : List Nat) (d : D) (q : D → Prop) : Prop := ∃ ds xs, (d = .lst ds ∨ d = .tup ds) ∧ ds = xs.map D.str ∧ (xs.map (·.length)).sum + xs.length * sep.length ≤ 16777216 ∧ q (.str (jn sep xs))
def asS (d : D) (q : List Nat → Prop) : Prop := match d with
  | .str i => q i
  | _ => False
@[simp] def wJoin (wo we : EW M) : EW M := fun ρ g q => wo ρ g fun s g1 => asS s fun sep => we ρ g1 fun d g2 => oJoin sep d fun r => q r g2
theorem join_list (a : Str) (zs : List Str) : (PySem.Txt.join a zs).cps.toList = jn a.cps.toList (zs.map (·.cps.toList)) := by
  rw [TL.join_eq]
  exact TL.tl_join a zs
theorem de_join {o : Expr} {wo : EW M} {apos : Pos} (ho : DE C o wo) (he : DP C e we) (hs : starEach [e] C.X.env = [(false, eval e C.X.env)] := by rfl) (hbase : attributeBase o "join" C.X.env (eval o C.X.env) = eval o C.X.env := by rfl) (hline : (apos.endLine == pos.line) = true := by rfl) :
    DE C (.Call (.Attribute o "join" apos) [e] [] pos) (wJoin wo we) := ⟨fun σ ρ W Q q S hQ hw =>
  tOf_of (pe_join pe_tOf pe_tOf hs hbase hline) (ho.run σ ρ W _ _ S (fun v d W1 g1 k1 r1 q1 => by
    cases d with
    | str sep =>
      cases r1 with
      | str z _ hz =>
        subst hz
        refine ⟨⟨z, rfl⟩, he.run σ ρ W1 _ _ (S.step g1 k1) (fun u d2 W2 g2 k2 r2 q2 => ?_) q1⟩
        obtain ⟨ds, xs, hd, e1, hl, q2⟩ := q2
        subst e1
        have fin : ∀ {vs : List V}, RpA C.X.K W2.F W2.R vs (xs.map D.str) → ∃ zs : List Str, vs = zs.map V.str ∧ (zs.map (·.length)).sum + zs.length * z.length ≤ 16777216 ∧ Q (.str (PySem.Txt.join z zs)) W2.H := fun {vs} r => by
          obtain ⟨zs, e1, e2⟩ := r.strs
          refine ⟨zs, e1, ?_, hQ _ _ W2 (g1.trans g2) k2 (rp_strS _ (by rw [join_list, e2])) q2⟩
          subst e2
          have e3 : (List.map (fun x : Str => x.cps.toList) zs).map (·.length) = zs.map (·.length) := by
            rw [List.map_map]
            exact List.map_congr_left fun x _ => (str_len x).symm
          rw [e3, List.length_map, ← str_len] at hl
          exact hl
        rcases hd with rfl | rfl
        · obtain ⟨p, vs, rfl, hp, np, ra⟩ := r2.lst_inv k2
          obtain ⟨zs, rfl, h1, h2⟩ := fin ra
          exact ⟨z, p, zs, rfl, rfl, .inl (.of hp), h1, h2⟩
        · obtain ⟨p, vs, rfl, hp, ra⟩ := r2.tup_inv
          obtain ⟨zs, rfl, h1, h2⟩ := fin ra
          exact ⟨z, p, zs, rfl, rfl, .inr (same_tup k2.sub hp), h1, h2⟩
    | _ => exact q1.elim) hw)⟩
end
end DL
set_option Elab.async false
set_option linter.all false
set_option maxRecDepth 100000
set_option maxHeartbeats 1000000
namespace DL
open PySem L2
/-- (text, number), in Python's order -/
def leTI (p q : List Nat × Int) : Prop := p.1 < q.1 ∨ (p.1 = q.1 ∧ p.2 ≤ q.2)
theorem perm_map_inv {α β : Type} {f : α → β} : ∀ {l l2 : List β}, l.Perm l2 → ∀ rs : List α, l2 = rs.map f → ∃ rs' : List α, rs'.Perm rs ∧ l = rs'.map f := by
  intro l l2 h
  induction h with
  | nil =>
    intro rs e
    cases rs with
    | nil => exact ⟨[], .refl _, rfl⟩
    | cons a r => cases e
  | cons x h ih =>
    intro rs e
    cases rs with
    | nil => cases e
    | cons a r =>
      injection e with e1 e2
      obtain ⟨rs', p, e3⟩ := ih r e2
      exact ⟨a :: rs', p.cons a, by rw [e1, e3]; rfl⟩
  | swap x y l =>
    intro rs e
    cases rs with
    | nil => cases e
    | cons a r =>
      cases r with
      | nil => cases e
      | cons b r =>
        injection e with e1 e2
        injection e2 with e2 e3
        exact ⟨b :: a :: r, List.Perm.swap a b r, by rw [e1, e2, e3]; rfl⟩
  | trans h1 h2 ih1 ih2 =>
    intro rs e
    obtain ⟨r1, p1, e1⟩ := ih2 rs e
    obtain ⟨r2, p2, e2⟩ := ih1 r1 e1
    exact ⟨r2, p2.trans p1, e2⟩
abbrev RTI := Addr × Str × Int
def keyTI (r : RTI) : List (Int ⊕ List Nat) := [.inr r.2.1.cps.toList, .inl r.2.2]
def rSortedTI (K : PySem.W.Frag) : List V → Hp → VK → Prop := fun vs H Q => ∃ (a : Addr) (rs : List (Addr × Str × Int)), vs = [.ref a] ∧ SqL K H a (rs.map fun r => V.ref r.1) ∧ (∀ r ∈ rs, SqT K H r.1 [.str r.2.1, .int r.2.2]) ∧
  ∀ (rs' : List (Addr × Str × Int)) (p : Addr), rs'.Perm rs → rs'.Pairwise (fun r q => leTI (r.2.1.cps.toList, r.2.2) (q.2.1.cps.toList, q.2.2)) → H p = none → Q (.ref p) (upd H p (.lst (rs'.map fun r => V.ref r.1)))
theorem vals_refs : ∀ {rs : List RTI} {us : List Value}, Vals (rs.map fun r => V.ref r.1) us → us = rs.map fun r => Value.ref r.1
  | [], _, .nil => rfl
  | r :: rs, _, .cons a t => by
    have e : _ = Value.ref r.1 := a
    rw [e, vals_refs t]
    rfl
theorem refs_vals : ∀ rs : List RTI, Vals (rs.map fun r => V.ref r.1) (rs.map fun r => Value.ref r.1)
  | [] => .nil
  | r :: rs => .cons rfl (refs_vals rs)
theorem zip_refs : ∀ rs : List RTI, (rs.map fun r => Value.ref r.1).zip (rs.map fun r => Value.ref r.1) = rs.map fun r => (Value.ref r.1, Value.ref r.1)
  | [] => rfl
  | r :: rs => by rw [List.map_cons, List.map_cons, List.zip_cons_cons, zip_refs rs]
theorem kle_TI {r q : RTI} (h : (PyProof.Rows.G.tupKindC hp sh).kle (keyTI r) (keyTI q)) : leTI (r.2.1.cps.toList, r.2.2) (q.2.1.cps.toList, q.2.2) := by
  have h' : (decide (q.2.1.cps.toList < r.2.1.cps.toList) || (!decide (r.2.1.cps.toList < q.2.1.cps.toList) && (decide (q.2.2 < r.2.2) || (!decide (r.2.2 < q.2.2) && false)))) = false := h
  simp only [Bool.or_eq_false_iff, Bool.and_eq_false_iff, decide_eq_false_iff_not, Bool.not_eq_false', decide_eq_true_eq, Bool.and_false, Bool.or_false] at h'
  obtain ⟨h1, h2⟩ := h'
  by_cases h3 : r.2.1.cps.toList < q.2.1.cps.toList
  · exact .inl h3
  · refine .inr ⟨List.le_antisymm (List.not_lt.mp h1) (List.not_lt.mp h3), ?_⟩
    rcases h2 with h2 | h2
    · exact absurd h2 h3
    · show r.2.2 ≤ q.2.2
      simp at h2
      omega
theorem cr_sortedTI {X : Cx} : CallR X (.builtin "sorted") (rSortedTI X.K) := by
  intro pins s σ H vs us Q I r h
  obtain ⟨a, rs, rfl, hs, ht, q⟩ := h
  obtain ⟨its, rv, hl, hz⟩ := I.list hs
  obtain ⟨u, rfl, ru⟩ := vals1 r
  obtain rfl : u = Value.ref a := ru
  have eits := vals_refs rv
  subst eits
  -- each item, in the heap
  have at_ : ∀ r ∈ rs, ∃ o t1 t2 n, s.heap.get? r.1 = some o ∧ o.cls = .type "tuple" ∧ o.data = .seq #[.str r.2.1 t1, .int r.2.2 t2] n := fun r hr => by
    obtain ⟨its2, r2, ⟨o, ho, hc, n, hd⟩, _⟩ := I.tuple (ht r hr)
    obtain ⟨u1, u2, rfl, ⟨t1, rfl⟩, ⟨t2, rfl⟩⟩ := vals2 r2
    exact ⟨o, t1, t2, n, ho, hc, hd⟩
  have key : ∀ r ∈ rs, PyProof.Rows.G.tupKeyC s.heap (fun i => i == 0) (.ref r.1) = some (keyTI r) := fun r hr => by
    obtain ⟨o, t1, t2, n, ho, hc, hd⟩ := at_ r hr
    simp [PyProof.Rows.G.tupKeyC, PyProof.Rows.G.isTupObj, PyProof.Rows.tupKey, ho, hc, hd, PyProof.Rows.tupItems, keyTI]
  have tups : ∀ l : List RTI, (∀ r ∈ l, r ∈ rs) → ∃ fs, PyProof.Rows.TupsOf s.heap (fun i => i == 0) (l.map fun r => Value.ref r.1) fs := fun l => by
    induction l with
    | nil => exact fun _ => ⟨[], .nil⟩
    | cons r l ih =>
      intro hm
      obtain ⟨fs, hf⟩ := ih fun x hx => hm x (List.mem_cons_of_mem _ hx)
      obtain ⟨o, t1, t2, n, ho, hc, hd⟩ := at_ r (hm r List.mem_cons_self)
      exact ⟨.str r.2.1 t1 :: fs, .cons ⟨r.1, o, _, n, rfl, ho, hc, hd, rfl, fun z => by simp at z, fun _ => ⟨_, _, rfl⟩⟩ hf⟩
  obtain ⟨fs, hf⟩ := tups rs fun _ h => h
  have hlen : (rs.map fun r => Value.ref r.1).length ≤ sizeLine := by
    rw [List.length_map] at hz ⊢
    exact hz
  refine PyProof.Rows.G.sorted_tups hl.isList hf (fun v hv => ?_) hlen fun st' hp hsd _ => ?_
  · obtain ⟨r, hr, rfl⟩ := List.mem_map.mp hv
    exact ⟨_, key r hr⟩
  · obtain ⟨ep, he'⟩ := PyProof.Rows.sortedAll_at s.heap (rs.map fun r => Value.ref r.1) ((PyProof.Rows.arrOf st').map (·.2))
    have hp' : (PyProof.Rows.arrOf st').toList.Perm (rs.map fun r => (Value.ref r.1, Value.ref r.1)) := by
      have e : (PyProof.Rows.pairsOf (rs.map fun r => Value.ref r.1)).toList = rs.map fun r => (Value.ref r.1, Value.ref r.1) := by
        rw [PyProof.Rows.pairsOf_toList]
        exact zip_refs rs
      rw [← e]
      exact Array.perm_iff_toList_perm.mp hp
    obtain ⟨rs', p2, e2⟩ := perm_map_inv (f := fun r : RTI => (Value.ref r.1, Value.ref r.1)) hp' rs rfl
    have eo : ((PyProof.Rows.arrOf st').map (·.2)).toList = rs'.map fun r => Value.ref r.1 := by
      rw [Array.toList_map, e2, List.map_map]
      rfl
    have hin : ∀ r ∈ rs', r ∈ rs := fun r hr => p2.mem_iff.mp hr
    have kk : ∀ (i : Nat) r, rs'[i]? = some r → PyProof.Rows.KK (PyProof.Rows.G.tupKindC s.heap (fun i => i == 0)) (PyProof.Rows.arrOf st') i = keyTI r := fun i r e => by
      have h1 : (PyProof.Rows.arrOf st')[i]? = some (Value.ref r.1, Value.ref r.1) := by
        rw [← Array.getElem?_toList, e2, List.getElem?_map, e]
        rfl
      unfold PyProof.Rows.KK
      rw [h1]
      show (PyProof.Rows.G.tupKeyC s.heap (fun i => i == 0) (.ref r.1)).getD _ = _
      rw [key r (hin r (List.mem_of_getElem? e))]
      rfl
    have srt : rs'.Pairwise (fun r q => leTI (r.2.1.cps.toList, r.2.2) (q.2.1.cps.toList, q.2.2)) := by
      rw [List.pairwise_iff_getElem]
      intro i j hi hj hij
      have hjs : j < (PyProof.Rows.pairsOf (rs.map fun r => Value.ref r.1)).size := by
        rw [PyProof.Rows.pairsOf_size, List.length_map, ← p2.length_eq]
        exact hj
      have := hsd i j (Nat.le_of_lt hij) hjs
      rw [kk i _ (List.getElem?_eq_getElem hi), kk j _ (List.getElem?_eq_getElem hj)] at this
      exact kle_TI this
    refine ⟨.ref (s.heap.objs.size + 1), upd H (s.heap.objs.size + 1) (.lst (rs'.map fun r => V.ref r.1)), I.laid (t' := s.toks) (fun _ _ => PyProof.Rows.sortedAll_old) (Nat.le_succ _) ⟨?_, rs'.map fun r => Value.ref r.1, ep, refs_vals rs', ?_⟩, rfl,
      q rs' _ p2 srt (I.hok.fresh (Nat.le_succ _))⟩
    · rw [List.length_map, p2.length_eq, ← List.length_map (f := fun r : RTI => V.ref r.1)]
      exact hz
    · rw [he', ← eo]
section
variable {M : Ghost} {C : Ct M} {W W1 W2 W' : Wd M} {σ : L2.St} {ρ : DEnv} {e : Expr} {es : List Expr} {we : EW M} {pos : Pos}
def pairTI (p : List Nat × Int) : D := .tup [.str p.1, .int p.2]
/-- sorted of pairs (text, number) -/
def cSortedTI (ds : List D) (q : List D → Prop) : Prop := ∃ xs : List (List Nat × Int), ds = [.lst (xs.map pairTI)] ∧ ∀ ys : List (List Nat × Int), ys.Perm xs → ys.Pairwise leTI → q (ys.map pairTI)
theorem rpa_TI {K : PySem.W.Frag} {F : Hp} {R : List Addr} : ∀ {vs : List V} {xs : List (List Nat × Int)}, RpA K F R vs (xs.map pairTI) → ∃ rs : List RTI, vs = rs.map (fun r => V.ref r.1) ∧ xs = rs.map (fun r => (r.2.1.cps.toList, r.2.2)) ∧ ∀ r ∈ rs, SqT K F r.1 [.str r.2.1, .int r.2.2]
  | _, [], .nil => ⟨[], rfl, rfl, fun _ h => by cases h⟩
  | _, (x, i) :: xs, h => by
    have h' : RpA K F R _ (D.tup [.str x, .int i] :: xs.map pairTI) := h
    cases h' with
    | cons a t =>
      cases a with
      | tup hs b =>
        cases b with
        | cons b1 b2 =>
          cases b1 with
          | str z _ hz =>
            cases b2 with
            | cons b3 b4 =>
              cases b3
              cases b4
              obtain ⟨rs, e1, e2, h2⟩ := rpa_TI t
              refine ⟨(_, z, i) :: rs, by rw [e1]; rfl, by rw [e2, List.map_cons, hz], fun r hr => ?_⟩
              rcases List.mem_cons.mp hr with rfl | hr
              · exact hs
              · exact h2 r hr
theorem TI_rpa {K : PySem.W.Frag} {F : Hp} {R : List Addr} : ∀ {rs : List RTI}, (∀ r ∈ rs, SqT K F r.1 [.str r.2.1, .int r.2.2]) → RpA K F R (rs.map fun r => V.ref r.1) ((rs.map (fun r => (r.2.1.cps.toList, r.2.2))).map pairTI)
  | [], _ => .nil
  | r :: rs, h => .cons (.tup (h r List.mem_cons_self) (.cons (rp_str _) (.cons (.int _) .nil))) (TI_rpa fun x hx => h x (List.mem_cons_of_mem _ hx))
theorem calln_sortedTI : CallN C (.builtin "sorted") cSortedTI := by
  refine ⟨_, cr_sortedTI, fun W vs ds Q q k r hQ h => ?_⟩
  obtain ⟨xs, rfl, h⟩ := h
  obtain ⟨v, rfl, r0⟩ := pair1 r
  obtain ⟨p, vs, rfl, hp, np, ra⟩ := r0.lst_inv k
  obtain ⟨rs, rfl, rfl, hs⟩ := rpa_TI ra
  refine ⟨p, rs, rfl, .of hp, fun r hr => same_tup k.sub (hs r hr), fun rs' t p2 srt ht => ?_⟩
  refine hQ t _ _ (W.new t (.lst _)) (Go.new k ht) (k.new ht) rfl upd_same (k.noF ht) (k.noR ht) ht (TI_rpa fun r hr => hs r (p2.mem_iff.mp hr)) (h (rs'.map fun r => (r.2.1.cps.toList, r.2.2)) (p2.map _) ?_)
  rw [List.pairwise_map]
  exact srt

def rep (d : D) : List Nat := (py d).shown.cps.toList
def repOk (d : D) : Prop := (py d).showable = true ∧ pln d = true ∧ (py d).depth ≤ 60 ∧ (py d).shown.length ≤ sizeLine
theorem Inv.notSm {X : Cx} {pins : List (Addr × Obj)} {H : Hp} {s : Shared} (I : Inv X pins σ H s) (sb : SmB X.base) {a : Addr} {o : HO} (e : H a = some o) : a ≠ sysModules := fun z => by
  obtain ⟨u, hu⟩ := sb
  rw [z, (I.bs _ _ hu).2] at e
  cases e
theorem not_in_cons {a b : Addr} {as : List Addr} (h : a ≠ b) (r : b ∉ as) : b ∉ a :: as := fun z => (List.mem_cons.mp z).elim (fun e => h e.symm) r
theorem not_in_app {b : Addr} {as bs : List Addr} (h : b ∉ as) (r : b ∉ bs) : b ∉ as ++ bs := fun z => (List.mem_append.mp z).elim h r
mutual
theorem rp_reads {X : Cx} {pins : List (Addr × Obj)} {H : Hp} {s : Shared} {F : Hp} {R : List Addr} (I : Inv X pins σ H s) (sb : SmB X.base) (sm : Same F H) : ∀ {v : V} {d : D}, Rp X.K F R v d → pln d = true → ∀ u, RelV v u → ∃ as, Reads s.heap u (py d) as ∧ sysModules ∉ as
  | _, _, .non, _, _, r => by cases r; exact ⟨_, Reads.none, by simp⟩
  | _, _, .bl b, _, _, r => by cases r; exact ⟨_, Reads.bool b, by simp⟩
  | _, _, .int i, _, _, r => by obtain ⟨t, rfl⟩ := r; exact ⟨_, Reads.int i t, by simp⟩
  | _, _, .str z x h, _, _, r => by
    subst h
    obtain ⟨t, rfl⟩ := r
    rw [show py (.str z.cps.toList) = .str (S z.cps.toList) from rfl, S_of]
    exact ⟨_, Reads.str z t, by simp⟩
  | _, .lst ds, .lst h q, hp, _, r => by
    cases r
    obtain ⟨its, rv, ⟨o, n, ho, hc, _, hdat⟩, _⟩ := I.list (.of (sm _ _ h))
    obtain ⟨as, hr, hn⟩ := rpA_reads I sb sm q (by simpa [pln] using hp) its rv
    exact ⟨_, Reads.list ho hc hdat hr, not_in_cons (Inv.notSm I sb (sm _ _ h)) hn⟩
  | _, .tup ds, .tup h q, hp, _, r => by
    cases r
    obtain ⟨its, rv, ⟨o, ho, hc, n, hdat⟩, _⟩ := I.tuple (same_tup sm h)
    obtain ⟨as, hr, hn⟩ := rpA_reads I sb sm q (by simpa [pln] using hp) its rv
    exact ⟨_, Reads.tuple ho hc hdat hr, hn⟩
  | _, .dic ds, .dic (a := a) (kvs := kvs) h q, hp, _, r => by
    cases r
    obtain ⟨_, hsm, vs, kv, o, es, ep, ho, ⟨hc, _⟩, hdat, _, pr, _⟩ := (show ObjOk X.prog X.w H s.heap a (.dK kvs) from I.hok a _ (sm _ _ h))
    obtain ⟨as, bs, h1, h2, h3, h4⟩ := rpK_reads I sb sm q (by simpa [pln] using hp) es.toList vs kv pr
    refine ⟨_, Reads.dict ho hc hdat h1 h2, ?_⟩
    exact not_in_cons (by simpa using hsm) (not_in_app h3 h4)
  | _, .ob k, .ob h, hp, _, _ => by simp [pln] at hp
  | _, .exn _ _ _, .exn0 _ _ _ _, hp, _, _ => by simp [pln] at hp
  | _, .exn _ _ _, .exn _ _ _ _ _ _ _, hp, _, _ => by simp [pln] at hp
  | _, .tx _, .tx _ _ _ _, hp, _, _ => by simp [pln] at hp
theorem rpA_reads {X : Cx} {pins : List (Addr × Obj)} {H : Hp} {s : Shared} {F : Hp} {R : List Addr} (I : Inv X pins σ H s) (sb : SmB X.base) (sm : Same F H) : ∀ {vs : List V} {ds : List D}, RpA X.K F R vs ds → plnA ds = true → ∀ us, Vals vs us → ∃ as, ReadsAll s.heap us (pyA ds) as ∧ sysModules ∉ as
  | _, _, .nil, _, _, r => by cases r; exact ⟨_, ReadsAll.nil, by simp⟩
  | _, d :: ds, .cons h t, hp, _, r => by
    have h2 : pln d = true ∧ plnA ds = true := by simpa [plnA] using hp
    cases r with
    | cons r1 r2 =>
      obtain ⟨as, q1, n1⟩ := rp_reads I sb sm h h2.1 _ r1
      obtain ⟨bs, q2, n2⟩ := rpA_reads I sb sm t h2.2 _ r2
      exact ⟨_, ReadsAll.cons q1 q2, not_in_app n1 n2⟩
theorem rpK_reads {X : Cx} {pins : List (Addr × Obj)} {H : Hp} {s : Shared} {F : Hp} {R : List Addr} (I : Inv X pins σ H s) (sb : SmB X.base) (sm : Same F H) : ∀ {kvs : List (Key × V)} {kds : List (Key × D)}, RpK X.K F R kvs kds → plnK kds = true → ∀ (es : List DictEntry) (vs : List (Key × Value)), KV kvs vs → Pairs (mixKind X.prog X.w) es vs →
    ∃ as bs, ReadsAll s.heap (es.map (·.key)) ((pyK kds).map (·.1)) as ∧ ReadsAll s.heap (es.map (·.val)) ((pyK kds).map (·.2)) bs ∧ sysModules ∉ as ∧ sysModules ∉ bs
  | _, _, .nil, _, _, _, kv, pr => by
    cases kv
    cases pr
    exact ⟨_, _, ReadsAll.nil, ReadsAll.nil, by simp, by simp⟩
  | _, (k, d) :: kds, .cons h t, hp, _, _, kv, pr => by
    have h2 : pln d = true ∧ plnK kds = true := by simpa [plnK] using hp
    cases kv with
    | cons kv1 kv2 =>
      cases pr with
      | cons p1 p2 p3 =>
        rename_i kw kws e es
        obtain ⟨k', u⟩ := kw
        obtain ⟨ek, rv⟩ := kv1
        have ek' : k = k' := ek
        subst ek'
        obtain ⟨as, q1, n1⟩ := rp_reads I sb sm h h2.1 _ rv
        obtain ⟨cs, bs, q2, q3, n2, n3⟩ := rpK_reads I sb sm t h2.2 _ _ kv2 p3
        have p2' : e.val = u := p2
        rcases keyIs_shape (show keyIs k e.key = true from p1) with ⟨i, tk, rfl, ke⟩ | ⟨x, tk, rfl, ke⟩
        · refine ⟨[] ++ cs, as ++ bs, ?_, ?_, not_in_app (by simp) n2, not_in_app n1 n3⟩
          · rw [List.map_cons, ke]; exact ReadsAll.cons (Reads.int i tk) q2
          · rw [List.map_cons, p2']; exact ReadsAll.cons q1 q3
        · refine ⟨[] ++ cs, as ++ bs, ?_, ?_, not_in_app (by simp) n2, not_in_app n1 n3⟩
          · rw [List.map_cons, ke]; exact ReadsAll.cons (Reads.str x tk) q2
          · rw [List.map_cons, p2']; exact ReadsAll.cons q1 q3
end
def rRepr (X : Cx) : List V → Hp → VK → Prop := fun vs H Q => ∃ (v : V) (d : D) (F : Hp) (R : List Addr), vs = [v] ∧ Same F H ∧ Rp X.K F R v d ∧ repOk d ∧ Q (.str (py d).shown) H
theorem cr_repr {X : Cx} (sb : SmB X.base) (hg : X.A.guards = some []) (hu : X.A.units + 64 < cLine) : CallR X (.builtin "repr") (rRepr X) := by
  intro pins s σ H vs us Q I r h
  obtain ⟨v, d, F, R, rfl, sm, rp, ⟨h1, h3, h4, h5⟩, q⟩ := h
  obtain ⟨u, rfl, ru⟩ := vals1 r
  obtain ⟨as, hr, hn⟩ := rp_reads I sb sm rp h3 u ru
  have go : ∀ a, u = .ref a → wpAny (model X.prog X.w) X.A (call (.builtin "repr") [u]) (EP X pins σ Q) X.xe s := fun a e => by
    subst e
    refine repr_of_reads' hr h1 (fun _ => hn) hg (by omega) (fun _ _ h => h) (fun h' u tk hk => ⟨.str _, H, I.kept hk, ⟨_, rfl⟩, q⟩) h5
  cases rp with
  | non => cases ru; exact PySem.P.repr_of_none ⟨.str _, H, I.tok _, ⟨_, rfl⟩, q⟩
  | bl b => cases ru; exact PySem.P.repr_of_bool ⟨.str _, H, I.tok _, ⟨_, rfl⟩, q⟩
  | int i =>
    obtain ⟨t, rfl⟩ := ru
    exact PySem.P.repr_of_int (of_decide_eq_true h1) ⟨.str _, H, I.tok _, ⟨_, rfl⟩, q⟩
  | str z x hz =>
    obtain ⟨t, rfl⟩ := ru
    subst hz
    have ez : (py (.str z.cps.toList)).shown = reprText z := by show reprText (S z.cps.toList) = _; rw [S_of]
    rw [ez] at q h5
    exact PySem.P.repr_of_str ⟨.str _, H, I.tok _, ⟨_, rfl⟩, q⟩ h5
  | lst h q => cases ru; exact go _ rfl
  | tup h q => cases ru; exact go _ rfl
  | dic h q => cases ru; exact go _ rfl
  | ob h => cases ru; exact go _ rfl
  | exn0 => cases ru; exact go _ rfl
  | exn => cases ru; exact go _ rfl
  | tx => cases ru; exact go _ rfl
def cRepr (ds : List D) (q : D → Prop) : Prop := ∃ d, ds = [d] ∧ repOk d ∧ q (.str (rep d))
theorem calld_repr (sb : SmB C.X.base) (hg : C.X.A.guards = some []) (hu : C.X.A.units + 64 < cLine) : CallD C (.builtin "repr") cRepr := by
  refine ⟨_, cr_repr sb hg hu, fun W vs ds Q q k r hQ h => ?_⟩
  obtain ⟨d, rfl, ho, h⟩ := h
  obtain ⟨v, rfl, r0⟩ := pair1 r
  rcases r0 with r0 | ⟨p, vs, ds, rfl, rfl, hp, np, ra⟩
  · exact ⟨v, d, W.F, W.R, rfl, k.sub, r0, ho, hQ _ _ W (Go.refl W) k rfl (rp_strS _ rfl) h⟩
  · refine ⟨.ref p, .lst ds, upd W.F p (.lst vs), W.R, rfl, fun a o e => ?_, .lst upd_same (ra.mono ?_ fun _ _ z => z), ho, hQ _ _ W (Go.refl W) k rfl (rp_strS _ rfl) h⟩
    · by_cases z : a = p
      · subst z; rw [upd_same] at e; cases e; exact hp
      · rw [upd_ne z] at e; exact k.sub _ _ e
    · intro a o e
      by_cases z : a = p
      · subst z
        have := k.sub _ _ e
        rw [hp] at this
        cases this
        exact upd_same
      · rw [upd_ne z]; exact e
end
end DL
set_option Elab.async false
set_option linter.all false
set_option maxRecDepth 100000
set_option maxHeartbeats 1000000
namespace DL
open PySem L2
/-- the stream: its list at R[0], the large cells' list at R[1], all cells frozen; at most n numbers were mixed -/
def StrOk (K : PySem.W.Frag) (n : Nat) (R : List Addr) (F H : Hp) : Prop := ∃ (a b c : Addr) (L cs : List Int) (m : Int), R[0]? = some a ∧ R[1]? = some b ∧ a ≠ b ∧ H a = some (.lst [.ref b, .ref c, .int m]) ∧ H b = some (.lst (L.map V.int)) ∧
  F c = some (.lst (cs.map V.int)) ∧ 0 ≤ m ∧ m ≤ n ∧ cs ≠ []
@[reducible] def stg : Ghost where
  G := Nat
  ok := fun K n R F H => R.length = 2 ∧ (n ≤ 2 ^ 60 → StrOk K n R F H)
  keep := fun {K g R F H F' H'} h s k => ⟨h.1, fun hn => by
    obtain ⟨a, b, c, L, cs, m, h1, h2, h3, h4, h5, h6, h7⟩ := h.2 hn
    exact ⟨a, b, c, L, cs, m, h1, h2, h3, by rw [k a (List.mem_of_getElem? h1)]; exact h4, by rw [k b (List.mem_of_getElem? h2)]; exact h5, s _ _ h6, h7⟩⟩
/-- a thing of the region, written -/
abbrev Wd.reg {M : Ghost} (W : Wd M) (p : Addr) (o : HO) (g : M.G) : Wd M := { W with H := upd W.H p o, g := g }
section
variable {M : Ghost} {K : PySem.W.Frag} {W : Wd M} {p : Addr} {o : HO} {g : M.G}
theorem Go.reg' (h : p ∈ W.R) : Go W (W.reg p o g) := by
  refine ⟨Same.refl _, fun a x e n => ?_, fun a e => ?_, fun _ z => .inl z, [], by simp, by simp⟩
  · show upd W.H p o a = some x
    rw [upd_ne (show a ≠ p from fun z => n (z ▸ h))]
    exact e
  · show upd W.H p o a ≠ none
    by_cases z : a = p
    · subst z; rw [upd_same]; simp
    · rw [upd_ne z]; exact e
theorem Wok.reg (k : Wok K W) (h : p ∈ W.R) (gh : M.ok K g W.R W.F (upd W.H p o)) : Wok K (W.reg p o g) := by
  refine ⟨fun a x e => ?_, gh, k.rf, fun a ha => ?_⟩
  · show upd W.H p o a = some x
    rw [upd_ne (show a ≠ p from fun z => by subst z; rw [k.rf _ h] at e; cases e)]
    exact k.sub _ _ e
  · show upd W.H p o a ≠ none
    by_cases z : a = p
    · subst z; rw [upd_same]; simp
    · rw [upd_ne z]; exact k.rh a ha
end
/-- a draw below many -/
def dDraw : DSp stg := fun ds g q _ => ∃ many : Int, ds = [.ob 0, .int many] ∧ 0 < many ∧ many < 1152921504606846976 ∧ g + 1 ≤ 2 ^ 60 ∧ ∀ v : Int, 0 ≤ v → v < many → q (.int v) (g + 1)
theorem map_int_get {L : List Int} {i : Nat} {x : V} (h : (L.map V.int)[i]? = some x) : ∃ j, x = .int j ∧ L[i]? = some j := by
  rw [List.getElem?_map] at h
  cases q : L[i]? with
  | none => rw [q] at h; cases h
  | some j => rw [q] at h; cases h; exact ⟨j, rfl, rfl⟩
/-- the stream is made -/
def spStream (K : PySem.W.Frag) : Sp := fun vs H Q _ => ∃ (a : Addr) (ns : List Int), vs = [.ref a] ∧ SqL K H a (ns.map V.int) ∧ ns.length ≤ 63 ∧
  ∀ (H' : Hp) (p b c : Addr) (L cs : List Int), Same H H' → H p = none → H b = none → H c = none → p ≠ b → p ≠ c → b ≠ c → H' p = some (.lst [.ref b, .ref c, .int 0]) → H' b = some (.lst (L.map V.int)) → H' c = some (.lst (cs.map V.int)) → cs ≠ [] → Q (.ref p) H'
/-- what the rest of a draw needs of the state -/
structure DrawAt (K : PySem.W.Frag) (W W1 : Wd stg) (a b c : Addr) (L cs : List Int) (m : Int) : Prop where
  go : Go W W1
  ok : Wok K W1
  g : W1.g = W.g
  r0 : W1.R[0]? = some a
  r1 : W1.R[1]? = some b
  ne : a ≠ b
  ha : W1.H a = some (.lst [.ref b, .ref c, .int m])
  hb : W1.H b = some (.lst (L.map V.int))
  hc : W1.F c = some (.lst (cs.map V.int))
  m0 : 0 ≤ m
  mn : m ≤ W.g
  cs0 : cs ≠ []
section
variable {K : PySem.W.Frag} {W W1 W2 : Wd stg} {a b c : Addr} {L cs : List Int} {m : Int}
theorem DrawAt.new (d : DrawAt K W W1 a b c L cs m) {p : Addr} {o : HO} (h : W1.H p = none) : DrawAt K W (W1.new p o) a b c L cs m := by
  have na : a ≠ p := ne_of_none d.ha h
  have nb : b ≠ p := ne_of_none d.hb h
  exact ⟨d.go.trans (Go.new d.ok h), d.ok.new h, d.g, d.r0, d.r1, d.ne, (upd_ne na).trans d.ha, (upd_ne nb).trans d.hb, d.hc, d.m0, d.mn, d.cs0⟩
theorem DrawAt.setB (d : DrawAt K W W1 a b c L cs m) (L' : List Int) : DrawAt K W (W1.reg b (.lst (L'.map V.int)) W1.g) a b c L' cs m := by
  have hb := List.mem_of_getElem? d.r1
  have ok' : Wok K (W1.reg b (.lst (L'.map V.int)) W1.g) := d.ok.reg hb ⟨d.ok.gh.1, fun hn => ⟨a, b, c, L', cs, m, d.r0, d.r1, d.ne, (upd_ne d.ne).trans d.ha, upd_same, d.hc, d.m0, by rw [show ((W1.g : Nat) : Int) = ((W.g : Nat) : Int) from congrArg Int.ofNat d.g]; exact d.mn, d.cs0⟩⟩
  exact ⟨d.go.trans (Go.reg' hb), ok', d.g, d.r0, d.r1, d.ne, (upd_ne d.ne).trans d.ha, upd_same, d.hc, d.m0, d.mn, d.cs0⟩
end

theorem wok_more {K : PySem.W.Frag} {W : Wd stg} (k : Wok K W) {n : Nat} (h : W.g ≤ n) : Wok K ({ W with g := n } : Wd stg) := by
  refine ⟨k.sub, ⟨k.gh.1, fun hn => ?_⟩, k.rf, k.rh⟩
  obtain ⟨a, b, c, L, cs, m, h1, h2, h3, h4, h5, h6, h7, h8, h9⟩ := k.gh.2 (Nat.le_trans h hn)
  refine ⟨a, b, c, L, cs, m, h1, h2, h3, h4, h5, h6, h7, ?_, h9⟩
  exact Int.le_trans h8 (Int.ofNat_le.mpr h)
theorem go_more {W : Wd stg} {n : Nat} : Go W ({ W with g := n } : Wd stg) := ⟨Same.refl _, fun _ _ h _ => h, fun _ h => h, fun _ h => .inl h, [], by simp, by simp⟩

section
variable {M : Ghost} {C : Ct M} {W W1 W2 W' : Wd M} {σ : L2.St} {ρ : DEnv} {e e2 : Expr} {we wi : EW M} {pos apos cpos p1 : Pos}
@[simp] def wApp (i : Nat) (we : EW M) : SW M := fun k ρ g => ∃ ds, ρ[i]? = some (.own ds) ∧ we ρ g fun d g' => ds.length < sizeLine ∧ k.nx (ρ.set i (.own (ds ++ [d]))) g'
/-- x.append(e), x a list of one's own -/
theorem ds_append {i : Nat} {x : Str} (hv : PE C.X (.Name x p1) (tVar i)) (he : DE C e we) (hline : (apos.endLine == cpos.line) = true := by rfl)
    (hs : swapsWith (.Call (.Attribute (.Name x p1) "append" apos) [e] [] cpos) none pos.line C.X.env = pure false := by rfl)
    (hst : starEach [e] C.X.env = (false, eval e C.X.env) :: starEach [] C.X.env := by rfl) (hbase : attributeBase (.Name x p1) "append" C.X.env (eval (.Name x p1) C.X.env) = eval (.Name x p1) C.X.env := by rfl)
    (hpl : (backTo cpos (starEach [] C.X.env)).any (·.1) = false := by rfl)
    (hfew : ((backTo cpos (starEach [e] C.X.env)).all (fun x => !x.1) && (backToKw cpos (keywordEach [] C.X.env)).all (fun x => x.1.isSome) && decide ([e].length + ([] : List Keyword).length + (if ([] : List Keyword).isEmpty then 0 else 1) < 30)) = true := by rfl) :
    DS C (.Expr (.Call (.Attribute (.Name x p1) "append" apos) [e] [] cpos) pos) (wApp i we) := ⟨fun σ ρ W k E S l h => by
  obtain ⟨ds, e0, h⟩ := h
  obtain ⟨o, h1, p, vs, h2, h3, h4, h5, h6, r⟩ := S.sl i _ e0
  subst h2
  refine tsOf_of (ps_expr (pe_bm PySem.F.plainAttrs_list PySem.F.slot_list_append PySem.F.type_list_append mt_append hv (pa_cons pe_tOf pa_nil hst) hbase hfew hline hst hpl) hs) ⟨.ref p, h1, .inl ⟨rfl, vs, .of h3⟩, ?_⟩
  refine he.run σ ρ W _ _ S (fun v d W1 g1 k1 r1 q1 => ?_) h
  have S1 := S.step g1 k1
  obtain ⟨o2, a1, p2, vs2, a2, a3, a4, a5, a6, r2⟩ := S1.sl i _ e0
  subst a2
  rw [h1] at a1
  cases a1
  have ev : vs2 = vs := by
    have := g1.keep _ _ h3 h5
    rw [a3] at this
    cases this
    rfl
  subst ev
  obtain ⟨S2, g2⟩ := S1.write e0 h1 (r2.append (.cons r1 .nil))
  exact ⟨p, vs2, v, rfl, rfl, a3, by rw [r2.length]; exact q1.1, l.nx _ _ _ (g1.s.trans g2) S2 q1.2⟩⟩
@[simp] def wStore (i : Nat) (we wi : EW M) : SW M := fun k ρ g => ∃ ds, ρ[i]? = some (.own ds) ∧ we ρ g fun d g1 => wi ρ g1 fun x g2 => asI x fun j => ∃ m, ixN ds.length j = some m ∧ k.nx (ρ.set i (.own (ds.set m d))) g2
/-- x[e2] = e, x a list of one's own -/
theorem ds_store {i : Nat} {x : Str} {spos : Pos} (hv : PE C.X (.Name x p1) (tVar i)) (he : DE C e we) (hi : DE C e2 wi)
    (ha : ∀ v, assign (.Subscript (.Name x p1) e2 spos) C.X.env v = (do
      let ov ← holding [v] (eval (.Name x p1) C.X.env)
      let iv ← holding [v, ov] (eval e2 C.X.env)
      standAt spos
      holding [v, ov, iv] (setItem ov iv v)
      release [v, ov, iv] []) := by intro _; rfl)
    (hs : swapsWithSole [.Subscript (.Name x p1) e2 spos] e pos.line C.X.env = pure false := by rfl) (hw : swappedStores [.Subscript (.Name x p1) e2 spos] e C.X.env = pure none := by rfl)
    (h1 : (assignEach [.Subscript (.Name x p1) e2 spos] C.X.env).map (·.2) = [assign (.Subscript (.Name x p1) e2 spos) C.X.env] := by rfl) :
    DS C (.Assign [.Subscript (.Name x p1) e2 spos] e pos) (wStore i we wi) := ⟨fun σ ρ W k E S l h => by
  obtain ⟨ds, e0, h⟩ := h
  obtain ⟨o, h1', p, vs, h2, h3, h4, h5, h6, r⟩ := S.sl i _ e0
  subst h2
  refine tsOf_of (ps_asg pe_tOf (pg_sub hv pe_tOf set_list ha) hs hw h1) ?_
  refine he.run σ ρ W _ _ S (fun v d W1 g1 k1 r1 q1 => ⟨.ref p, h1', ?_⟩) h
  refine hi.run σ ρ W1 _ _ (S.step g1 k1) (fun u x W2 g2 k2 r2 q2 => ?_) q1
  cases x with
  | int j =>
    obtain ⟨m, hm, q2⟩ := q2
    have S2 := S.step (g1.trans g2) k2
    obtain ⟨o2, a1, p2, vs2, a2, a3, a4, a5, a6, r3⟩ := S2.sl i _ e0
    subst a2
    rw [h1'] at a1
    cases a1
    obtain ⟨S3, g3⟩ := S2.write e0 h1' (r3.set (r1.step g2) m)
    exact ⟨p, vs2, j, m, rfl, by cases r2; rfl, a3, by rw [r3.length]; exact hm, l.nx _ _ _ ((g1.trans g2).s.trans g3) S3 q2⟩
  | _ => exact q2.elim⟩
end
end DL
set_option Elab.async false
set_option linter.all false
set_option maxRecDepth 100000
set_option maxHeartbeats 1000000
namespace DL
open PySem PySem.Spec PyProof.Rows L2
/-- the tracked heap of a law's entry: the script alone, or nothing where the script is the module's own -/
def hp0 (K : PySem.W.Frag) (a : Addr) (ob : Obj) (ns : List Int) : Hp := fun b => if b = a ∧ K.lookup a = none then some (.frz ob (.lst (ns.map V.int))) else none
theorem hp0_some {K : PySem.W.Frag} {a b : Addr} {ob : Obj} {ns : List Int} {u : HO} (h : hp0 K a ob ns b = some u) : b = a ∧ K.lookup a = none ∧ u = .frz ob (.lst (ns.map V.int)) := by
  unfold hp0 at h
  split at h
  · rename_i q
    exact ⟨q.1, q.2, (Option.some.inj h).symm⟩
  · cases h
theorem law_callG {P : Program} {w : World} {K : PySem.W.Frag} {mg mb : Str → Option Value} {k : Nat} {fa a : Addr} {fd : FuncData} {x : Str} {sp : Sp} {s1 : Shared} {vs : List Value} {ns : List Int}
    (kin : K.In s1.heap) (nsG : s1.heap.Ns mainGlobals mg) (nsB : s1.heap.Ns builtinsNs mb) (boot : ∀ x : Str, x ≠ "__name__" → mb x = bootBuiltins x) (lim : s1.heap.NoLimit) (gens : s1.gens = #[])
    (ha : s1.heap.get? a = some { cls := .type "list", data := .seq vs.toArray }) (hi : IntsAre vs ns) (hl : ns.length ≤ sizeLine) (room : Room k callerA) (mods : ∃ mm, s1.heap.Ns sysModules mm)
    (F : ∀ base : Heap, K.In base → base.Ns mainGlobals mg → SmB base → FnG P w K mg base k fa fd [x] sp) (hbind : ∀ (s : Shared) (u : Value), BindsTo s fd ⟨[u], []⟩ [(x, u)])
    (want : ∀ H : Hp, SqL K H a (ns.map V.int) → sp [.ref a] H (fun v _ => v = .bl true) fun _ _ _ => False) :
    codeAny (model P w) callerA (.call (.ref fa) ⟨[.ref a], []⟩) (fun r s' => r = .ok (.ret (.bool true)) ∧ OldK s1.heap s'.heap ∧ s'.os = s1.os ∧ AllBare s'.gens) s1 := by
  have rel := vals_ints hi
  generalize hob : ({ cls := .type "list", data := .seq vs.toArray } : Obj) = ob at ha
  -- the script is read in it
  have seq : SqL K (hp0 K a ob ns) a (ns.map V.int) := by
    cases q : K.lookup a with
    | none => exact .inl (.inr ⟨ob, by unfold hp0; rw [if_pos ⟨rfl, q⟩]⟩)
    | some o =>
      have e := kin a o q
      rw [ha] at e
      cases e
      subst hob
      exact .inr ⟨_, vs.toArray, _, q, rfl, rfl, rfl, by rw [List.size_toArray, hi.length]; exact hl, by simpa using rel⟩
  have held : HOk P w (hp0 K a ob ns) s1.heap := fun b u e => by
    obtain ⟨rfl, _, rfl⟩ := hp0_some e
    subst hob
    exact ⟨ha, by rw [List.length_map]; exact hl, vs, _, rel, ha⟩
  -- what is not the script stands in the base
  have keep : ∀ {b : Addr} {o : Obj}, s1.heap.get? b = some o → hp0 K a ob ns b = none → (hidT s1.heap (hp0 K a ob ns)).get? b = some o := fun e n => hidT_get e n
  have dict : ∀ {b : Addr} {m : Str → Option Value}, s1.heap.Ns b m → (hidT s1.heap (hp0 K a ob ns)).Ns b m := fun {b m} ⟨o, es, ep, e, d, r⟩ => by
    refine ⟨o, es, ep, keep e ?_, d, r⟩
    cases q : hp0 K a ob ns b with
    | none => rfl
    | some u =>
      obtain ⟨rfl, _, _⟩ := hp0_some q
      rw [ha] at e
      cases e
      subst hob
      cases d
  have kin' : K.In (hidT s1.heap (hp0 K a ob ns)) := fun b o e => keep (kin b o e) (by
    cases q : hp0 K a ob ns b with
    | none => rfl
    | some u =>
      obtain ⟨rfl, z, _⟩ := hp0_some q
      rw [z] at e
      cases e)
  have modl : Mod K mg (hidT s1.heap (hp0 K a ob ns)) := ⟨kin', dict nsG, ⟨mb, dict nsB, boot⟩, let ⟨mc, q1, q2⟩ := lim; ⟨mc, dict q1, q2⟩⟩
  have entry : Env0 P w K mg (hidT s1.heap (hp0 K a ob ns)) callerA [] s1 (hp0 K a ob ns) :=
    ⟨rfl, modl, fun b o e => of_hidT e, Nat.le_of_eq (hidT_size _ _), trivial, (fun b hb => by cases hb), held, .of_eq gens⟩
  have smb : SmB (hidT s1.heap (hp0 K a ob ns)) := by
    obtain ⟨mm, hm⟩ := mods
    obtain ⟨o, es, ep, e, _⟩ := dict hm
    exact ⟨o, e⟩
  have run := (F _ kin' (dict nsG) smb).run callerA [] s1 (hp0 K a ob ns) ⟨[.ref a], []⟩ [.ref a] [.ref a] _ _ room rfl entry (hbind s1 (.ref a)) (.cons rfl .nil) (want _ seq)
  refine codeAny_mono run fun r s2 h => ?_
  match r, h with
  | .error e, h =>
    obtain ⟨_, _, _, _, _, _, _, _, _, _, _, _, z⟩ := h
    exact z.elim
  | .ok (.ret u), ⟨v, H2, os, bare, un, held2, ru, q⟩ =>
    have q' : v = .bl true := q
    subst q'
    obtain rfl : u = Value.bool true := ru
    refine ⟨rfl, OldK.of_keep fun b o e => ?_, os, bare⟩
    cases z : hp0 K a ob ns b with
    | none => exact un.keep b o e z (by intro y; cases y) (by simp)
    | some u =>
      obtain ⟨_, _, rfl⟩ := hp0_some z
      obtain ⟨e1, _⟩ := held b _ z
      obtain ⟨e2, _⟩ := held2 b _ (un.frzs b ob _ z)
      rw [e] at e1
      cases e1
      exact e2
/-- the goal that k_head leaves, from the law's promise -/
theorem walkG {l : PySem.W.OpenLaw} {n k : Nat} {q : Program} {loose : List Str} {XP : (Str → Option Value) → Heap → Prop} {YP : World → Heap → Prop} {d : DefRec} {K : Params → PySem.W.Frag} {sp : World → Sp} {x : Str}
    (hn : l.most = some n) (hi : importsNone q = true) (hn2 : n ≤ sizeLine) (hdf : d.params.defaults = []) (room : Room k callerA) (hY : ∀ (w : World) (h : Heap), YP w h → (K w.params).In h)
    (F : ∀ (w : World) (mg : Str → Option Value) (fa : Addr) (h : Heap), (K w.params).In h → h.Ns mainGlobals mg → mg d.name = some (.ref fa) →
      ∃ fd : FuncData, (∀ (s : Shared) (u : Value), BindsTo s fd ⟨[u], []⟩ [(x, u)]) ∧ ∀ base : Heap, (K w.params).In base → base.Ns mainGlobals mg → SmB base → FnG l.prog w (K w.params) mg base k fa fd [x] (sp w))
    (want : ∀ (w : World) (H : Hp) (a : Addr) (ns : List Int), ns.length ≤ n → SqL (K w.params) H a (ns.map V.int) → sp w [.ref a] H (fun v _ => v = .bl true) fun _ _ _ => False) :
    PySem.W.WalkO q loose XP YP l.row.toRowW d [] (fun f vs => PySem.call f vs) :=
  Att.attach_call hn hdf fun w s0 s1 mg mb fa o pm cd doc a vs ns G Y ho hd hcd hmg hobj hints hlen hg => by
    obtain ⟨fd, hb, hF⟩ := F w mg fa _ (hY w _ Y) G.T.g hmg
    exact law_callG (hY w _ Y) G.T.g G.T.b G.T.builtins G.T.nolimit hg hobj hints (Nat.le_trans hlen hn2) room (let ⟨mm, h, _⟩ := (G.T.seer hi).mods; ⟨mm, h⟩) hF hb fun H hS => want w H a ns hlen hS
/-- a law whose first statement makes the stream; the rest by data -/
def spLaw (K : PySem.W.Frag) : Sp := fun vs H Q _ => ∃ (a : Addr) (ns : List Int), vs = [.ref a] ∧ SqL K H a (ns.map V.int) ∧ ns.length ≤ 63 ∧ ∀ H', Q (.bl true) H'
@[simp] def kLaw : K3 stg := { nx := fun _ _ => False, rt := fun d _ => d = .bl true, bk := fun _ _ => False, ct := fun _ _ => False }
/-- the slots at the law's first step: the script is not looked at any more -/
@[simp] def rhoLaw (n i : Nat) : DEnv := (List.replicate n Sl.no).set i (.im (.ob 0))
theorem takes_none {M : Ghost} {X : Cx} {W0 B : Wd M} : TakesD (M := M) ⟨X, W0, xno, B⟩ := fun u s' x => by
  obtain ⟨_, _, _, _, _, _, _, _, _, _, _, _, _, _, _, _, z⟩ := x
  obtain ⟨_, _, _, _, _, _, y⟩ := z
  exact y.elim
theorem law_of {P : Program} {w : World} {K : PySem.W.Frag} {mg : Str → Option Value} {base : Heap} {x qual scr : Str} {st st0 : Stmt} {rest : List Stmt} {f : Addr} {fd : FuncData} {N : List Str} {k i : Nat} {wr : SW stg} (F : Fun K x qual st f fd) (Sc : FnScope N [scr] (defScope st)) (hi : 0 < i)
    (hst : defBody st = st0 :: rest)
    (h0 : ∀ (cdv : Value) (A : Around) (outer : List Env) (s : Shared) (H : Hp) (E : XK), Room k (A.deeper (envOfC qual (defScope st) s.heap.objs.size f cdv)) → A.guards = some [] →
      PS (cxOf (L2.CX P w) P w K mg base N qual (defScope st) f cdv A outer s H E) st0 (tAsg (tCallG (spStream K) (fun _ => E0) (tCons (tVar 0) tNil)) (gName i)))
    (hbody : ∀ (cdv : Value) (A : Around) (outer : List Env) (s : Shared) (H : Hp) (E : XK) (W0 : Wd stg), Room k (A.deeper (envOfC qual (defScope st) s.heap.objs.size f cdv)) → A.guards = some [] →
      TakesD (M := stg) ⟨cxOf (L2.CX P w) P w K mg base N qual (defScope st) f cdv A outer s H E, W0, xno, W0⟩ → DSs (M := stg) ⟨cxOf (L2.CX P w) P w K mg base N qual (defScope st) f cdv A outer s H E, W0, xno, W0⟩ rest wr)
    (hpure : wr kLaw (rhoLaw N.length i) 0) : FnG P w K mg base (k + 1) f fd [scr] (spLaw K) := by
  refine fng_of F Sc (fun vs H Q E h => ?_) (fun cdv A outer s H vs Q E hr hgd h => ?_)
  · obtain ⟨a, ns, rfl, _⟩ := h
    rfl
  · obtain ⟨a, ns, rfl, hS, hlen, hQ⟩ := h
    rw [hst]
    refine ⟨_, pss_cons (h0 cdv A outer s H E hr hgd) pss_tOf, ?_⟩
    have hN : 0 < N.length := by
      have := congrArg List.length Sc.pre
      rw [List.length_take] at this
      simp at this
      omega
    refine ⟨.ref a, ?_, a, ns, rfl, hS, hlen, fun H1 p b c L cs sm np nb nc pb pc bc hp hb hc hcs => ?_⟩
    · unfold L2.start
      rw [List.map_cons, List.cons_append]
      rfl
    have none1 : ∀ {q r : Addr} {o : HO}, q ≠ r → upd (fun _ => none) r o q = none := fun h => upd_ne h
    have sub1 : Same (upd (fun _ => none) c (.lst (cs.map V.int))) H1 := fun q o e => by
      by_cases z : q = c
      · subst z; rw [upd_same] at e; cases e; exact hc
      · rw [none1 z] at e; cases e
    generalize hW1 : ({ F := upd (fun _ => none) c (.lst (cs.map V.int)), H := H1, R := [p, b], g := (0 : Nat) } : Wd stg) = W1
    have ok1 : Wok K W1 := by
      subst hW1
      refine ⟨sub1, ⟨rfl, fun _ => ⟨p, b, c, L, cs, 0, rfl, rfl, pb, hp, hb, upd_same (H := fun _ => none) (a := c) (o := .lst (cs.map V.int)), Int.le_refl _, Int.le_refl _, hcs⟩⟩, fun q hq => ?_, fun q hq => ?_⟩
      · rcases List.mem_cons.mp hq with rfl | hq
        · exact none1 pc
        · rw [List.mem_singleton.mp hq]; exact none1 bc
      · rcases List.mem_cons.mp hq with rfl | hq
        · show H1 q ≠ none; rw [hp]; simp
        · rw [List.mem_singleton.mp hq]; show H1 b ≠ none; rw [hb]; simp
    have eH : W1.H = H1 := by subst hW1; rfl
    have eg : W1.g = (0 : Nat) := by subst hW1; rfl
    have eR : W1.R = [p, b] := by subst hW1; rfl
    have sat : Sat (M := stg) ⟨cxOf (L2.CX P w) P w K mg base N qual (defScope st) f cdv A outer s H E, W1, xno, W1⟩ ((L2.start N [.ref a]).set i (some (.ref p))) (rhoLaw N.length i) W1 := by
      refine ⟨ok1, Go.refl _, ?_, fun j t e => ?_, fun j l s1 s2 q e1 _ w1 _ _ _ => ?_, Gs.refl _⟩
      · unfold rhoLaw L2.start
        simp
        omega
      · unfold rhoLaw at e
        have hj : j < N.length := by
          have := (List.getElem?_eq_some_iff.mp e).1
          simpa using this
        have hs : (L2.start N [.ref a]).length = N.length := by
          unfold L2.start
          simp
          omega
        by_cases z : i = j
        · subst z
          rw [List.getElem?_set_self (by simpa using hj)] at e
          cases e
          exact ⟨_, List.getElem?_set_self (by rw [hs]; exact hj), .ref p, rfl, .ob (by rw [eR]; rfl)⟩
        · rw [List.getElem?_set_ne z, List.getElem?_replicate, if_pos hj] at e
          cases e
          exact ⟨_, List.getElem?_eq_getElem (by rw [List.length_set, hs]; exact hj), trivial⟩
      · unfold rhoLaw at e1
        by_cases z : i = j
        · subst z
          have hj := (List.getElem?_eq_some_iff.mp e1).1
          rw [List.length_set] at hj
          rw [List.getElem?_set_self hj] at e1
          cases e1
          cases w1
        · rw [List.getElem?_set_ne z, List.getElem?_replicate] at e1
          split at e1 <;> cases e1
          cases w1
    show tssOf _ rest _ _ H1
    rw [← eH]
    refine (hbody cdv A outer s H E W1 hr hgd takes_none).run _ _ W1 kLaw _ sat ⟨fun _ _ _ _ _ z => z.elim, fun v d W' _ _ r z => ?_, fun _ _ _ _ _ z => z.elim, fun _ _ _ _ _ z => z.elim⟩ (by rw [eg]; exact hpure)
    have z' : d = .bl true := z
    subst z'
    rw [r.bl_inv]
    exact hQ _
end DL
set_option Elab.async false
set_option linter.all false
set_option maxRecDepth 100000
set_option maxHeartbeats 1000000
namespace DL
open PySem L2
/-- a def of the text that keeps a promise by data: called by its name -/
structure FnB (P : Program) (w : World) (K : PySem.W.Frag) (mg : Str → Option Value) (base : Heap) (k : Nat) (x : Str) (ps : List Str) (sp : Sp) : Prop where
  ex : ∃ (f : Addr) (fd : FuncData), FnG P w K mg base k f fd ps sp ∧ mg x = some (.ref f) ∧ PySem.W.keepIn K (.ref f) = true ∧ Binds K fd ps []
section
variable {M : Ghost} {C : Ct M} {W W1 W2 W' : Wd M} {σ : L2.St} {ρ : DEnv} {e : Expr} {es : List Expr} {we : EW M} {pos p : Pos} {wa : AW M}
@[simp] def wCallB (n : Nat) (sp : DSp M) (wa : AW M) (EX : Exn → DEnv → M.G → Prop) : EW M := fun ρ g q => wa ρ g fun ds g' => ds.length = n ∧ sp ds g' q fun x g2 => EX x ρ g2
theorem de_callF {k : Nat} {ps : List Str} {n : Nat} {sp : DSp M} {x : Str} (F : FnB C.X.prog C.X.w C.X.K C.X.mg C.X.base k x ps (liftSp C.X.K C.X.mg n sp)) (hgd : C.X.A.guards = some []) (hr : Room k C.X.A) (tk : TakesD C) (ha : DA C (e :: es) wa)
    (hg : Gl C.X x := by rfl) (hdb : (x == ("__debug__" : Str)) = false := by decide) (he : starEach (e :: es) C.X.env = (false, eval e C.X.env) :: starEach es C.X.env := by rfl) (hpl : (backTo pos (starEach es C.X.env)).any (·.1) = false := by rfl) :
    DE C (.Call (.Name x p) (e :: es) [] pos) (wCallB n sp wa C.EX) := ⟨fun σ ρ W Q q S hQ hw => by
  obtain ⟨f, fd, F, hm, hk, hb⟩ := F.ex
  exact tOf_of (pe_callG (E := fun σ => EXs C σ) F hgd hr hg hm hk hb (fun σ => passAt tk σ) pa_tOf hdb he hpl) (ha.run σ ρ W _ _ S (fun vs ds W1 g1 k1 r1 q1 =>
    ⟨W1, ds, q, fun x g => C.EX x ρ g, rfl, k1, r1, q1.1, q1.2, fun v d W2 g2 k2 r2 q2 => hQ v d W2 (g1.trans g2) k2 r2 q2, fun cls d H' h => exs_of (S.step g1 k1) (fun _ _ z => z) h⟩) hw)⟩
/-- .. that may be called where an exception is handled -/
structure FnQB (P : Program) (w : World) (K : PySem.W.Frag) (mg : Str → Option Value) (base : Heap) (k : Nat) (x : Str) (ps : List Str) (sp : Sp) : Prop where
  ex : ∃ (f : Addr) (fd : FuncData), FnQ P w K mg base k f fd ps sp ∧ mg x = some (.ref f) ∧ PySem.W.keepIn K (.ref f) = true ∧ Binds K fd ps []
theorem FnQB.b {P : Program} {w : World} {K : PySem.W.Frag} {mg : Str → Option Value} {base : Heap} {k : Nat} {x : Str} {ps : List Str} {sp : Sp} (F : FnQB P w K mg base k x ps sp) : FnB P w K mg base k x ps sp := by
  obtain ⟨f, fd, F, h⟩ := F.ex
  exact ⟨f, fd, F.g, h⟩
theorem de_callQ {k : Nat} {ps : List Str} {n : Nat} {sp : DSp M} {x : Str} (F : FnQB C.X.prog C.X.w C.X.K C.X.mg C.X.base k x ps (liftSp C.X.K C.X.mg n sp)) (hgd : C.X.A.guards = some []) (hr : L2H.RoomH k C.X.A) (tk : TakesD C) (ha : DA C (e :: es) wa)
    (hg : Gl C.X x := by rfl) (hdb : (x == ("__debug__" : Str)) = false := by decide) (he : starEach (e :: es) C.X.env = (false, eval e C.X.env) :: starEach es C.X.env := by rfl) (hpl : (backTo pos (starEach es C.X.env)).any (·.1) = false := by rfl) :
    DE C (.Call (.Name x p) (e :: es) [] pos) (wCallB n sp wa C.EX) := ⟨fun σ ρ W Q q S hQ hw => by
  obtain ⟨f, fd, F, hm, hk, hb⟩ := F.ex
  exact tOf_of (pe_callQ (E := fun σ => EXs C σ) F hgd hr hg hm hk hb (fun σ => passAt tk σ) pa_tOf hdb he hpl) (ha.run σ ρ W _ _ S (fun vs ds W1 g1 k1 r1 q1 =>
    ⟨W1, ds, q, fun x g => C.EX x ρ g, rfl, k1, r1, q1.1, q1.2, fun v d W2 g2 k2 r2 q2 => hQ v d W2 (g1.trans g2) k2 r2 q2, fun cls d H' h => exs_of (S.step g1 k1) (fun _ _ z => z) h⟩) hw)⟩
theorem fnQB_of {P : Program} {w : World} {K : PySem.W.Frag} {mg : Str → Option Value} {base : Heap} {x qual : Str} {st : Stmt} {f : Addr} {fd : FuncData} {k : Nat} {ps : List Str} {sp : Sp} (F : Fun K x qual st f fd) (g : mg x = some (.ref f)) (G : FnQ P w K mg base k f fd ps sp) (b : Binds K fd ps []) : FnQB P w K mg base k x ps sp :=
  ⟨f, fd, G, g, F.kp, b⟩
theorem fnB_of {P : Program} {w : World} {K : PySem.W.Frag} {mg : Str → Option Value} {base : Heap} {x qual : Str} {st : Stmt} {f : Addr} {fd : FuncData} {k : Nat} {ps : List Str} {sp : Sp} (F : Fun K x qual st f fd) (g : mg x = some (.ref f)) (G : FnG P w K mg base k f fd ps sp) (b : Binds K fd ps []) : FnB P w K mg base k x ps sp :=
  ⟨f, fd, G, g, F.kp, b⟩

/-- the end of a def over the stream: the bound may be given greater -/
@[simp] def kEndS (q : D → Nat → Prop) : K3 stg := { nx := fun _ (g : Nat) => ∃ n : Nat, g ≤ n ∧ q .non n, rt := fun d (g : Nat) => ∃ n : Nat, g ≤ n ∧ q d n, bk := fun _ _ => False, ct := fun _ _ => False }
theorem fnS_of {P : Program} {w : World} {K : PySem.W.Frag} {mg : Str → Option Value} {base : Heap} {x qual : Str} {st : Stmt} {f : Addr} {fd : FuncData} {N ps : List Str} {k : Nat} {sp : DSp stg} {wb : (Exn → stg.G → Prop) → SW stg} (F : Fun K x qual st f fd) (Sc : FnScope N ps (defScope st))
    (hbody : ∀ (cdv : Value) (A : Around) (outer : List Env) (s : Shared) (H : Hp) (E : XK) (W0 : Wd stg) (EX : Exn → stg.G → Prop), Room k (A.deeper (PyProof.Rows.envOfC qual (defScope st) s.heap.objs.size f cdv)) → A.guards = some [] →
      TakesD (M := stg) ⟨cxOf (L2.CX P w) P w K mg base N qual (defScope st) f cdv A outer s H E, W0, xk EX, W0⟩ → DSs (M := stg) ⟨cxOf (L2.CX P w) P w K mg base N qual (defScope st) f cdv A outer s H E, W0, xk EX, W0⟩ (defBody st) (wb EX))
    (hpure : ∀ (ds : List D) (g : Nat) (q : D → Nat → Prop) (ex : Exn → Nat → Prop), ds.length = ps.length → sp ds g q ex → wb ex (kEndS q) (startD N ds) g) :
    FnG P w K mg base (k + 1) f fd ps (liftSp K mg ps.length sp) := by
  refine fng_of F Sc (fun vs H Q E h => ?_) (fun cdv A outer s H vs Q E hr hgd h => ?_)
  · obtain ⟨W, ds, q, ex, _, _, r, hl, _⟩ := h
    rw [r.length, hl]
  · obtain ⟨W, ds, q, ex, rfl, ok, r, hl, hsp, hQ, hE⟩ := h
    have tk : TakesD (M := stg) ⟨cxOf (L2.CX P w) P w K mg base N qual (defScope st) f cdv A outer s W.H E, W, xk ex, W⟩ := fun u s' x =>
      takes_of (X := cxOf (L2.CX P w) P w K mg base N qual (defScope st) f cdv A outer s W.H E) rfl rfl rfl rfl u s' (by
        obtain ⟨a, B, sI, pins, σ, H, cls, d, e, I, nb, up, sky, na, os, ag, x, ρ, W', z1, z2, z3, z4⟩ := x
        exact ⟨a, B, sI, pins, σ, H, cls, d, e, I, nb, up, sky, na, os, ag, hE _ _ _ ⟨x, W', z1, z2.go, z2.ok, z3, z4⟩⟩)
    refine ⟨_, pss_tOf, ?_⟩
    refine (hbody cdv A outer s W.H E W ex hr hgd tk).run _ _ W (kEndS q) _ (sat_start ok rfl rfl r) ⟨fun σ' ρ' W' g S' h => ?_, fun v d W' g k r h => ?_, fun _ _ _ _ _ h => h.elim, fun _ _ _ _ _ h => h.elim⟩ (hpure ds W.g q ex hl hsp)
    · obtain ⟨n, hn, h⟩ := h
      exact hQ .non .non ({ W' with g := n } : Wd stg) (S'.go.trans (go_more (n := n))) (wok_more S'.ok hn) .non h
    · obtain ⟨n, hn, h⟩ := h
      exact hQ v d ({ W' with g := n } : Wd stg) (g.trans (go_more (n := n))) (wok_more k hn) r h
/-- .. called also where an exception is handled -/
theorem fnQS_of {P : Program} {w : World} {K : PySem.W.Frag} {mg : Str → Option Value} {base : Heap} {x qual : Str} {st : Stmt} {f : Addr} {fd : FuncData} {N ps : List Str} {k : Nat} {sp : DSp stg} {wb : (Exn → stg.G → Prop) → SW stg} (F : Fun K x qual st f fd) (Sc : FnScope N ps (defScope st))
    (hbody : ∀ (cdv : Value) (A : Around) (outer : List Env) (s : Shared) (H : Hp) (E : XK) (p : Addr × Obj) (W0 : Wd stg) (EX : Exn → stg.G → Prop), L2H.RoomH k (A.deeper (PyProof.Rows.envOfC qual (defScope st) s.heap.objs.size f cdv)) → A.guards = some [] →
      TakesD (M := stg) ⟨L2H.cxH (L2.CX P w) P w K mg base N qual (defScope st) f cdv A outer s H E p, W0, xk EX, W0⟩ → DSs (M := stg) ⟨L2H.cxH (L2.CX P w) P w K mg base N qual (defScope st) f cdv A outer s H E p, W0, xk EX, W0⟩ (defBody st) (wb EX))
    (hpure : ∀ (ds : List D) (g : Nat) (q : D → Nat → Prop) (ex : Exn → Nat → Prop), ds.length = ps.length → sp ds g q ex → wb ex (kEndS q) (startD N ds) g) :
    FnQ P w K mg base (k + 1) f fd ps (liftSp K mg ps.length sp) := by
  refine fnq_of F Sc (fun vs H Q E h => ?_) (fun cdv A outer s H vs Q E p hr hgd h => ?_)
  · obtain ⟨W, ds, q, ex, _, _, r, hl, _⟩ := h
    rw [r.length, hl]
  · obtain ⟨W, ds, q, ex, rfl, ok, r, hl, hsp, hQ, hE⟩ := h
    have tk : TakesD (M := stg) ⟨L2H.cxH (L2.CX P w) P w K mg base N qual (defScope st) f cdv A outer s W.H E p, W, xk ex, W⟩ := fun u s' x =>
      takes_of (X := L2H.cxH (L2.CX P w) P w K mg base N qual (defScope st) f cdv A outer s W.H E p) rfl rfl rfl rfl u s' (by
        obtain ⟨a, B, sI, pins, σ, H, cls, d, e, I, nb, up, sky, na, os, ag, x, ρ, W', z1, z2, z3, z4⟩ := x
        exact ⟨a, B, sI, pins, σ, H, cls, d, e, I, nb, up, sky, na, os, ag, hE _ _ _ ⟨x, W', z1, z2.go, z2.ok, z3, z4⟩⟩)
    refine ⟨_, pss_tOf, ?_⟩
    refine (hbody cdv A outer s W.H E p W ex hr hgd tk).run _ _ W (kEndS q) _ (sat_start ok rfl rfl r) ⟨fun σ' ρ' W' g S' h => ?_, fun v d W' g k r h => ?_, fun _ _ _ _ _ h => h.elim, fun _ _ _ _ _ h => h.elim⟩ (hpure ds W.g q ex hl hsp)
    · obtain ⟨n, hn, h⟩ := h
      exact hQ .non .non ({ W' with g := n } : Wd stg) (S'.go.trans (go_more (n := n))) (wok_more S'.ok hn) .non h
    · obtain ⟨n, hn, h⟩ := h
      exact hQ v d ({ W' with g := n } : Wd stg) (g.trans (go_more (n := n))) (wok_more k hn) r h

theorem wk_rng {K : PySem.W.Frag} (lo : Int) (n : Nat) : WK K W (Itr lo n) ((List.range n).map fun (i : Nat) => D.int (lo + i)) where
  go := fun i W1 d g k e => by
    rw [List.getElem?_map] at e
    by_cases hi : i < n
    · rw [List.getElem?_range hi] at e
      cases e
      refine ⟨hi, fun x H' y => ?_⟩
      obtain ⟨rfl, rfl⟩ := y
      exact ⟨W1, rfl, Go.refl _, k, rfl, .int _⟩
    · rw [List.getElem?_eq_none (by simpa using hi)] at e
      cases e
  stop := fun i W1 g k e => by
    have := List.getElem?_eq_none_iff.mp e
    rw [List.length_map, List.length_range] at this
    exact this
def rngL (lo hi : Int) : List D := (List.range (hi - lo).toNat).map fun (i : Nat) => D.int (lo + i)
@[simp] def wRng1 (wa : EW M) : IW M := fun ρ g q => wa ρ g fun d g' => asI d fun j => -(2 ^ 62) ≤ j ∧ j < 2 ^ 62 ∧ q (rngL 0 j) g'
theorem di_range1 {tg a : Expr} {wa : EW M} (hm : C.X.mg "range" = none) (ha : DE C a wa) (hg : Gl C.X "range" := by rfl) (hs : starEach [a] C.X.env = [(false, eval a C.X.env)] := by rfl) (hs2 : starEach [a] C.X.env = (false, eval a C.X.env) :: starEach [] C.X.env := by rfl) :
    DI C tg (.Call (.Name "range" p) [a] [] pos) (wRng1 wa) := ⟨fun σ ρ W R q S hR hw => iOf_of (pi_range1 hg hm (pa_cons pe_tOf pa_nil hs2) hs) (ha.run σ ρ W _ _ S (fun v d W1 g1 k1 r1 q1 => by
  cases d with
  | int j =>
    cases r1
    refine ⟨j, rfl, q1.1, q1.2.1, ?_⟩
    have e : rngL 0 j = (List.range j.toNat).map fun (i : Nat) => D.int (0 + i) := by unfold rngL; rw [Int.sub_zero]
    exact hR _ _ W1 g1 k1 (e ▸ wk_rng 0 j.toNat) q1.2.2
  | _ => exact q1.elim) hw)⟩
@[simp] def wRng2 (wa wb : EW M) : IW M := fun ρ g q => wa ρ g fun d g1 => wb ρ g1 fun e g2 => asI d fun i => asI e fun j => (-(2 ^ 62) ≤ i ∧ i < 2 ^ 62 ∧ -(2 ^ 62) ≤ j ∧ j < 2 ^ 62) ∧ q (rngL i j) g2
theorem di_range2 {tg a b : Expr} {wa wb : EW M} (hm : C.X.mg "range" = none) (ha : DE C a wa) (hb : DE C b wb) (hg : Gl C.X "range" := by rfl) (hs : starEach [a, b] C.X.env = [(false, eval a C.X.env), (false, eval b C.X.env)] := by rfl) (hs2 : starEach [b] C.X.env = [(false, eval b C.X.env)] := by rfl)
    (h1 : starEach [a, b] C.X.env = (false, eval a C.X.env) :: starEach [b] C.X.env := by rfl) (h2 : starEach [b] C.X.env = (false, eval b C.X.env) :: starEach [] C.X.env := by rfl) :
    DI C tg (.Call (.Name "range" p) [a, b] [] pos) (wRng2 wa wb) := ⟨fun σ ρ W R q S hR hw => iOf_of (pi_range2 hg hm (pa_cons pe_tOf (pa_cons pe_tOf pa_nil h2) h1) hs hs2) (ha.run σ ρ W _ _ S (fun v d W1 g1 k1 r1 q1 => by
  refine hb.run σ ρ W1 _ _ (S.step g1 k1) (fun u d2 W2 g2 k2 r2 q2 => ?_) q1
  cases d with
  | int i =>
    cases d2 with
    | int j =>
      cases r1
      cases r2
      exact ⟨i, j, rfl, q2.1, hR _ _ W2 (g1.trans g2) k2 (wk_rng i (j - i).toNat) q2.2⟩
    | _ => exact q2.elim
  | _ => exact q2.elim) hw)⟩

abbrev MW (M : Ghost) := DEnv → M.G → (List Sl → M.G → Prop) → Prop
/-- a, b = x, y with two plain local names -/
@[simp] def wPar (i j : Nat) (wx wy : VW M) : SW M := fun k ρ g => wx ρ g fun s g1 => wy ρ g1 fun t g2 => k.nx ((ρ.set i s).set j t) g2
theorem ds_par {i j : Nat} {x y : Str} {a b : Expr} {wx wy : VW M} {px py pt : Pos} {kt k2 : Nat} {pt2 : Pos} (hc : C.X.calm = true) (hN : C.X.N.Nodup) (hi : C.X.N[i]? = some x) (hj : C.X.N[j]? = some y) (hij : i ≠ j)
    (hx : C.X.env.scope.names.lookup x = some .local) (hy : C.X.env.scope.names.lookup y = some .local) (ha : DV C a wx) (hb : DV C b wy)
    (hw : swappedStores [.Tuple [.Name x px, .Name y py] kt pt] (.Tuple [a, b] k2 pt2) C.X.env = pure (some [x, y]) := by rfl) (hs : swapsWithSole [.Tuple [.Name x px, .Name y py] kt pt] (.Tuple [a, b] k2 pt2) pos.line C.X.env = pure false := by rfl)
    (h1 : starEach [a, b] C.X.env = (false, eval a C.X.env) :: starEach [b] C.X.env := by rfl) (h2 : starEach [b] C.X.env = (false, eval b C.X.env) :: starEach [] C.X.env := by rfl) :
    DS C (.Assign [.Tuple [.Name x px, .Name y py] kt pt] (.Tuple [a, b] k2 pt2) pos) (wPar i j wx wy) := ⟨fun σ ρ W k E S l h => by
  refine tsOf_of (ps_par hc hN hi hj hij hx hy (pa_cons pe_tOf (pa_cons pe_tOf pa_nil h2) h1) hw hs) ?_
  refine ha.run σ ρ W _ _ S (fun v s W1 g1 k1 f1 q1 => ?_) h
  refine hb.run σ ρ W1 _ _ (S.step g1 k1) (fun u t W2 g2 k2 f2 q2 => ?_) q1
  refine ⟨v, u, rfl, ?_⟩
  have S2 := S.step (g1.trans g2) k2
  have o1 : SlOk C W2 s (some v) := (slOk_fresh S g1 f1).step g2
  have o2 : SlOk C W2 t (some u) := slOk_fresh (S.step g1 k1) g2 f2
  have T1 := S2.puts o1 i fun p w1 e1 m t' w2 _ a1 a2 => own_live S w2 a1 a2 (fresh_dead f1 w1 e1)
  have T2 := T1.puts o2 j fun p w1 e1 m t' w2 _ a1 a2 => by
    have dead := fresh_dead f2 w1 e1
    by_cases hm : i = m
    · subst hm
      have hlt : i < ρ.length := by
        have := (List.getElem?_eq_some_iff.mp a1).1
        rwa [List.length_set] at this
      rw [List.getElem?_set_self hlt] at a1
      rw [List.getElem?_set_self (by rw [S.len]; exact hlt)] at a2
      cases a1
      cases a2
      exact fresh_live f1 w2 rfl dead
    · rw [List.getElem?_set_ne hm] at a1 a2
      exact g1.live _ (own_live S w2 a1 a2) dead
  exact l.nx _ _ W2 (g1.trans g2).s T2 q2⟩
end
end DL
set_option Elab.async false
set_option linter.all false
set_option maxRecDepth 100000
set_option maxHeartbeats 1000000
namespace DL
open PySem
section
variable {prog : Program} {w : World} {A : Around} {E : Value → Shared → Prop} {s : Shared}
def Slot0 (v : Value) : Prop := v = .none ∨ ∃ T : Nat, v = rawInt T
abbrev enObj (s0 : Value) (f : Bool) (it : Addr) (i : Int) (old : Value) : Obj := { cls := .type "enumerate", dict := none, data := .fields #[s0, .bool f, .ref it, rawInt i, .none, old], slots := #[] }
abbrev ziObj (s0 : Value) (f : Bool) (TI TO : Addr) : Obj := { cls := .type "zip", dict := none, data := .fields #[s0, .bool f, .bool false, .ref TI, .ref TO], slots := #[] }
def EnA (h : Heap) (e it : Addr) (i : Int) : Prop := ∃ s0 f old, Slot0 s0 ∧ h.get? e = some (enObj s0 f it i old)
def ZiA (h : Heap) (z TI TO : Addr) : Prop := ∃ s0 f, Slot0 s0 ∧ h.get? z = some (ziObj s0 f TI TO)
theorem alive_any {a : Addr} {Q : Option Obj → Shared → Prop} (h : Q (s.heap.get? a) s) : wpAny (model prog w) A (loadIfAlive a) Q E s := fun _ _ _ => h
theorem free_en {e it : Addr} {s0 old : Value} {f : Bool} {i : Int} {Q : Bool → Shared → Prop} (he : s.heap.get? e = some (enObj s0 f it i old)) (hs : Slot0 s0) (h1 : Q true s)
    (h2 : ∀ h' f', h'.get? e = some (enObj s0 f' it i old) → Heap.SameBut e s.heap h' → Q false { s with heap := h' }) : wpAny (model prog w) A (Builtin.SmallTypes.ownedTupleIsFree (.ref e)) Q E s := by
  unfold Builtin.SmallTypes.ownedTupleIsFree
  refine wpAny_bind (wpAny_field he rfl (x := s0) rfl ?_)
  rcases hs with rfl | ⟨T, rfl⟩
  · exact wpAny_pure h1
  · show wpAny _ _ (loadIfAlive ((T : Int).toNat) >>= _) _ _ _
    rw [Int.toNat_natCast]
    refine wpAny_bind (alive_any ?_)
    cases s.heap.get? T with
    | none => exact wpAny_pure h1
    | some oT =>
      simp only [Option.isNone_some, Bool.false_eq_true, if_false]
      refine wpAny_bind (wpAny_field he rfl (x := .bool f) rfl ?_)
      cases f with
      | true =>
        rw [if_neg (show ¬ ((Value.bool true != Value.bool true) = true) from Bool.false_ne_true)]
        exact wpAny_pure (h2 s.heap true he (Heap.SameBut.refl _ _))
      | false =>
        rw [if_pos (show (Value.bool false != Value.bool true) = true from rfl)]
        exact wpAny_bind (wpAny_setField_rec he (by simp) fun h₁ hz₁ hs₁ => wpAny_pure (h2 h₁ true hz₁ hs₁))
theorem free_zi {z TI TO : Addr} {s0 : Value} {f : Bool} {Q : Bool → Shared → Prop} (he : s.heap.get? z = some (ziObj s0 f TI TO)) (hs : Slot0 s0) (h1 : Q true s)
    (h2 : ∀ h' f', h'.get? z = some (ziObj s0 f' TI TO) → Heap.SameBut z s.heap h' → Q false { s with heap := h' }) : wpAny (model prog w) A (Builtin.SmallTypes.ownedTupleIsFree (.ref z)) Q E s := by
  unfold Builtin.SmallTypes.ownedTupleIsFree
  refine wpAny_bind (wpAny_field he rfl (x := s0) rfl ?_)
  rcases hs with rfl | ⟨T, rfl⟩
  · exact wpAny_pure h1
  · show wpAny _ _ (loadIfAlive ((T : Int).toNat) >>= _) _ _ _
    rw [Int.toNat_natCast]
    refine wpAny_bind (alive_any ?_)
    cases s.heap.get? T with
    | none => exact wpAny_pure h1
    | some oT =>
      simp only [Option.isNone_some, Bool.false_eq_true, if_false]
      refine wpAny_bind (wpAny_field he rfl (x := .bool f) rfl ?_)
      cases f with
      | true =>
        rw [if_neg (show ¬ ((Value.bool true != Value.bool true) = true) from Bool.false_ne_true)]
        exact wpAny_pure (h2 s.heap true he (Heap.SameBut.refl _ _))
      | false =>
        rw [if_pos (show (Value.bool false != Value.bool true) = true from rfl)]
        exact wpAny_bind (wpAny_setField_rec he (by simp) fun h₁ hz₁ hs₁ => wpAny_pure (h2 h₁ true hz₁ hs₁))
/-- what the draws of an iterator are, which may lay new things -/
structure Dr (prog : Program) (w : World) (A : Around) (it : Addr) (fp wr : List Addr) (n : Nat) (P : Nat → Value → Nat → Nat → Heap → Prop) (St : Nat → Heap → Prop) : Prop where
  sub : ∀ b ∈ wr, b ∈ fp
  mem : it ∈ wr
  live : ∀ i h, St i h → ∀ b ∈ wr, ∃ o, h.get? b = some o
  frame : ∀ i h h', St i h → (∀ b ∈ fp, ∀ o, h.get? b = some o → h'.get? b = some o) → St i h'
  grow : ∀ i x N Z h h', P i x N Z h → (∀ b o, N ≤ b → h.get? b = some o → h'.get? b = some o) → P i x N Z h'
  item : ∀ i (s : Shared) (Q : Value → Shared → Prop) (E : Value → Shared → Prop), i < n → St i s.heap →
    (∀ x h' tk, P i x s.heap.objs.size h'.objs.size h' → St (i + 1) h' → s.heap.objs.size ≤ h'.objs.size → (∀ b o, b ∉ wr → s.heap.get? b = some o → h'.get? b = some o) → Q x { s with heap := h', toks := tk }) →
    wpAny (model prog w) A (Builtin.SmallTypes.nextOf (.ref it)) Q E s
  done : ∀ (s : Shared) (Q : Value → Shared → Prop) (E : Value → Shared → Prop), St n s.heap →
    (∀ h' tk e, (∀ b o, b ∉ wr → s.heap.get? b = some o → h'.get? b = some o) → (∃ o, h'.get? e = some o ∧ o.cls = .type "StopIteration") → E (.ref e) { s with heap := h', toks := tk }) →
    wpAny (model prog w) A (Builtin.SmallTypes.nextOf (.ref it)) Q E s
theorem Dr.of {it : Addr} {fp : List Addr} {n : Nat} {P : Nat → Value → Prop} {St : Nat → Heap → Prop} (D : Draws prog w A it fp n P St) (hm : it ∈ fp) : Dr prog w A it fp [it] n (fun i x _ _ _ => P i x) St where
  sub := fun b hb => by rw [List.mem_singleton.mp hb]; exact hm
  mem := List.mem_singleton_self _
  live := fun i h st b hb => by rw [List.mem_singleton.mp hb]; exact D.live i h st
  frame := D.frame
  grow := fun _ _ _ _ _ _ h _ => h
  item := fun i s Q E hi st hQ => D.item i s Q E hi st fun x h' tk p st' sb => hQ x h' tk p st' (by rw [sb.1]; exact Nat.le_refl _) fun b o hb e => sb.extBut b o (fun q => hb (by simp [q])) e
  done := fun s Q E st hE => D.done s Q E st fun h' e k he => hE h' s.toks e (fun b o hb x => k b o (fun q => hb (by simp [q])) x) he

theorem en_item {e it : Addr} {fp wr : List Addr} {n i : Nat} {P : Nat → Value → Nat → Nat → Heap → Prop} {St : Nat → Heap → Prop} {Q : Value → Shared → Prop}
    (D : Dr prog w A it fp wr n P St) (he : EnA s.heap e it (i : Nat)) (hst : St i s.heap) (hlt : i < n) (hef : e ∉ fp)
    (hQ : ∀ x h' tk T t Z, P i x s.heap.objs.size Z h' → s.heap.objs.size ≤ Z → Z ≤ T → T < h'.objs.size → EnA h' e it ((i + 1 : Nat) : Int) → St (i + 1) h' →
      h'.get? T = some { cls := .type "tuple", data := .seq #[.int (i : Nat) t, x] } →
      (∀ b o, b ≠ e → b ∉ wr → s.heap.get? b = some o → h'.get? b = some o) → Q (.ref T) { s with heap := h', toks := tk }) :
    wpAny (model prog w) A (Builtin.«enumerate.__next__» ⟨[.ref e], []⟩) (fun fin s' => ∃ v, fin = .done (.ret v) ∧ Q v s') E s := by
  have hew : e ∉ wr := fun q => hef (D.sub e q)
  obtain ⟨s0, f, old, hs0, he⟩ := he
  obtain ⟨hp, g, d, tk₀, os⟩ := s
  show wpAny _ _ (field (.ref e) 2 >>= _) _ _ _
  refine wpAny_bind (wpAny_field he rfl (x := .ref it) rfl ?_)
  refine wpAny_bind (D.item i _ _ _ hlt hst fun x h₁ tk hPx hit₁ hle₁ hk₁ => ?_)
  replace hk₁ : ∀ b o, b ∉ wr → hp.get? b = some o → h₁.get? b = some o := hk₁
  replace hle₁ : hp.objs.size ≤ h₁.objs.size := hle₁
  have he₁ : h₁.get? e = some (enObj s0 f it i old) := hk₁ e _ hew he
  show wpAny _ _ (field (.ref e) 3 >>= _) _ _ ⟨h₁, g, d, tk, os⟩
  refine wpAny_bind (wpAny_field he₁ rfl (x := rawInt i) rfl ?_)
  show wpAny _ _ (field (.ref e) 4 >>= _) _ _ ⟨h₁, g, d, tk, os⟩
  refine wpAny_bind (wpAny_field he₁ rfl (x := .none) rfl ?_)
  show wpAny _ _ (mkInt i >>= _) _ _ ⟨h₁, g, d, tk, os⟩
  refine wpAny_bind (wpAny_mkInt ?_)
  show wpAny _ _ (setField (.ref e) 3 (rawInt ((i : Int) + 1)) >>= _) _ _ ⟨h₁, g, d, tk + 1, os⟩
  refine wpAny_bind (wpAny_setField_rec he₁ (by simp) fun h₂ he₂ hs₂ => ?_)
  replace hs₂ : Heap.SameBut e h₁ h₂ := hs₂
  replace he₂ : h₂.get? e = some (enObj s0 f it ((i : Int) + 1) old) := he₂
  show wpAny _ _ (setField (.ref e) 4 .none >>= _) _ _ ⟨h₂, g, d, tk + 1, os⟩
  refine wpAny_bind (wpAny_setField_rec he₂ (by simp) fun h₃ he₃ hs₃ => ?_)
  replace hs₃ : Heap.SameBut e h₂ h₃ := hs₃
  replace he₃ : h₃.get? e = some (enObj s0 f it ((i : Int) + 1) old) := he₃
  show wpAny _ _ (newTuple [.int i tk, x] >>= _) _ _ ⟨h₃, g, d, tk + 1, os⟩
  refine wpAny_bind (wpAny_newTuple ?_)
  have he₄ : (h₃.push { cls := .type "tuple", data := .seq #[.int i tk, x] }).get? e = some (enObj s0 f it ((i : Int) + 1) old) := Heap.get?_push_of_some _ he₃
  have hsz : h₃.objs.size = h₁.objs.size := by rw [hs₃.1, hs₂.1]
  have hel : e < h₁.objs.size := Heap.lt_size he₁
  have help : e < hp.objs.size := Heap.lt_size he
  have e1 : ((i + 1 : Nat) : Int) = (i : Int) + 1 := by omega
  generalize hh₄ : h₃.push { cls := .type "tuple", data := .seq #[.int i tk, x] } = h₄ at he₄
  have ht₄ : h₄.get? h₁.objs.size = some { cls := .type "tuple", data := .seq #[.int i tk, x] } := by rw [← hh₄, ← hsz]; exact Heap.get?_push_size _ rfl
  have hz₄ : h₄.objs.size = h₁.objs.size + 1 := by rw [← hh₄, Heap.size_push, hsz]
  have hk₄ : ∀ b o, b ≠ e → h₁.get? b = some o → h₄.get? b = some o := fun b o hbe hb => by
    rw [← hh₄]; exact Heap.get?_push_of_some _ (hs₃.extBut b o hbe (hs₂.extBut b o hbe hb))
  have fin : ∀ h₅ (tk5 : Nat), EnA h₅ e it ((i : Int) + 1) → h₅.objs.size = h₄.objs.size → (∀ b o, b ≠ e → h₄.get? b = some o → h₅.get? b = some o) → Q (.ref h₁.objs.size) ⟨h₅, g, d, tk5, os⟩ := fun h₅ tk5 en z5 k5 => by
    refine hQ x h₅ tk5 h₁.objs.size tk h₁.objs.size ?_ hle₁ (Nat.le_refl _) (by rw [z5, hz₄]; exact Nat.lt_succ_self _) (by rw [e1]; exact en) ?_ (k5 _ _ (Nat.ne_of_gt hel) ht₄) ?_
    · exact D.grow _ _ _ _ _ _ hPx fun b o hb q => k5 b o (fun z => absurd (z ▸ hb) (Nat.not_le_of_lt help)) (hk₄ b o (fun z => absurd (z ▸ hb) (Nat.not_le_of_lt help)) q)
    · exact D.frame _ _ _ hit₁ fun b hb o y => k5 b o (fun q => hef (q ▸ hb)) (hk₄ b o (fun q => hef (q ▸ hb)) y)
    · exact fun b o hbe hbw y => k5 b o hbe (hk₄ b o hbe (hk₁ b o hbw y))
  show wpAny _ _ (Builtin.SmallTypes.ownedTupleIsFree (.ref e) >>= _) _ _ ⟨h₄, g, d, tk + 1, os⟩
  rw [hsz]
  refine wpAny_bind (free_en (s := ⟨h₄, g, d, tk + 1, os⟩) he₄ hs0 ?_ fun h₅ f' he₅ hs₅ => ?_)
  · simp only [if_true]
    refine wpAny_bind (wpAny_rule ?_)
    refine wpAny_bind (wpAny_field he₄ rfl (x := old) rfl ?_)
    refine wpAny_bind (wpAny_setField_rec he₄ (by simp) fun h₅ he₅ hs₅ => ?_)
    replace hs₅ : Heap.SameBut e h₄ h₅ := hs₅
    replace he₅ : h₅.get? e = some (enObj s0 f it ((i : Int) + 1) x) := he₅
    show wpAny _ _ (Builtin.SmallTypes.ownedTupleHandOut (.ref e) (.ref h₁.objs.size) >>= _) _ _ ⟨h₅, g, d, tk + 1, os⟩
    refine wpAny_bind ?_
    unfold Builtin.SmallTypes.ownedTupleHandOut
    refine wpAny_bind (wpAny_setField_rec he₅ (by simp) fun h₆ he₆ hs₆ => ?_)
    replace hs₆ : Heap.SameBut e h₅ h₆ := hs₆
    replace he₆ : h₆.get? e = some (enObj (rawInt h₁.objs.size) f it ((i : Int) + 1) x) := he₆
    refine wpAny_setField_rec he₆ (by simp) fun h₇ he₇ hs₇ => ?_
    replace hs₇ : Heap.SameBut e h₆ h₇ := hs₇
    replace he₇ : h₇.get? e = some (enObj (rawInt h₁.objs.size) false it ((i : Int) + 1) x) := he₇
    refine wpAny_bind (wpAny_letGo (wpAny_pure ⟨_, rfl, fin h₇ (tk + 1) ⟨_, _, _, .inr ⟨_, rfl⟩, he₇⟩ (by rw [hs₇.1, hs₆.1, hs₅.1]) fun b o hbe hb => hs₇.extBut b o hbe (hs₆.extBut b o hbe (hs₅.extBut b o hbe hb))⟩))
  · simp only [Bool.false_eq_true, if_false]
    exact wpAny_pure ⟨_, rfl, fin h₅ (tk + 1) ⟨_, _, _, hs0, he₅⟩ hs₅.1 fun b o hbe hb => hs₅.extBut b o hbe hb⟩
theorem en_pyNext_item {e it : Addr} {fp wr : List Addr} {n i : Nat} {P : Nat → Value → Nat → Nat → Heap → Prop} {St : Nat → Heap → Prop} {Q : Option Value → Shared → Prop}
    (D : Dr prog w A.in1 it fp wr n P St) (he : EnA s.heap e it (i : Nat)) (hst : St i s.heap) (hlt : i < n) (hef : e ∉ fp)
    (hQ : ∀ x h' tk T t Z, P i x s.heap.objs.size Z h' → s.heap.objs.size ≤ Z → Z ≤ T → T < h'.objs.size → EnA h' e it ((i + 1 : Nat) : Int) → St (i + 1) h' →
      h'.get? T = some { cls := .type "tuple", data := .seq #[.int (i : Nat) t, x] } →
      (∀ b o, b ≠ e → b ∉ wr → s.heap.get? b = some o → h'.get? b = some o) → Q (some (.ref T)) { s with heap := h', toks := tk }) :
    wpAny (model prog w) A (pyNext (.ref e)) Q E s := by
  have hT : s.TypeIs (.ref e) "enumerate" := by obtain ⟨_, _, _, _, q⟩ := he; exact ⟨_, q, rfl⟩
  unfold pyNext
  exact wpAny_bind (wpAny_attempt (wpAny_callSpecial?_slot (name := Str.ofString "__next__") hT F.slot_enumerate_next
    (wpAny_call_entry F.slot_enumerate_next hT F.entry_enumerate_next
      (en_item D he hst hlt hef fun x h' tk T t Z a1 a2 a3 a4 a5 a6 a7 a8 => wpAny_pure (hQ x h' tk T t Z a1 a2 a3 a4 a5 a6 a7 a8)) (F.args_enumerate_next_1 _))))
theorem en_pyNext_end {e it : Addr} {fp wr : List Addr} {n : Nat} {P : Nat → Value → Nat → Nat → Heap → Prop} {St : Nat → Heap → Prop} {i : Int} {Q : Option Value → Shared → Prop}
    (D : Dr prog w A.in1 it fp wr n P St) (he : EnA s.heap e it i) (hst : St n s.heap)
    (hQ : ∀ h' tk, (∀ b o, b ∉ wr → s.heap.get? b = some o → h'.get? b = some o) → Q none { s with heap := h', toks := tk }) : wpAny (model prog w) A (pyNext (.ref e)) Q E s := by
  obtain ⟨s0, f, old, hs0, he⟩ := he
  have hT : s.TypeIs (.ref e) "enumerate" := ⟨_, he, rfl⟩
  unfold pyNext
  refine wpAny_bind (wpAny_attempt (wpAny_callSpecial?_slot (name := Str.ofString "__next__") hT F.slot_enumerate_next
    (wpAny_call_entry F.slot_enumerate_next hT F.entry_enumerate_next ?_ (F.args_enumerate_next_1 _))))
  show wpAny _ _ (field (.ref e) 2 >>= _) _ _ _
  refine wpAny_bind (wpAny_field he rfl (x := .ref it) rfl ?_)
  refine wpAny_bind (D.done _ _ _ hst fun h' tk x he' hx' => ?_)
  obtain ⟨o, ho, hc⟩ := hx'
  refine wpAny_bind (wpAny_isInstance (T := "StopIteration") (b := true) ⟨o, ho, hc⟩ isSubtype_stop ?_)
  exact wpAny_pure (hQ _ _ he')
theorem en_go {tg : Expr} {e it : Addr} {u : Value} {i : Int} {Q : Unit → Shared → Prop} (he : EnA s.heap e it i)
    (hQ : ∀ h', EnA h' e it i → Heap.SameBut e s.heap h' → Q () { s with heap := h' }) : wpAny (model prog w) A (letOwnedTupleGo tg (.ref e) u) Q E s := by
  have hk : Q () s := hQ s.heap he (Heap.SameBut.refl _ _)
  obtain ⟨s0, f, old, hs0, he⟩ := he
  have go : ∀ a : Addr, wpAny (model prog w) A (do
      let o ← load e
      match o.cls, o.data with
      | .type n, .fields vs =>
        if ["enumerate", "zip", "dict_itemiterator", "dict_reverseitemiterator", "odict_iterator", "itertools.zip_longest", "itertools.pairwise"].contains n && vs[0]? == some (rawInt a) then
          rule "for.unpacks-the-owned-tuple"
          updateField e 0 .none
      | _, _ => pure ()) Q E s := by
    intro a
    refine wpAny_bind (wpAny_load he ?_)
    show wpAny _ A (if (_ && (some s0 == some (rawInt a))) = true then _ else _) Q E s
    split
    · refine wpAny_bind (wpAny_rule ?_)
      show wpAny _ A (setField (.ref e) 0 .none) Q E s
      exact wpAny_setField_rec he (by simp) fun h' he' hs' => hQ h' ⟨_, _, _, .inl rfl, he'⟩ hs'
    · exact wpAny_pure hk
  unfold letOwnedTupleGo
  cases tg <;> first | exact wpAny_pure hk | (cases u <;> first | exact wpAny_pure hk | exact go _)
end
section
variable {prog : Program} {w : World} {A : Around} {E : Value → Shared → Prop} {s : Shared} {z TI TO i1 i2 : Addr} {fp1 fp2 : List Addr} {n1 n2 i : Nat} {P1 P2 : Nat → Value → Prop} {St1 St2 : Nat → Heap → Prop} {a1 a2 : Value}
def OutZ (h : Heap) (TO : Addr) : Prop := ∃ a1 a2, IsTupOf2 h TO a1 a2
theorem zi_item {Q : Value → Shared → Prop} (S : ZipSep2 z TI TO i1 i2 fp1 fp2) (D1 : Draws prog w A i1 fp1 n1 P1 St1) (D2 : Draws prog w A i2 fp2 n2 P2 St2)
    (hz : ZiA s.heap z TI TO) (hTI : IsTupOf2 s.heap TI (.ref i1) (.ref i2)) (hTO : OutZ s.heap TO) (st1 : St1 i s.heap) (st2 : St2 i s.heap) (hlt1 : i < n1) (hlt2 : i < n2)
    (hQ : ∀ x1 x2 h' tk, P1 i x1 → P2 i x2 → ZiA h' z TI TO → OutZ h' TO → St1 (i + 1) h' → St2 (i + 1) h' → IsTupOf2 h' s.heap.objs.size x1 x2 → h'.objs.size = s.heap.objs.size + 1 →
      (∀ c o, c ≠ z → c ≠ TO → c ≠ i1 → c ≠ i2 → s.heap.get? c = some o → h'.get? c = some o) → Q (.ref s.heap.objs.size) { s with heap := h', toks := tk }) :
    wpAny (model prog w) A (Builtin.«zip.__next__» ⟨[.ref z], []⟩) (fun fin s' => ∃ v, fin = .done (.ret v) ∧ Q v s') E s := by
  obtain ⟨s0, f, hs0, hz⟩ := hz
  obtain ⟨a1, a2, hTO⟩ := hTO
  obtain ⟨hp, g, d, tk0, os⟩ := s
  show wpAny _ _ (field (.ref z) 2 >>= _) _ _ _
  refine wpAny_bind (wpAny_field hz rfl (x := .bool false) rfl ?_)
  show wpAny _ _ (field (.ref z) 3 >>= _) _ _ _
  refine wpAny_bind (wpAny_field hz rfl (x := .ref TI) rfl ?_)
  refine wpAny_bind (wpAny_seqItems hTI rfl ?_)
  show wpAny _ _ (Builtin.SmallTypes.ownedTupleIsFree (.ref z) >>= _) _ _ _
  refine wpAny_bind (free_zi (s := ⟨hp, g, d, tk0, os⟩) hz hs0 ?_ fun g0 f' hz0 hs0' => ?_)
  · simp only [if_true]
    refine wpAny_bind (wpAny_rule ?_)
    refine wpAny_bind (wpAny_field hz rfl (x := .ref TO) rfl ?_)
    refine wpAny_bind (wpAny_setField_rec hz (by simp) fun g0 hz0 hs0 => ?_)
    replace hz0 : g0.get? z = some (ziObj .ellipsis f TI TO) := hz0
    replace hs0 : Heap.SameBut z hp g0 := hs0
    refine wpAny_bind ?_
    simp only [List.zipIdx_cons, List.zipIdx_nil, List.forIn_cons, List.forIn_nil]
    refine wpAny_bind (wpAny_bind (wpAny_onRaise ?_))
    show wpAny _ _ (Builtin.SmallTypes.nextOf (.ref i1) >>= _) _ _ ⟨g0, g, d, tk0, os⟩
    refine wpAny_bind (D1.item i _ _ _ hlt1 (D1.over st1 hs0 S.zf1) fun x1 p1 tk1 hx1 sn1 hp1 => wpAny_pure ?_)
    replace hp1 : Heap.SameBut i1 g0 p1 := hp1
    have hU1 : IsTupOf2 p1 TO a1 a2 := hp1.extBut _ _ S.Ti1 (hs0.extBut _ _ S.TOz hTO)
    refine wpAny_bind (wpAny_seqItems (s := ⟨p1, g, d, tk1, os⟩) hU1 rfl ?_)
    refine wpAny_bind (updateSeq_IsTupOf2 (s := ⟨p1, g, d, tk1, os⟩) hU1 fun g1 hT1 hs1 => ?_)
    replace hT1 : IsTupOf2 g1 TO x1 a2 := hT1
    replace hs1 : Heap.SameBut TO p1 g1 := hs1
    refine wpAny_bind (wpAny_letGo (wpAny_pure ?_))
    refine wpAny_bind (wpAny_bind (wpAny_onRaise ?_))
    show wpAny _ _ (Builtin.SmallTypes.nextOf (.ref i2) >>= _) _ _ ⟨g1, g, d, tk1, os⟩
    refine wpAny_bind (D2.item i _ _ _ hlt2 (D2.over (D2.over (D2.over st2 hs0 S.zf2) hp1 S.sep1_2) hs1 S.Tf2) fun x2 p2 tk2 hx2 sn2 hp2 => wpAny_pure ?_)
    replace hp2 : Heap.SameBut i2 g1 p2 := hp2
    have hU2 : IsTupOf2 p2 TO x1 a2 := hp2.extBut _ _ S.Ti2 hT1
    refine wpAny_bind (wpAny_seqItems (s := ⟨p2, g, d, tk2, os⟩) hU2 rfl ?_)
    refine wpAny_bind (updateSeq_IsTupOf2 (s := ⟨p2, g, d, tk2, os⟩) hU2 fun g2 hT2 hs2 => ?_)
    replace hT2 : IsTupOf2 g2 TO x1 x2 := hT2
    replace hs2 : Heap.SameBut TO p2 g2 := hs2
    refine wpAny_bind (wpAny_letGo (wpAny_pure (wpAny_pure ?_)))
    refine wpAny_bind (wpAny_seqItems (s := ⟨g2, g, d, tk2, os⟩) hT2 rfl ?_)
    refine wpAny_bind (wpAny_newTuple ?_)
    have hsz : g2.objs.size = hp.objs.size := by rw [hs2.1, hp2.1, hs1.1, hp1.1, hs0.1]
    have hzz : g2.get? z = some (ziObj .ellipsis f TI TO) := (hs2.extBut _ _ S.TOz.symm (hp2.extBut _ _ S.zi2 (hs1.extBut _ _ S.TOz.symm (hp1.extBut _ _ S.zi1 hz0))))
    have hkk : ∀ c o, c ≠ z → c ≠ TO → c ≠ i1 → c ≠ i2 → hp.get? c = some o → g2.get? c = some o := fun c o cz cT c1 c2 e =>
      (hs2.extBut _ _ cT (hp2.extBut _ _ c2 (hs1.extBut _ _ cT (hp1.extBut _ _ c1 (hs0.extBut _ _ cz e)))))
    have hj1 : St1 (i + 1) g2 := (D1.over (D1.over (D1.over sn1 hs1 S.Tf1) hp2 S.sep2_1) hs2 S.Tf1)
    have hj2 : St2 (i + 1) g2 := (D2.over sn2 hs2 S.Tf2)
    have hzlt : z < g2.objs.size := Heap.lt_size hzz
    show wpAny _ _ (Builtin.SmallTypes.ownedTupleHandOut (.ref z) (.ref g2.objs.size) >>= _) _ _ ⟨g2.push { cls := .type "tuple", data := .seq #[x1, x2] }, g, d, tk2, os⟩
    refine wpAny_bind ?_
    unfold Builtin.SmallTypes.ownedTupleHandOut
    have hz₆ : (g2.push { cls := .type "tuple", data := .seq #[x1, x2] }).get? z = some (ziObj .ellipsis f TI TO) := Heap.get?_push_of_some _ hzz
    refine wpAny_bind (wpAny_setField_rec hz₆ (by simp) fun h₇ hz₇ hs₇ => ?_)
    replace hz₇ : h₇.get? z = some (ziObj (rawInt g2.objs.size) f TI TO) := hz₇
    refine wpAny_setField_rec hz₇ (by simp) fun h₈ hz₈ hs₈ => ?_
    replace hz₈ : h₈.get? z = some (ziObj (rawInt g2.objs.size) false TI TO) := hz₈
    replace hs₇ : Heap.SameBut z (g2.push { cls := .type "tuple", data := .seq #[x1, x2] }) h₇ := hs₇
    replace hs₈ : Heap.SameBut z h₇ h₈ := hs₈
    have up : ∀ c o, c ≠ z → g2.get? c = some o → h₈.get? c = some o := fun c o c1 e => hs₈.extBut _ _ c1 (hs₇.extBut _ _ c1 (Heap.get?_push_of_some _ e))
    have hT₈ : IsTupOf2 h₈ g2.objs.size x1 x2 := hs₈.extBut _ _ (Nat.ne_of_gt hzlt) (hs₇.extBut _ _ (Nat.ne_of_gt hzlt) (Heap.get?_push_size _ rfl))
    have hz8 : h₈.objs.size = g2.objs.size + 1 := by rw [hs₈.1, hs₇.1, Heap.size_push]
    rw [hsz] at hz₈ hT₈ hz8
    refine wpAny_pure ⟨_, rfl, ?_⟩
    show Q (.ref g2.objs.size) ⟨h₈, g, d, tk2, os⟩
    rw [hsz]
    exact hQ x1 x2 h₈ tk2 hx1 hx2 ⟨_, _, .inr ⟨_, rfl⟩, hz₈⟩ ⟨_, _, up _ _ S.TOz hT2⟩ (D1.frame _ _ _ hj1 fun b hb o e => up b o (fun q => S.zf1 (q ▸ hb)) e) (D2.frame _ _ _ hj2 fun b hb o e => up b o (fun q => S.zf2 (q ▸ hb)) e) hT₈ hz8 fun c o cz cT c1 c2 e => up c o cz (hkk c o cz cT c1 c2 e)
  · replace hs0' : Heap.SameBut z hp g0 := hs0'
    simp only [Bool.false_eq_true, if_false]
    refine wpAny_bind ?_
    rw [← Array.forIn_toList]
    simp only [List.forIn_cons, List.forIn_nil]
    refine wpAny_bind (wpAny_bind (wpAny_holding ?_))
    show wpAny _ _ (Builtin.SmallTypes.nextOf (.ref i1) >>= _) _ _ ⟨g0, g, d, tk0, os⟩
    refine wpAny_bind (D1.item i _ _ _ hlt1 (D1.over st1 hs0' S.zf1) fun x1 p1 tk1 hx1 sn1 hp1 => wpAny_pure ?_)
    replace hp1 : Heap.SameBut i1 g0 p1 := hp1
    refine wpAny_pure ?_
    refine wpAny_bind (wpAny_bind (wpAny_holding ?_))
    show wpAny _ _ (Builtin.SmallTypes.nextOf (.ref i2) >>= _) _ _ ⟨p1, g, d, tk1, os⟩
    refine wpAny_bind (D2.item i _ _ _ hlt2 (D2.over (D2.over st2 hs0' S.zf2) hp1 S.sep1_2) fun x2 p2 tk2 hx2 sn2 hp2 => wpAny_pure ?_)
    replace hp2 : Heap.SameBut i2 p1 p2 := hp2
    refine wpAny_pure (wpAny_pure ?_)
    show wpAny _ _ (newTuple [x1, x2] >>= _) _ _ ⟨p2, g, d, tk2, os⟩
    refine wpAny_bind (wpAny_newTuple ?_)
    have hsz : p2.objs.size = hp.objs.size := by rw [hp2.1, hp1.1, hs0'.1]
    have hz₃ : p2.get? z = some (ziObj s0 f' TI TO) := hp2.extBut _ _ S.zi2 (hp1.extBut _ _ S.zi1 hz0)
    have hk : ∀ c o, c ≠ z → c ≠ i1 → c ≠ i2 → hp.get? c = some o → p2.get? c = some o := fun c o c1 c2 c3 e => hp2.extBut _ _ c3 (hp1.extBut _ _ c2 (hs0'.extBut _ _ c1 e))
    have hj1 : St1 (i + 1) p2 := D1.over sn1 hp2 S.sep2_1
    refine wpAny_pure ⟨_, rfl, ?_⟩
    show Q (.ref p2.objs.size) ⟨p2.push { cls := .type "tuple", data := .seq #[x1, x2] }, g, d, tk2, os⟩
    have hpr : IsTupOf2 (p2.push { cls := .type "tuple", data := .seq #[x1, x2] }) p2.objs.size x1 x2 := Heap.get?_push_size _ rfl
    have hz4 : (p2.push { cls := .type "tuple", data := .seq #[x1, x2] }).objs.size = p2.objs.size + 1 := Heap.size_push ..
    rw [hsz] at hpr hz4 ⊢
    exact hQ x1 x2 _ tk2 hx1 hx2 ⟨_, _, hs0, Heap.get?_push_of_some _ hz₃⟩ ⟨_, _, Heap.get?_push_of_some _ (hk _ _ S.TOz S.Ti1 S.Ti2 hTO)⟩ (D1.frame _ _ _ hj1 fun b hb o e => Heap.get?_push_of_some _ e) (D2.frame _ _ _ sn2 fun b hb o e => Heap.get?_push_of_some _ e) hpr hz4
      fun c o c1 _ c2 c3 e => Heap.get?_push_of_some _ (hk c o c1 c2 c3 e)
theorem zi_end {Q : Fin → Shared → Prop} (S : ZipSep2 z TI TO i1 i2 fp1 fp2) (D1 : Draws prog w A i1 fp1 n1 P1 St1) (D2 : Draws prog w A i2 fp2 n2 P2 St2)
    (hz : ZiA s.heap z TI TO) (hTI : IsTupOf2 s.heap TI (.ref i1) (.ref i2)) (hTO : OutZ s.heap TO) (st1 : St1 i s.heap) (st2 : St2 i s.heap) (hle1 : i ≤ n1) (hle2 : i ≤ n2) (hend : i = n1 ∨ i = n2)
    (hE : ∀ h' tk e, (∀ c o, c ≠ z → c ≠ TO → c ≠ i1 → c ≠ i2 → s.heap.get? c = some o → h'.get? c = some o) → (∃ o, h'.get? e = some o ∧ o.cls = .type "StopIteration") → E (.ref e) { s with heap := h', toks := tk }) :
    wpAny (model prog w) A (Builtin.«zip.__next__» ⟨[.ref z], []⟩) Q E s := by
  obtain ⟨s0, f, hs0, hz⟩ := hz
  obtain ⟨a1, a2, hTO⟩ := hTO
  obtain ⟨hp, g, d, tk0, os⟩ := s
  show wpAny _ _ (field (.ref z) 2 >>= _) _ _ _
  refine wpAny_bind (wpAny_field hz rfl (x := .bool false) rfl ?_)
  show wpAny _ _ (field (.ref z) 3 >>= _) _ _ _
  refine wpAny_bind (wpAny_field hz rfl (x := .ref TI) rfl ?_)
  refine wpAny_bind (wpAny_seqItems hTI rfl ?_)
  show wpAny _ _ (Builtin.SmallTypes.ownedTupleIsFree (.ref z) >>= _) _ _ _
  refine wpAny_bind (free_zi (s := ⟨hp, g, d, tk0, os⟩) hz hs0 ?_ fun g0 f' hz0 hs0' => ?_)
  · simp only [if_true]
    refine wpAny_bind (wpAny_rule ?_)
    refine wpAny_bind (wpAny_field hz rfl (x := .ref TO) rfl ?_)
    refine wpAny_bind (wpAny_setField_rec hz (by simp) fun g0 hz0 hs0 => ?_)
    replace hz0 : g0.get? z = some (ziObj .ellipsis f TI TO) := hz0
    replace hs0 : Heap.SameBut z hp g0 := hs0
    refine wpAny_bind ?_
    simp only [List.zipIdx_cons, List.zipIdx_nil, List.forIn_cons, List.forIn_nil]
    refine wpAny_bind (wpAny_bind (wpAny_onRaise ?_))
    show wpAny _ _ (Builtin.SmallTypes.nextOf (.ref i1) >>= _) _ _ ⟨g0, g, d, tk0, os⟩
    by_cases hlt1 : i < n1
    · refine wpAny_bind (D1.item i _ _ _ hlt1 (D1.over st1 hs0 S.zf1) fun x1 p1 tk1 hx1 sn1 hp1 => wpAny_pure ?_)
      replace hp1 : Heap.SameBut i1 g0 p1 := hp1
      have hU1 : IsTupOf2 p1 TO a1 a2 := hp1.extBut _ _ S.Ti1 (hs0.extBut _ _ S.TOz hTO)
      refine wpAny_bind (wpAny_seqItems (s := ⟨p1, g, d, tk1, os⟩) hU1 rfl ?_)
      refine wpAny_bind (updateSeq_IsTupOf2 (s := ⟨p1, g, d, tk1, os⟩) hU1 fun g1 hT1 hs1 => ?_)
      replace hT1 : IsTupOf2 g1 TO x1 a2 := hT1
      replace hs1 : Heap.SameBut TO p1 g1 := hs1
      refine wpAny_bind (wpAny_letGo (wpAny_pure ?_))
      have hi2 : i = n2 := by omega
      refine wpAny_bind (wpAny_bind (wpAny_onRaise ?_))
      show wpAny _ _ (Builtin.SmallTypes.nextOf (.ref i2) >>= _) _ _ ⟨g1, g, d, tk1, os⟩
      refine wpAny_bind (D2.done ⟨g1, g, d, tk1, os⟩ _ _ (by rw [← hi2]; exact (D2.over (D2.over (D2.over st2 hs0 S.zf2) hp1 S.sep1_2) hs1 S.Tf2)) fun q e hq he => ?_)
      replace hq : Heap.ExtBut i2 g1 q := hq
      obtain ⟨oe, hoe, hce⟩ := he
      replace hoe : q.get? e = some oe := hoe
      have hzq : q.get? z = some (ziObj .ellipsis f TI TO) := hq _ _ S.zi2 (hs1.extBut _ _ S.TOz.symm (hp1.extBut _ _ S.zi1 hz0))
      have hez : e ≠ z := fun x => by subst x; rw [hzq] at hoe; cases hoe; simp at hce
      refine wpAny_setField_rec (s := ⟨q, g, d, tk1, os⟩) hzq (by simp) fun q' _ hq' => ?_
      replace hq' : Heap.SameBut z q q' := hq'
      exact hE q' tk1 e (fun c o cz cT c1 c2 x => hq'.extBut _ _ cz (hq _ _ c2 (hs1.extBut _ _ cT (hp1.extBut _ _ c1 (hs0.extBut _ _ cz x))))) ⟨oe, hq'.extBut _ _ hez hoe, hce⟩
    · have hi1 : i = n1 := by omega
      refine wpAny_bind (D1.done ⟨g0, g, d, tk0, os⟩ _ _ (by rw [← hi1]; exact (D1.over st1 hs0 S.zf1)) fun q e hq he => ?_)
      replace hq : Heap.ExtBut i1 g0 q := hq
      obtain ⟨oe, hoe, hce⟩ := he
      replace hoe : q.get? e = some oe := hoe
      have hzq : q.get? z = some (ziObj .ellipsis f TI TO) := hq _ _ S.zi1 hz0
      have hez : e ≠ z := fun x => by subst x; rw [hzq] at hoe; cases hoe; simp at hce
      refine wpAny_setField_rec (s := ⟨q, g, d, tk0, os⟩) hzq (by simp) fun q' _ hq' => ?_
      replace hq' : Heap.SameBut z q q' := hq'
      exact hE q' tk0 e (fun c o cz cT c1 c2 x => hq'.extBut _ _ cz (hq _ _ c1 (hs0.extBut _ _ cz x))) ⟨oe, hq'.extBut _ _ hez hoe, hce⟩
  · replace hs0' : Heap.SameBut z hp g0 := hs0'
    simp only [Bool.false_eq_true, if_false]
    refine wpAny_bind ?_
    rw [← Array.forIn_toList]
    simp only [List.forIn_cons, List.forIn_nil]
    refine wpAny_bind (wpAny_bind (wpAny_holding ?_))
    show wpAny _ _ (Builtin.SmallTypes.nextOf (.ref i1) >>= _) _ _ ⟨g0, g, d, tk0, os⟩
    by_cases hlt1 : i < n1
    · refine wpAny_bind (D1.item i _ _ _ hlt1 (D1.over st1 hs0' S.zf1) fun x1 p1 tk1 hx1 sn1 hp1 => wpAny_pure ?_)
      replace hp1 : Heap.SameBut i1 g0 p1 := hp1
      refine wpAny_pure ?_
      have hi2 : i = n2 := by omega
      refine wpAny_bind (wpAny_bind (wpAny_holding ?_))
      show wpAny _ _ (Builtin.SmallTypes.nextOf (.ref i2) >>= _) _ _ ⟨p1, g, d, tk1, os⟩
      refine wpAny_bind (D2.done ⟨p1, g, d, tk1, os⟩ _ _ (by rw [← hi2]; exact D2.over (D2.over st2 hs0' S.zf2) hp1 S.sep1_2) fun q e hq he => ?_)
      replace hq : Heap.ExtBut i2 p1 q := hq
      exact hE q tk1 e (fun c o c1 _ c2 c3 x => hq _ _ c3 (hp1.extBut _ _ c2 (hs0'.extBut _ _ c1 x))) he
    · have hi1 : i = n1 := by omega
      refine wpAny_bind (D1.done ⟨g0, g, d, tk0, os⟩ _ _ (by rw [← hi1]; exact D1.over st1 hs0' S.zf1) fun q e hq he => ?_)
      replace hq : Heap.ExtBut i1 g0 q := hq
      exact hE q tk0 e (fun c o c1 _ c2 _ x => hq _ _ c2 (hs0'.extBut _ _ c1 x)) he
theorem zi_pyNext_item {Q : Option Value → Shared → Prop} (S : ZipSep2 z TI TO i1 i2 fp1 fp2) (D1 : Draws prog w A.in1 i1 fp1 n1 P1 St1) (D2 : Draws prog w A.in1 i2 fp2 n2 P2 St2)
    (hz : ZiA s.heap z TI TO) (hTI : IsTupOf2 s.heap TI (.ref i1) (.ref i2)) (hTO : OutZ s.heap TO) (st1 : St1 i s.heap) (st2 : St2 i s.heap) (hlt1 : i < n1) (hlt2 : i < n2)
    (hQ : ∀ x1 x2 h' tk, P1 i x1 → P2 i x2 → ZiA h' z TI TO → OutZ h' TO → St1 (i + 1) h' → St2 (i + 1) h' → IsTupOf2 h' s.heap.objs.size x1 x2 → h'.objs.size = s.heap.objs.size + 1 →
      (∀ c o, c ≠ z → c ≠ TO → c ≠ i1 → c ≠ i2 → s.heap.get? c = some o → h'.get? c = some o) → Q (some (.ref s.heap.objs.size)) { s with heap := h', toks := tk }) :
    wpAny (model prog w) A (pyNext (.ref z)) Q E s := by
  have hT : s.TypeIs (.ref z) "zip" := by obtain ⟨_, _, _, q⟩ := hz; exact ⟨_, q, rfl⟩
  unfold pyNext
  exact wpAny_bind (wpAny_attempt (wpAny_callSpecial?_slot (name := Str.ofString "__next__") hT F.slot_zip_next
    (wpAny_call_entry F.slot_zip_next hT F.entry_zip_next
      (zi_item S D1 D2 hz hTI hTO st1 st2 hlt1 hlt2 fun x1 x2 h' tk y1 y2 b1 b2 d1 d2 b5 b6 b7 => wpAny_pure (hQ x1 x2 h' tk y1 y2 b1 b2 d1 d2 b5 b6 b7)) (F.args_zip_next_1 _))))
theorem zi_pyNext_end {Q : Option Value → Shared → Prop} (S : ZipSep2 z TI TO i1 i2 fp1 fp2) (D1 : Draws prog w A.in1 i1 fp1 n1 P1 St1) (D2 : Draws prog w A.in1 i2 fp2 n2 P2 St2)
    (hz : ZiA s.heap z TI TO) (hTI : IsTupOf2 s.heap TI (.ref i1) (.ref i2)) (hTO : OutZ s.heap TO) (st1 : St1 i s.heap) (st2 : St2 i s.heap) (hle1 : i ≤ n1) (hle2 : i ≤ n2) (hend : i = n1 ∨ i = n2)
    (hQ : ∀ h' tk, (∀ c o, c ≠ z → c ≠ TO → c ≠ i1 → c ≠ i2 → s.heap.get? c = some o → h'.get? c = some o) → Q none { s with heap := h', toks := tk }) : wpAny (model prog w) A (pyNext (.ref z)) Q E s := by
  have hT : s.TypeIs (.ref z) "zip" := by obtain ⟨_, _, _, q⟩ := hz; exact ⟨_, q, rfl⟩
  unfold pyNext
  refine wpAny_bind (wpAny_attempt (wpAny_callSpecial?_slot (name := Str.ofString "__next__") hT F.slot_zip_next
    (wpAny_call_entry F.slot_zip_next hT F.entry_zip_next (zi_end S D1 D2 hz hTI hTO st1 st2 hle1 hle2 hend fun h' tk e hk he => ?_) (F.args_zip_next_1 _))))
  obtain ⟨o, ho, hc⟩ := he
  refine wpAny_bind (wpAny_isInstance (T := "StopIteration") (b := true) ⟨o, ho, hc⟩ isSubtype_stop ?_)
  exact wpAny_pure (hQ _ _ hk)
theorem zi_go {tg : Expr} {u : Value} {Q : Unit → Shared → Prop} (he : ZiA s.heap z TI TO)
    (hQ : ∀ h', ZiA h' z TI TO → Heap.SameBut z s.heap h' → Q () { s with heap := h' }) : wpAny (model prog w) A (letOwnedTupleGo tg (.ref z) u) Q E s := by
  have hk : Q () s := hQ s.heap he (Heap.SameBut.refl _ _)
  obtain ⟨s0, f, hs0, he⟩ := he
  have go : ∀ a : Addr, wpAny (model prog w) A (do
      let o ← load z
      match o.cls, o.data with
      | .type n, .fields vs =>
        if ["enumerate", "zip", "dict_itemiterator", "dict_reverseitemiterator", "odict_iterator", "itertools.zip_longest", "itertools.pairwise"].contains n && vs[0]? == some (rawInt a) then
          rule "for.unpacks-the-owned-tuple"
          updateField z 0 .none
      | _, _ => pure ()) Q E s := by
    intro a
    refine wpAny_bind (wpAny_load he ?_)
    show wpAny _ A (if (_ && (some s0 == some (rawInt a))) = true then _ else _) Q E s
    split
    · refine wpAny_bind (wpAny_rule ?_)
      show wpAny _ A (setField (.ref z) 0 .none) Q E s
      exact wpAny_setField_rec he (by simp) fun h' he' hs' => hQ h' ⟨_, _, .inl rfl, he'⟩ hs'
    · exact wpAny_pure hk
  unfold letOwnedTupleGo
  cases tg <;> first | exact wpAny_pure hk | (cases u <;> first | exact wpAny_pure hk | exact go _)
/-- the zip as an iterator that another one draws from -/
theorem Dr.zi (S : ZipSep2 z TI TO i1 i2 fp1 fp2) (hTI1 : TI ∉ fp1) (hTI2 : TI ∉ fp2) (D1 : Draws prog w A.in1 i1 fp1 n1 P1 St1) (D2 : Draws prog w A.in1 i2 fp2 n2 P2 St2) :
    Dr prog w A z (z :: TI :: TO :: (fp1 ++ fp2)) [z, TO, i1, i2] (min n1 n2) (fun i x N Z h => ∃ T x1 x2, x = .ref T ∧ N ≤ T ∧ T < Z ∧ P1 i x1 ∧ P2 i x2 ∧ IsTupOf2 h T x1 x2)
      (fun i h => i ≤ min n1 n2 ∧ ZiA h z TI TO ∧ IsTupOf2 h TI (.ref i1) (.ref i2) ∧ OutZ h TO ∧ St1 i h ∧ St2 i h) where
  sub := fun c hc => by
    have hc' : c = z ∨ c = TO ∨ c = i1 ∨ c = i2 := by simpa using hc
    rcases hc' with rfl | rfl | rfl | rfl
    · simp
    · simp
    · have := S.mem1; simp [this]
    · have := S.mem2; simp [this]
  mem := by simp
  live := fun i h st c hc => by
    obtain ⟨_, ⟨_, _, _, hz⟩, hTI, ⟨_, _, hTO⟩, s1, s2⟩ := st
    have hc' : c = z ∨ c = TO ∨ c = i1 ∨ c = i2 := by simpa using hc
    rcases hc' with rfl | rfl | rfl | rfl
    · exact ⟨_, hz⟩
    · exact ⟨_, hTO⟩
    · exact D1.live _ _ s1
    · exact D2.live _ _ s2
  frame := fun i h h' st k => by
    obtain ⟨hi, ⟨_, _, h0, hz⟩, hTI, ⟨_, _, hTO⟩, s1, s2⟩ := st
    exact ⟨hi, ⟨_, _, h0, k z (by simp) _ hz⟩, k TI (by simp) _ hTI, ⟨_, _, k TO (by simp) _ hTO⟩, D1.frame _ _ _ s1 fun b hb o e => k b (by simp [hb]) o e, D2.frame _ _ _ s2 fun b hb o e => k b (by simp [hb]) o e⟩
  grow := fun i x N Z h h' p k => by
    obtain ⟨T, x1, x2, rfl, hN, hZ, p1, p2, hT⟩ := p
    exact ⟨T, x1, x2, rfl, hN, hZ, p1, p2, k T _ hN hT⟩
  item := fun i s Q E hi st hQ => by
    obtain ⟨hle, hz, hTI, hTO, s1, s2⟩ := st
    have hT : s.TypeIs (.ref z) "zip" := by obtain ⟨_, _, _, q⟩ := hz; exact ⟨_, q, rfl⟩
    unfold Builtin.SmallTypes.nextOf
    refine wpAny_bind (wpAny_callSpecial?_slot (name := Str.ofString "__next__") hT F.slot_zip_next (wpAny_call_entry F.slot_zip_next hT F.entry_zip_next
      (zi_item S D1 D2 hz hTI hTO s1 s2 (by omega) (by omega) fun x1 x2 h' tk y1 y2 b1 b2 d1 d2 b5 b6 b7 => ?_) (F.args_zip_next_1 _)))
    refine wpAny_pure (hQ _ h' tk ⟨s.heap.objs.size, x1, x2, rfl, Nat.le_refl _, by rw [b6]; exact Nat.lt_succ_self _, y1, y2, b5⟩ ⟨by omega, b1, b7 _ _ S.TIz S.TITO S.TIi1 S.TIi2 hTI, b2, d1, d2⟩ (by rw [b6]; exact Nat.le_succ _) fun b o hb q => ?_)
    exact b7 b o (fun e => hb (by simp [e])) (fun e => hb (by simp [e])) (fun e => hb (by simp [e])) (fun e => hb (by simp [e])) q
  done := fun s Q E st hE => by
    obtain ⟨hle, hz, hTI, hTO, s1, s2⟩ := st
    have hT : s.TypeIs (.ref z) "zip" := by obtain ⟨_, _, _, q⟩ := hz; exact ⟨_, q, rfl⟩
    unfold Builtin.SmallTypes.nextOf
    refine wpAny_bind (wpAny_callSpecial?_slot (name := Str.ofString "__next__") hT F.slot_zip_next (wpAny_call_entry F.slot_zip_next hT F.entry_zip_next
      (zi_end S D1 D2 hz hTI hTO s1 s2 (by omega) (by omega) (by omega) fun h' tk e hk he => ?_) (F.args_zip_next_1 _)))
    exact hE h' tk e (fun b o hb q => hk b o (fun e => hb (by simp [e])) (fun e => hb (by simp [e])) (fun e => hb (by simp [e])) (fun e => hb (by simp [e])) q) he
end
end DL
set_option Elab.async false
set_option linter.all false
set_option maxRecDepth 100000
set_option maxHeartbeats 1000000
namespace DL
open PySem PySem.Spec PyProof.Rows L2
theorem turnedMany {X : Cx} {pins : List (Addr × Obj)} {σ : L2.St} {H H' : Hp} {s : Shared} {h' : Heap} {t' : Nat} {ch : List Addr} (I : Inv X pins σ H s) (k : ∀ b o, b ∉ ch → s.heap.get? b = some o → h'.get? b = some o) (hf : ∀ b ∈ ch, FpOk X pins H b)
    (old : ∀ b, b < s.heap.objs.size → H' b = H b) (sub : ∀ b u, H b = some u → H' b = some u) (new : ∀ b u, H' b = some u → H b = some u ∨ ObjOk X.prog X.w H' h' b u) : Inv X pins σ H' { s with heap := h', toks := t' } := by
  have nit : ∀ b u, H b = some u → b ∉ ch := fun b u e z => by
    have q := (hf b z).1
    rw [q] at e; cases e
  refine I.step (g' := s.gens) (d' := s.drawn) (ch := ch) (fun b hb => ⟨(hf b hb).2.2.2.1, (hf b hb).2.1, (hf b hb).2.2.2.2.1, (hf b hb).2.2.2.2.2⟩) (fun b o _ _ hc e _ => k b o hc e) (fun b o _ _ hc e _ => ⟨o.slots, k b o hc e⟩)
    (fun b o _ e n => ?_) (fun b o hc e => ⟨o, k b o hc e⟩) (fun b xs e => sub _ _ e) (fun b o u e => sub _ _ e) (fun b ps e => ⟨#[], ?_⟩) (fun m hm => ?_) (fun b u e => ?_) I.bare
  · rw [old b (Heap.lt_size e)]; exact n
  · rw [sub _ _ e]; simp
  · obtain ⟨o, es, ep, ho, r⟩ := hm
    exact ⟨o, es, ep, k _ o (fun z => (hf _ z).2.1 rfl) ho, r⟩
  · rcases new b u e with e' | n
    · refine (I.hok b u e').stay (fun c v hc q => k c v ?_ q) (fun c q => sub _ _ q) fun c xs q => sub _ _ q
      rcases hc with z | z
      · rw [z]; exact nit b u e'
      · exact nit c _ z
    · exact n
theorem vals_rev : ∀ {xs : List V} {us : List Value} {i : Nat} {u : Value}, Vals xs us → us[i]? = some u → ∃ x, xs[i]? = some x ∧ RelV x u
  | _, _, _, _, .nil, e => by simp at e
  | _, _, 0, _, .cons r _, e => by simp at e; subst e; exact ⟨_, rfl, r⟩
  | _, _, i + 1, u, .cons _ t, e => by
    obtain ⟨x, h1, h2⟩ := vals_rev (i := i) (u := u) t (by simpa using e)
    exact ⟨x, by simpa using h1, h2⟩
theorem iter_en {prog : Program} {w : World} {A : Around} {E : Value → Shared → Prop} {s : Shared} {e it : Addr} {i : Int} {Q : Value → Shared → Prop} (he : EnA s.heap e it i) (h : Q (.ref e) s) : wpAny (model prog w) A (pyIter (.ref e)) Q E s := by
  obtain ⟨_, _, _, _, q⟩ := he
  have hT : s.TypeIs (.ref e) "enumerate" := ⟨_, q, rfl⟩
  refine wpAny_pyIter_slot hT F.slot_enumerate_iter (wpAny_call_entry F.slot_enumerate_iter hT F.entry_enumerate_iter ?_ (F.args_enumerate_iter_1 _))
  show wpAny _ _ (ret (.ref e)) _ _ s
  exact wpAny_pure ⟨_, rfl, "enumerate", _, hT, F.slot_enumerate_next.lookup, h⟩
theorem iter_zi {prog : Program} {w : World} {A : Around} {E : Value → Shared → Prop} {s : Shared} {z TI TO : Addr} {Q : Value → Shared → Prop} (hz : ZiA s.heap z TI TO) (h : Q (.ref z) s) : wpAny (model prog w) A (pyIter (.ref z)) Q E s := by
  obtain ⟨_, _, _, q⟩ := hz
  have hT : s.TypeIs (.ref z) "zip" := ⟨_, q, rfl⟩
  refine wpAny_pyIter_slot hT F.slot_zip_iter (wpAny_call_entry F.slot_zip_iter hT F.entry_zip_iter ?_ (F.args_zip_iter_1 _))
  show wpAny _ _ (ret (.ref z)) _ _ s
  exact wpAny_pure ⟨_, rfl, "zip", _, hT, F.slot_zip_next.lookup, h⟩
/-- what each draw does, with the store known -/
structure Pull (P : Program) (w : World) (K : PySem.W.Frag) (J : It) (fp : List Addr) (it : Addr) (tn : Nat → Heap → Prop) : Prop where
  mem : it ∈ fp
  obj : ∀ i h, tn i h → ∀ b ∈ fp, ∃ o, h.get? b = some o ∧ ∀ v, o.data ≠ .cell v
  keep : ∀ i h h', tn i h → (∀ b ∈ fp, ∀ o, h.get? b = some o → h'.get? b = some o) → tn i h'
  item : ∀ (X : Cx), X.prog = P → X.w = w → X.K = K → ∀ (A : Around), A.handled = none → ∀ (i : Nat) (pins : List (Addr × Obj)) (s : Shared) (σ : L2.St) (H : Hp) (E : Value → Shared → Prop), Inv X pins σ H s → (∀ b ∈ fp, FpOk X pins H b) → tn i s.heap → J.go i H →
    wpAny (model P w) A (pyNext (.ref it)) (fun r s1 => ∃ u, r = some u ∧ ∃ x H', Inv X pins σ H' s1 ∧ RelV x u ∧ J.yld i H x H' ∧ tn (i + 1) s1.heap ∧ ∀ b ∈ fp, H' b = none) E s
  done : ∀ (X : Cx), X.prog = P → X.w = w → X.K = K → ∀ (A : Around), A.handled = none → ∀ (i : Nat) (pins : List (Addr × Obj)) (s : Shared) (σ : L2.St) (H : Hp) (E : Value → Shared → Prop), Inv X pins σ H s → (∀ b ∈ fp, FpOk X pins H b) → tn i s.heap → J.stop i H →
    wpAny (model P w) A (pyNext (.ref it)) (fun r s1 => r = none ∧ Inv X pins σ H s1) E s
theorem turn_of {P : Program} {w : World} {K : PySem.W.Frag} {tg : Expr} {J : It} {fp : List Addr} {it : Addr} {tn : Nat → Heap → Prop} (p : Pull P w K J fp it tn)
    (go : ∀ (A : Around) (i : Nat) (s : Shared) (u : Value) (Q : Unit → Shared → Prop) (E : Value → Shared → Prop), tn i s.heap → (∀ h', tn i h' → Heap.SameBut it s.heap h' → Q () { s with heap := h' }) → wpAny (model P w) A (letOwnedTupleGo tg (.ref it) u) Q E s)
    (self : ∀ (A : Around) (i : Nat) (s : Shared) (Q : Value → Shared → Prop) (E : Value → Shared → Prop), tn i s.heap → Q (.ref it) s → wpAny (model P w) A (pyIter (.ref it)) Q E s) : Turn P w K tg J fp it tn where
  mem := p.mem
  obj := p.obj
  keep := p.keep
  item := by
    intro X hP hw hK hc i pins s σ H E I hf st hg
    refine thn (p.item X hP hw hK X.A (I.ok.hd hc) i pins s σ H E I hf st hg) fun r s1 ⟨u, hr, x, H', I', rel, y, st', fn⟩ => ⟨u, hr, go _ _ _ _ _ _ st' fun h' st2 sb => ⟨x, H', ?_, rel, y, st2, fn⟩⟩
    exact I'.turnedL (t' := s1.toks) (ch := [it]) (fun b o hb q => (sb.2 b (fun z => hb (by simp [z]))).trans q) fun b hb => by rw [List.mem_singleton.mp hb]; exact ⟨fn it p.mem, (hf it p.mem).2⟩
  done := fun X hP hw hK hc i pins s σ H E I hf st hg => p.done X hP hw hK X.A (I.ok.hd hc) i pins s σ H E I hf st hg
  self := self
inductive Sq | lst (a : Addr) | tup (a : Addr) | str (z : Str)
namespace Sq
def v : Sq → V
  | lst a => .ref a
  | tup a => .ref a
  | str z => .str z
def val (t : Tok) : Sq → Value
  | lst a => .ref a
  | tup a => .ref a
  | str z => .str z t
def its (K : PySem.W.Frag) (H : Hp) (xs : List V) : Sq → Prop
  | lst a => SqL K H a xs
  | tup a => SqT K H a xs
  | str z => xs = z.cps.toList.map fun c => V.str ⟨#[c]⟩
def st (t : Tok) (it : Addr) (i : Nat) (h : Heap) : Sq → Prop
  | lst a => h.IsListIter it a i
  | tup a => h.IsTupleIter it a i
  | str z => h.IsStrIter it (strIterType z) z t i
def addr : Sq → List Addr
  | lst a => [a]
  | tup a => [a]
  | str z => []
theorem rel {S : Sq} {u : Value} (r : RelV S.v u) : ∃ t, u = S.val t := by
  cases S with
  | lst a => exact ⟨0, r⟩
  | tup a => exact ⟨0, r⟩
  | str z => exact r
theorem inj {X : Cx} {pins : List (Addr × Obj)} {σ : L2.St} {H : Hp} {s : Shared} (I : Inv X pins σ H s) {S : Sq} {xs ys : List V} (h : S.its X.K H xs) (h' : S.its X.K H ys) : xs = ys := by
  cases S with
  | lst a => exact I.list_inj h h'
  | tup a => exact I.tuple_inj h h'
  | str z => exact (show xs = _ from h).trans (show ys = _ from h').symm
theorem stLive {S : Sq} {t : Tok} {it : Addr} {i : Nat} {h : Heap} (q : S.st t it i h) : ∃ o, h.get? it = some o ∧ ∃ vs, o.data = .fields vs := by
  cases S with
  | lst a => obtain ⟨o, e, _, d⟩ := q; exact ⟨o, e, _, d⟩
  | tup a => obtain ⟨o, e, _, d⟩ := q; exact ⟨o, e, _, d⟩
  | str z => obtain ⟨o, e, _, d⟩ := q; exact ⟨o, e, _, d⟩
theorem stAt {S : Sq} {t : Tok} {it : Addr} {i : Nat} {h h' : Heap} (q : S.st t it i h) (k : ∀ o, h.get? it = some o → h'.get? it = some o) : S.st t it i h' := by
  cases S with
  | lst a => obtain ⟨o, e, r⟩ := q; exact ⟨o, k o e, r⟩
  | tup a => obtain ⟨o, e, r⟩ := q; exact ⟨o, k o e, r⟩
  | str z => obtain ⟨o, e, r⟩ := q; exact ⟨o, k o e, r⟩
/-- the draws of its iterator, as things stand -/
theorem draws {X : Cx} {pins : List (Addr × Obj)} {σ : L2.St} {H : Hp} {s : Shared} (I : Inv X pins σ H s) {S : Sq} {xs : List V} (h : S.its X.K H xs) {t : Tok} {it : Addr} (hn : it ∉ S.addr) (A : Around) (hh : A.handled = none) :
    ∃ (fp : List Addr) (P : Nat → Value → Prop) (St : Nat → Heap → Prop), Draws X.prog X.w A it (it :: fp) xs.length P St ∧ (∀ b ∈ fp, b ∈ S.addr) ∧ (∀ i, S.st t it i s.heap → St i s.heap) ∧ (∀ i h, St i h → S.st t it i h) ∧ ∀ i u, P i u → ∃ x, xs[i]? = some x ∧ RelV x u := by
  cases S with
  | lst a =>
    obtain ⟨its, rv, p, hz⟩ := I.list h
    have e : its.toArray.size = xs.length := by rw [List.size_toArray, rv.length]
    refine ⟨[a], _, _, e ▸ Draws.list hh it a (fun q => hn (by rw [q]; exact List.mem_singleton_self _)) its.toArray, fun b hb => hb, fun i q => ⟨q, p.isList⟩, fun i h q => q.1, fun i u q => ?_⟩
    exact vals_rev rv (by simpa using q)
  | tup a =>
    obtain ⟨its, rv, p, hz⟩ := I.tuple h
    have e : its.toArray.size = xs.length := by rw [List.size_toArray, rv.length]
    refine ⟨[a], _, _, e ▸ Draws.tuple hh it a (fun q => hn (by rw [q]; exact List.mem_singleton_self _)) its.toArray, fun b hb => hb, fun i q => ⟨q, p⟩, fun i h q => q.1, fun i u q => ?_⟩
    exact vals_rev rv (by simpa using q)
  | str z =>
    have h' : xs = z.cps.toList.map fun c => V.str ⟨#[c]⟩ := h
    subst h'
    have e : z.cps.size = (z.cps.toList.map fun c => V.str ⟨#[c]⟩).length := by simp
    refine ⟨[], _, _, e ▸ Draws.text hh it z t, fun b hb => hb, fun i q => q, fun i h q => q, fun i u q => ?_⟩
    obtain ⟨c, u, hc, rfl⟩ := q
    exact ⟨.str ⟨#[c]⟩, by simp [hc], u, rfl⟩
def obj (t : Tok) : Sq → Obj
  | lst a => { cls := .type "list_iterator", data := .fields #[.ref a, .int 0 0] }
  | tup a => { cls := .type "tuple_iterator", data := .fields #[.ref a, .int 0 0] }
  | str z => { cls := .type (strIterType z), data := .fields #[.str z t, .int 0 0] }
theorem begins {X : Cx} {pins : List (Addr × Obj)} {σ : L2.St} {H : Hp} {s : Shared} (I : Inv X pins σ H s) {S : Sq} {xs : List V} (h : S.its X.K H xs) (t : Tok) : ∃ Hp, Begins (S.val t) (S.obj t) Hp ∧ Hp s.heap := by
  cases S with
  | lst a =>
    obtain ⟨its, rv, p, hz⟩ := I.list h
    exact ⟨_, begins_list a its.toArray, p.isList⟩
  | tup a =>
    obtain ⟨its, rv, p, hz⟩ := I.tuple h
    exact ⟨_, begins_tuple a its.toArray, p⟩
  | str z => exact ⟨_, begins_text z t, trivial⟩
theorem st0 {S : Sq} {t : Tok} {it : Addr} {h : Heap} (e : h.get? it = some (S.obj t)) : S.st t it 0 h := by
  cases S with
  | lst a => exact ⟨_, e, rfl, rfl⟩
  | tup a => exact ⟨_, e, rfl, rfl⟩
  | str z => exact ⟨_, e, rfl, rfl⟩
theorem addr_lt {X : Cx} {pins : List (Addr × Obj)} {σ : L2.St} {H : Hp} {s : Shared} (I : Inv X pins σ H s) {S : Sq} {xs : List V} (h : S.its X.K H xs) : ∀ b ∈ S.addr, b < s.heap.objs.size := by
  cases S with
  | lst a =>
    obtain ⟨its, rv, ⟨o, n, e, _⟩, hz⟩ := I.list h
    intro b hb
    rw [List.mem_singleton.mp hb]
    exact Heap.lt_size e
  | tup a =>
    obtain ⟨its, rv, ⟨o, e, _⟩, hz⟩ := I.tuple h
    intro b hb
    rw [List.mem_singleton.mp hb]
    exact Heap.lt_size e
  | str z => intro b hb; cases hb
end Sq
theorem tup_ok {P : Program} {w : World} {H : Hp} {h : Heap} {T : Addr} {xs : List V} {us : List Value} (hl : xs.length ≤ sizeLine) (r : Vals xs us) (hT : h.get? T = some { cls := .type "tuple", data := .seq us.toArray }) : ObjOk P w H h T (.tup xs) :=
  ⟨hl, us, r, ⟨_, hT, rfl, _, rfl⟩⟩

def Jen (K : PySem.W.Frag) (S : Sq) (n : Nat) : It :=
  ⟨fun i H => i < n ∧ ∃ xs, S.its K H xs ∧ xs.length = n, fun i H v H' => ∃ T x, v = .ref T ∧ H T = none ∧ H' = upd H T (.tup [.int (i : Nat), x]) ∧ ∀ xs, S.its K H xs → xs[i]? = some x, fun i H => n ≤ i ∧ ∃ xs, S.its K H xs ∧ xs.length = n⟩
theorem pull_en {P : Program} {w : World} {K : PySem.W.Frag} (S : Sq) (t : Tok) (e it : Addr) (n : Nat) (hne : e ≠ it) (h1 : e ∉ S.addr) (h2 : it ∉ S.addr) :
    Pull P w K (Jen K S n) [e, it] e (fun i h => i ≤ n ∧ EnA h e it (i : Nat) ∧ S.st t it i h) where
  mem := by simp
  obj := fun i h st b hb => by
    obtain ⟨_, ⟨_, _, _, _, he⟩, hs⟩ := st
    have e' : b = e ∨ b = it := by simpa using hb
    rcases e' with z | z
    · rw [z]; exact ⟨_, he, fun v q => nomatch q⟩
    · rw [z]
      obtain ⟨o, ho, vs, hd⟩ := Sq.stLive hs
      exact ⟨o, ho, fun v q => by rw [hd] at q; cases q⟩
  keep := fun i h h' st k => by
    obtain ⟨hi, ⟨s0, f, old, h0, he⟩, hs⟩ := st
    exact ⟨hi, ⟨s0, f, old, h0, k e (by simp) _ he⟩, Sq.stAt hs fun o q => k it (by simp) o q⟩
  item := by
    intro X hP hw hK A hh i pins s σ H E I hf st hg
    subst hP hw hK
    obtain ⟨hle, hen, hs⟩ := st
    obtain ⟨hi, xs, hq, hl⟩ := hg
    obtain ⟨fp, Pv, St, D, hfp, up, down, val⟩ := Sq.draws I hq (t := t) h2 A.in1 hh
    refine en_pyNext_item (Dr.of D (by simp)) hen (up i hs) (by omega) (fun q => ?_) fun x h' tk T t' Z p hN hZ hT hen' hs' hTup hk => ?_
    · rcases List.mem_cons.mp q with q | q
      · exact hne q
      · exact h1 (hfp _ q)
    · obtain ⟨xv, hx, rx⟩ := val i x p
      have hTl : s.heap.objs.size ≤ T := Nat.le_trans hN hZ
      have hel : e < s.heap.objs.size := by obtain ⟨_, _, _, _, q⟩ := hen; exact Heap.lt_size q
      have hil : it < s.heap.objs.size := by obtain ⟨o, q, _⟩ := Sq.stLive hs; exact Heap.lt_size q
      have I1 : Inv X pins σ (upd H T (.tup [.int (i : Nat), xv])) { s with heap := h', toks := tk } :=
        I.turnedNew (ch := [e, it]) (fun b ob hb q => hk b ob (fun z => hb (by simp [z])) (fun z => hb (by simp at z; simp [z])) q) hf hTl (tup_ok (by show 2 ≤ sizeLine; decide) (.cons ⟨_, rfl⟩ (.cons rx .nil)) hTup)
      refine ⟨_, rfl, .ref T, _, I1, rfl, ⟨T, xv, rfl, I.hok.fresh hTl, rfl, fun ys hy => by rw [Sq.inj I hy hq]; exact hx⟩, ⟨by omega, hen', down _ _ hs'⟩, fun b hb => ?_⟩
      have hb' : b < s.heap.objs.size := by
        have e' : b = e ∨ b = it := by simpa using hb
        rcases e' with z | z
        · rw [z]; exact hel
        · rw [z]; exact hil
      rw [upd_ne (Nat.ne_of_lt (Nat.lt_of_lt_of_le hb' hTl))]
      exact (hf b hb).1
  done := by
    intro X hP hw hK A hh i pins s σ H E I hf st hg
    subst hP hw hK
    obtain ⟨hle, hen, hs⟩ := st
    obtain ⟨hi, xs, hq, hl⟩ := hg
    obtain ⟨fp, Pv, St, D, hfp, up, down, val⟩ := Sq.draws I hq (t := t) h2 A.in1 hh
    have e1 : i = xs.length := by omega
    exact en_pyNext_end (Dr.of D (by simp)) hen (by rw [← e1]; exact up i hs) fun h' tk k => ⟨rfl, I.turnedL (ch := [e, it]) (fun b o hb q => k b o (fun z => hb (by simp at z; simp [z])) q) hf⟩
theorem turn_en {P : Program} {w : World} {K : PySem.W.Frag} {tg : Expr} (S : Sq) (t : Tok) (e it : Addr) (n : Nat) (hne : e ≠ it) (h1 : e ∉ S.addr) (h2 : it ∉ S.addr) :
    Turn P w K tg (Jen K S n) [e, it] e (fun i h => i ≤ n ∧ EnA h e it (i : Nat) ∧ S.st t it i h) :=
  turn_of (pull_en S t e it n hne h1 h2) (fun A i s u Q E st hQ => en_go st.2.1 fun h' q sb => hQ h' ⟨st.1, q, Sq.stAt st.2.2 fun o q => (sb.2 it (Ne.symm hne)).trans q⟩ sb) fun A i s Q E st h => iter_en st.2.1 h

def Jzi (K : PySem.W.Frag) (S1 S2 : Sq) (n1 n2 : Nat) : It :=
  ⟨fun i H => i < min n1 n2 ∧ ∃ xs ys, S1.its K H xs ∧ xs.length = n1 ∧ S2.its K H ys ∧ ys.length = n2, fun i H v H' => ∃ T x y, v = .ref T ∧ H T = none ∧ H' = upd H T (.tup [x, y]) ∧ (∀ xs, S1.its K H xs → xs[i]? = some x) ∧ ∀ ys, S2.its K H ys → ys[i]? = some y,
    fun i H => min n1 n2 ≤ i ∧ ∃ xs ys, S1.its K H xs ∧ xs.length = n1 ∧ S2.its K H ys ∧ ys.length = n2⟩
/-- the cells of a zip: apart, and apart from what it goes over -/
structure ZiAp (S1 S2 : Sq) (z TI TO i1 i2 : Addr) : Prop where
  TIz : TI ≠ z
  TOz : TO ≠ z
  TITO : TI ≠ TO
  TIi1 : TI ≠ i1
  TIi2 : TI ≠ i2
  zi1 : z ≠ i1
  zi2 : z ≠ i2
  TOi1 : TO ≠ i1
  TOi2 : TO ≠ i2
  i12 : i1 ≠ i2
  out : ∀ b, b ∈ S1.addr ∨ b ∈ S2.addr → b ≠ z ∧ b ≠ TI ∧ b ≠ TO ∧ b ≠ i1 ∧ b ≠ i2
section
variable {S1 S2 : Sq} {z TI TO i1 i2 : Addr}
theorem ZiAp.sep (D : ZiAp S1 S2 z TI TO i1 i2) {fp1 fp2 : List Addr} (h1 : ∀ b ∈ fp1, b ∈ S1.addr) (h2 : ∀ b ∈ fp2, b ∈ S2.addr) : ZipSep2 z TI TO i1 i2 (i1 :: fp1) (i2 :: fp2) := by
  have o1 : ∀ b ∈ fp1, b ≠ z ∧ b ≠ TI ∧ b ≠ TO ∧ b ≠ i1 ∧ b ≠ i2 := fun b hb => D.out b (.inl (h1 b hb))
  have o2 : ∀ b ∈ fp2, b ≠ z ∧ b ≠ TI ∧ b ≠ TO ∧ b ≠ i1 ∧ b ≠ i2 := fun b hb => D.out b (.inr (h2 b hb))
  refine ⟨D.TIz, D.TOz, D.TITO, D.TIi1, List.mem_cons_self, ?_, ?_, D.TIi2, List.mem_cons_self, ?_, ?_, ?_, ?_⟩
  · intro q; rcases List.mem_cons.mp q with q | q
    · exact D.zi1 q
    · exact (o1 _ q).1 rfl
  · intro q; rcases List.mem_cons.mp q with q | q
    · exact D.TOi1 q
    · exact (o1 _ q).2.2.1 rfl
  · intro q; rcases List.mem_cons.mp q with q | q
    · exact D.zi2 q
    · exact (o2 _ q).1 rfl
  · intro q; rcases List.mem_cons.mp q with q | q
    · exact D.TOi2 q
    · exact (o2 _ q).2.2.1 rfl
  · intro q; rcases List.mem_cons.mp q with q | q
    · exact D.i12 q
    · exact (o2 _ q).2.2.2.1 rfl
  · intro q; rcases List.mem_cons.mp q with q | q
    · exact D.i12 q.symm
    · exact (o1 _ q).2.2.2.2 rfl
def ZiSt (S1 S2 : Sq) (t1 t2 : Tok) (z TI TO i1 i2 : Addr) (i : Nat) (h : Heap) : Prop := ZiA h z TI TO ∧ IsTupOf2 h TI (.ref i1) (.ref i2) ∧ OutZ h TO ∧ S1.st t1 i1 i h ∧ S2.st t2 i2 i h
theorem ZiSt.keep {t1 t2 : Tok} {i : Nat} {h h' : Heap} (st : ZiSt S1 S2 t1 t2 z TI TO i1 i2 i h) (k : ∀ b ∈ [z, TI, TO, i1, i2], ∀ o, h.get? b = some o → h'.get? b = some o) : ZiSt S1 S2 t1 t2 z TI TO i1 i2 i h' := by
  obtain ⟨⟨_, _, h0, hz⟩, hTI, ⟨_, _, hTO⟩, s1, s2⟩ := st
  exact ⟨⟨_, _, h0, k z (by simp) _ hz⟩, k TI (by simp) _ hTI, ⟨_, _, k TO (by simp) _ hTO⟩, Sq.stAt s1 fun o q => k i1 (by simp) o q, Sq.stAt s2 fun o q => k i2 (by simp) o q⟩
theorem ZiSt.obj {t1 t2 : Tok} {i : Nat} {h : Heap} (st : ZiSt S1 S2 t1 t2 z TI TO i1 i2 i h) : ∀ b ∈ [z, TI, TO, i1, i2], ∃ o, h.get? b = some o ∧ ∀ v, o.data ≠ .cell v := by
  obtain ⟨⟨_, _, h0, hz⟩, hTI, ⟨_, _, hTO⟩, s1, s2⟩ := st
  intro b hb
  have e' : b = z ∨ b = TI ∨ b = TO ∨ b = i1 ∨ b = i2 := by simpa using hb
  rcases e' with q | q | q | q | q
  · rw [q]; exact ⟨_, hz, fun v q => nomatch q⟩
  · rw [q]; exact ⟨_, hTI, fun v q => nomatch q⟩
  · rw [q]; exact ⟨_, hTO, fun v q => nomatch q⟩
  · rw [q]; obtain ⟨o, ho, vs, hd⟩ := Sq.stLive s1; exact ⟨o, ho, fun v q => by rw [hd] at q; cases q⟩
  · rw [q]; obtain ⟨o, ho, vs, hd⟩ := Sq.stLive s2; exact ⟨o, ho, fun v q => by rw [hd] at q; cases q⟩
theorem pull_zi {P : Program} {w : World} {K : PySem.W.Frag} (t1 t2 : Tok) (n1 n2 : Nat) (D : ZiAp S1 S2 z TI TO i1 i2) :
    Pull P w K (Jzi K S1 S2 n1 n2) [z, TI, TO, i1, i2] z (fun i h => i ≤ min n1 n2 ∧ ZiSt S1 S2 t1 t2 z TI TO i1 i2 i h) where
  mem := by simp
  obj := fun i h st => st.2.obj
  keep := fun i h h' st k => ⟨st.1, st.2.keep k⟩
  item := by
    intro X hP hw hK A hh i pins s σ H E I hf st hg
    subst hP hw hK
    have lts : ∀ b ∈ [z, TI, TO, i1, i2], b < s.heap.objs.size := fun b hb => let ⟨o, e, _⟩ := st.2.obj b hb; Heap.lt_size e
    obtain ⟨hle, hz, hTI, hTO, s1, s2⟩ := st
    obtain ⟨hi, xs, ys, hqx, hlx, hqy, hly⟩ := hg
    have nz : i1 ∉ S1.addr := fun q => (D.out _ (.inl q)).2.2.2.1 rfl
    have nz2 : i2 ∉ S2.addr := fun q => (D.out _ (.inr q)).2.2.2.2 rfl
    obtain ⟨fp, Pv, St, D1, hfp, up, down, val⟩ := Sq.draws I hqx (t := t1) nz A.in1 hh
    obtain ⟨fp2, Pv2, St2, D2, hfp2, up2, down2, val2⟩ := Sq.draws I hqy (t := t2) nz2 A.in1 hh
    have Sp := D.sep hfp hfp2
    refine zi_pyNext_item Sp D1 D2 hz hTI hTO (up i s1) (up2 i s2) (by omega) (by omega) fun x1 x2 h' tk p1 p2 hz' hTO' s1' s2' hT hsz hk => ?_
    obtain ⟨xv, hx, rx⟩ := val i x1 p1
    obtain ⟨yv, hy, ry⟩ := val2 i x2 p2
    have zl := lts z (by simp)
    have I1 : Inv X pins σ (upd H s.heap.objs.size (.tup [xv, yv])) { s with heap := h', toks := tk } :=
      I.turnedNew (ch := [z, TI, TO, i1, i2]) (fun c o hb q => hk c o (fun q' => hb (by simp [q'])) (fun q' => hb (by simp [q'])) (fun q' => hb (by simp [q'])) (fun q' => hb (by simp [q'])) q) hf (Nat.le_refl _)
        (tup_ok (by show 2 ≤ sizeLine; decide) (.cons rx (.cons ry .nil)) hT)
    refine ⟨_, rfl, .ref s.heap.objs.size, _, I1, rfl, ⟨_, xv, yv, rfl, I.hok.fresh (Nat.le_refl _), rfl, fun l hl => by rw [Sq.inj I hl hqx]; exact hx, fun l hl => by rw [Sq.inj I hl hqy]; exact hy⟩,
      ⟨by omega, hz', hk _ _ D.TIz D.TITO D.TIi1 D.TIi2 hTI, hTO', down _ _ s1', down2 _ _ s2'⟩, fun c hcm => ?_⟩
    rw [upd_ne (Nat.ne_of_lt (lts c hcm))]
    exact (hf c hcm).1
  done := by
    intro X hP hw hK A hh i pins s σ H E I hf st hg
    subst hP hw hK
    obtain ⟨hle, hz, hTI, hTO, s1, s2⟩ := st
    obtain ⟨hi, xs, ys, hqx, hlx, hqy, hly⟩ := hg
    have nz : i1 ∉ S1.addr := fun q => (D.out _ (.inl q)).2.2.2.1 rfl
    have nz2 : i2 ∉ S2.addr := fun q => (D.out _ (.inr q)).2.2.2.2 rfl
    obtain ⟨fp, Pv, St, D1, hfp, up, down, val⟩ := Sq.draws I hqx (t := t1) nz A.in1 hh
    obtain ⟨fp2, Pv2, St2, D2, hfp2, up2, down2, val2⟩ := Sq.draws I hqy (t := t2) nz2 A.in1 hh
    exact zi_pyNext_end (D.sep hfp hfp2) D1 D2 hz hTI hTO (up i s1) (up2 i s2) (by omega) (by omega) (by omega) fun h' tk hk => ⟨rfl, I.turnedL (ch := [z, TI, TO, i1, i2]) (fun c o hb q =>
      hk c o (fun q' => hb (by simp [q'])) (fun q' => hb (by simp [q'])) (fun q' => hb (by simp [q'])) (fun q' => hb (by simp [q'])) q) hf⟩
theorem turn_zi {P : Program} {w : World} {K : PySem.W.Frag} {tg : Expr} (t1 t2 : Tok) (n1 n2 : Nat) (D : ZiAp S1 S2 z TI TO i1 i2) :
    Turn P w K tg (Jzi K S1 S2 n1 n2) [z, TI, TO, i1, i2] z (fun i h => i ≤ min n1 n2 ∧ ZiSt S1 S2 t1 t2 z TI TO i1 i2 i h) :=
  turn_of (pull_zi t1 t2 n1 n2 D) (fun A i s u Q E st hQ => zi_go st.2.1 fun h' q sb => hQ h' ⟨st.1, q, (sb.2 _ D.TIz).trans st.2.2.1, (by obtain ⟨_, _, q⟩ := st.2.2.2.1; exact ⟨_, _, (sb.2 _ D.TOz).trans q⟩), Sq.stAt st.2.2.2.2.1 fun o q => (sb.2 _ (Ne.symm D.zi1)).trans q, Sq.stAt st.2.2.2.2.2 fun o q => (sb.2 _ (Ne.symm D.zi2)).trans q⟩ sb) fun A i s Q E st h => iter_zi st.2.1 h

def Jez (K : PySem.W.Frag) (S1 S2 : Sq) (n1 n2 : Nat) : It :=
  ⟨fun i H => i < min n1 n2 ∧ ∃ xs ys, S1.its K H xs ∧ xs.length = n1 ∧ S2.its K H ys ∧ ys.length = n2, fun i H v H' => ∃ T U x y, v = .ref U ∧ H T = none ∧ H U = none ∧ T ≠ U ∧ H' = upd (upd H T (.tup [x, y])) U (.tup [.int (i : Nat), .ref T]) ∧ (∀ xs, S1.its K H xs → xs[i]? = some x) ∧ ∀ ys, S2.its K H ys → ys[i]? = some y,
    fun i H => min n1 n2 ≤ i ∧ ∃ xs ys, S1.its K H xs ∧ xs.length = n1 ∧ S2.its K H ys ∧ ys.length = n2⟩
theorem pull_ez {P : Program} {w : World} {K : PySem.W.Frag} (t1 t2 : Tok) (n1 n2 : Nat) (e : Addr) (D : ZiAp S1 S2 z TI TO i1 i2) (he : e ≠ z ∧ e ≠ TI ∧ e ≠ TO ∧ e ≠ i1 ∧ e ≠ i2) (heo : ∀ b, b ∈ S1.addr ∨ b ∈ S2.addr → b ≠ e) :
    Pull P w K (Jez K S1 S2 n1 n2) [e, z, TI, TO, i1, i2] e (fun i h => i ≤ min n1 n2 ∧ EnA h e z (i : Nat) ∧ ZiSt S1 S2 t1 t2 z TI TO i1 i2 i h) where
  mem := by simp
  obj := fun i h st b hb => by
    rcases List.mem_cons.mp hb with q | q
    · obtain ⟨_, ⟨_, _, _, _, he⟩, _⟩ := st
      rw [q]; exact ⟨_, he, fun v q => nomatch q⟩
    · exact st.2.2.obj b q
  keep := fun i h h' st k => by
    obtain ⟨hi, ⟨s0, f, old, h0, he⟩, hs⟩ := st
    exact ⟨hi, ⟨s0, f, old, h0, k e (by simp) _ he⟩, hs.keep fun b hb o q => k b (List.mem_cons_of_mem _ hb) o q⟩
  item := by
    intro X hP hw hK A hh i pins s σ H E I hf st hg
    subst hP hw hK
    have lts : ∀ b ∈ [z, TI, TO, i1, i2], b < s.heap.objs.size := fun b hb => let ⟨o, e, _⟩ := st.2.2.obj b hb; Heap.lt_size e
    obtain ⟨hle, hen, hz, hTI, hTO, s1, s2⟩ := st
    obtain ⟨hi, xs, ys, hqx, hlx, hqy, hly⟩ := hg
    have hel : e < s.heap.objs.size := by obtain ⟨_, _, _, _, q⟩ := hen; exact Heap.lt_size q
    have nz : i1 ∉ S1.addr := fun q => (D.out _ (.inl q)).2.2.2.1 rfl
    have nz2 : i2 ∉ S2.addr := fun q => (D.out _ (.inr q)).2.2.2.2 rfl
    obtain ⟨fp, Pv, St, D1, hfp, up, down, val⟩ := Sq.draws I hqx (t := t1) nz A.in1.in1 hh
    obtain ⟨fp2, Pv2, St2, D2, hfp2, up2, down2, val2⟩ := Sq.draws I hqy (t := t2) nz2 A.in1.in1 hh
    have Sp := D.sep hfp hfp2
    have TI1 : TI ∉ i1 :: fp := fun q => by
      rcases List.mem_cons.mp q with q | q
      · exact D.TIi1 q
      · exact (D.out _ (.inl (hfp _ q))).2.1 rfl
    have TI2 : TI ∉ i2 :: fp2 := fun q => by
      rcases List.mem_cons.mp q with q | q
      · exact D.TIi2 q
      · exact (D.out _ (.inr (hfp2 _ q))).2.1 rfl
    have Dz := Dr.zi (A := A.in1) Sp TI1 TI2 D1 D2
    have hef : e ∉ z :: TI :: TO :: (i1 :: fp ++ i2 :: fp2) := fun q => by
      simp only [List.mem_cons, List.mem_append, List.cons_append] at q
      rcases q with q | q | q | q | q | q | q
      · exact he.1 q
      · exact he.2.1 q
      · exact he.2.2.1 q
      · exact he.2.2.2.1 q
      · exact heo _ (.inl (hfp _ q)) rfl
      · exact he.2.2.2.2 q
      · exact heo _ (.inr (hfp2 _ q)) rfl
    refine en_pyNext_item Dz hen ⟨by omega, hz, hTI, hTO, up i s1, up2 i s2⟩ (by omega) hef fun x h' tk U t' Z p hN hZ hU hen' hs' hTup hk => ?_
    obtain ⟨T, u1, u2, rfl, hNT, hTZ, p1, p2, hT⟩ := p
    obtain ⟨_, hz', hTI', hTO', s1', s2'⟩ := hs'
    obtain ⟨xv, hx, rx⟩ := val i u1 p1
    obtain ⟨yv, hy, ry⟩ := val2 i u2 p2
    have hUl : s.heap.objs.size ≤ U := Nat.le_trans hN hZ
    have hTU : T ≠ U := Nat.ne_of_lt (Nat.lt_of_lt_of_le hTZ hZ)
    have eT : T ≠ e := Nat.ne_of_gt (Nat.lt_of_lt_of_le hel hNT)
    have eU : U ≠ e := Nat.ne_of_gt (Nat.lt_of_lt_of_le hel hUl)
    have fT := I.hok.fresh hNT
    have fU := I.hok.fresh hUl
    have kk : ∀ c o, c ∉ [e, z, TI, TO, i1, i2] → s.heap.get? c = some o → h'.get? c = some o := fun c o hb q => by
      refine hk c o (fun q' => hb (by simp [q'])) (fun q' => hb ?_) q
      have : c = z ∨ c = TO ∨ c = i1 ∨ c = i2 := by simpa using q'
      rcases this with r | r | r | r <;> simp [r]
    have I1 : Inv X pins σ (upd (upd H T (.tup [xv, yv])) U (.tup [.int (i : Nat), .ref T])) { s with heap := h', toks := tk } := by
      refine turnedMany I (ch := [e, z, TI, TO, i1, i2]) kk hf (fun b hb => ?_) (fun b u q => ?_) fun b u q => ?_
      · rw [upd_ne (Nat.ne_of_lt (Nat.lt_of_lt_of_le hb hUl)), upd_ne (Nat.ne_of_lt (Nat.lt_of_lt_of_le hb hNT))]
      · rw [upd_ne (ne_of_none q fU), upd_ne (ne_of_none q fT)]; exact q
      · by_cases hb : b = U
        · subst hb
          rw [upd_same] at q
          cases q
          exact .inr (tup_ok (by show 2 ≤ sizeLine; decide) (.cons ⟨_, rfl⟩ (.cons rfl .nil)) hTup)
        · rw [upd_ne hb] at q
          by_cases hb2 : b = T
          · subst hb2
            rw [upd_same] at q
            cases q
            exact .inr (tup_ok (by show 2 ≤ sizeLine; decide) (.cons rx (.cons ry .nil)) hT)
          · rw [upd_ne hb2] at q
            exact .inl q
    refine ⟨_, rfl, .ref U, _, I1, rfl, ⟨T, U, xv, yv, rfl, fT, fU, hTU, rfl, fun l hl => by rw [Sq.inj I hl hqx]; exact hx, fun l hl => by rw [Sq.inj I hl hqy]; exact hy⟩, ⟨by omega, hen', hz', hTI', hTO', down _ _ s1', down2 _ _ s2'⟩, fun c hcm => ?_⟩
    · have hcl : c < s.heap.objs.size := by
        rcases List.mem_cons.mp hcm with q | q
        · rw [q]; exact hel
        · exact lts c q
      rw [upd_ne (Nat.ne_of_lt (Nat.lt_of_lt_of_le hcl hUl)), upd_ne (Nat.ne_of_lt (Nat.lt_of_lt_of_le hcl hNT))]
      exact (hf c hcm).1
  done := by
    intro X hP hw hK A hh i pins s σ H E I hf st hg
    subst hP hw hK
    obtain ⟨hle, hen, hz, hTI, hTO, s1, s2⟩ := st
    obtain ⟨hi, xs, ys, hqx, hlx, hqy, hly⟩ := hg
    have nz : i1 ∉ S1.addr := fun q => (D.out _ (.inl q)).2.2.2.1 rfl
    have nz2 : i2 ∉ S2.addr := fun q => (D.out _ (.inr q)).2.2.2.2 rfl
    obtain ⟨fp, Pv, St, D1, hfp, up, down, val⟩ := Sq.draws I hqx (t := t1) nz A.in1.in1 hh
    obtain ⟨fp2, Pv2, St2, D2, hfp2, up2, down2, val2⟩ := Sq.draws I hqy (t := t2) nz2 A.in1.in1 hh
    have Sp := D.sep hfp hfp2
    have TI1 : TI ∉ i1 :: fp := fun q => by
      rcases List.mem_cons.mp q with q | q
      · exact D.TIi1 q
      · exact (D.out _ (.inl (hfp _ q))).2.1 rfl
    have TI2 : TI ∉ i2 :: fp2 := fun q => by
      rcases List.mem_cons.mp q with q | q
      · exact D.TIi2 q
      · exact (D.out _ (.inr (hfp2 _ q))).2.1 rfl
    have Dz := Dr.zi (A := A.in1) Sp TI1 TI2 D1 D2
    have e1 : i = min xs.length ys.length := by omega
    refine en_pyNext_end Dz hen ⟨Nat.le_refl _, hz, hTI, hTO, by rw [← e1]; exact up i s1, by rw [← e1]; exact up2 i s2⟩ fun h' tk k => ⟨rfl, I.turnedL (ch := [e, z, TI, TO, i1, i2]) (fun c o hb q => k c o (fun q' => hb ?_) q) hf⟩
    have : c = z ∨ c = TO ∨ c = i1 ∨ c = i2 := by simpa using q'
    rcases this with r | r | r | r <;> simp [r]
theorem turn_ez {P : Program} {w : World} {K : PySem.W.Frag} {tg : Expr} (t1 t2 : Tok) (n1 n2 : Nat) (e : Addr) (D : ZiAp S1 S2 z TI TO i1 i2) (he : e ≠ z ∧ e ≠ TI ∧ e ≠ TO ∧ e ≠ i1 ∧ e ≠ i2) (heo : ∀ b, b ∈ S1.addr ∨ b ∈ S2.addr → b ≠ e) :
    Turn P w K tg (Jez K S1 S2 n1 n2) [e, z, TI, TO, i1, i2] e (fun i h => i ≤ min n1 n2 ∧ EnA h e z (i : Nat) ∧ ZiSt S1 S2 t1 t2 z TI TO i1 i2 i h) :=
  turn_of (pull_ez t1 t2 n1 n2 e D he heo) (fun A i s u Q E st hQ => en_go st.2.1 fun h' q sb => hQ h' ⟨st.1, q, st.2.2.keep fun b hb o q => (sb.2 b (by
      have : b = z ∨ b = TI ∨ b = TO ∨ b = i1 ∨ b = i2 := by simpa using hb
      rcases this with r | r | r | r | r
      · rw [r]; exact he.1.symm
      · rw [r]; exact he.2.1.symm
      · rw [r]; exact he.2.2.1.symm
      · rw [r]; exact he.2.2.2.1.symm
      · rw [r]; exact he.2.2.2.2.symm)).trans q⟩ sb) fun A i s Q E st h => iter_en st.2.1 h
end
end DL
set_option Elab.async false
set_option linter.all false
set_option maxRecDepth 100000
set_option maxHeartbeats 1000000
namespace DL
open PySem
open Sem (wp)
set_option maxHeartbeats 2000000 in
theorem meets_en1 {v : Value} {H : Heap → Prop} {itA : Heap → Addr} {grow : Heap → Heap} (B : ∀ (prog : Program) (w : World) (A : Around) (E : Value → Shared → Prop) (s : Shared) (Q : Value → Shared → Prop), H s.heap → Q (.ref (itA s.heap)) { s with heap := grow s.heap } → wpAny (model prog w) A (pyIter v) Q E s) :
    Meets (Builtin.«enumerate.__new__» ⟨[.type "enumerate", v], []⟩) (fun _ R s => H s.heap ∧
      R (.ok (.ret (.ref (grow s.heap).objs.size))) { s with heap := (grow s.heap).push { cls := .type "enumerate", data := .fields #[.none, .bool false, .ref (itA s.heap), rawInt 0, .none, .none] } }) :=
  .of_wp fun prog w A R s h => by
    obtain ⟨hp, g, d, tk, os⟩ := s; obtain ⟨h1, h⟩ := h
    have hsub := sub_enumerate
    have q1 : ∀ {A' : Around} {E : Value → Shared → Prop} {Q : Value → Shared → Prop}, Q (.ref (itA hp)) ⟨grow hp, g, d, tk, os⟩ → wpAny (model prog w) A' (pyIter v) Q E ⟨hp, g, d, tk, os⟩ :=
      fun q => B prog w _ _ ⟨hp, g, d, tk, os⟩ _ h1 q
    wp_walk using q1
    refine wpAny_stack_any fun st => wpAny_pure ?_
    split
    · rename_i c _ _ _ _ _
      cases (c == Value.type "enumerate")
      · wp_walk using q1
        exact ⟨_, rfl, h⟩
      · wp_walk using q1
        exact ⟨_, rfl, h⟩
    · wp_walk using q1
      exact ⟨_, rfl, h⟩
section
variable {prog : Program} {w : World} {A : Around} {E : Value → Shared → Prop} {s : Shared}
theorem en_begins {v : Value} {H : Heap → Prop} {itA : Heap → Addr} {grow : Heap → Heap} {Q : Value → Shared → Prop} (B : ∀ (prog : Program) (w : World) (A : Around) (E : Value → Shared → Prop) (s : Shared) (Q : Value → Shared → Prop), H s.heap → Q (.ref (itA s.heap)) { s with heap := grow s.heap } → wpAny (model prog w) A (pyIter v) Q E s) (h1 : H s.heap)
    (h : ∀ h', EnA h' (grow s.heap).objs.size (itA s.heap) ((0 : Nat) : Int) → h'.objs.size = (grow s.heap).objs.size + 1 →
      (∀ b o, (grow s.heap).get? b = some o → h'.get? b = some o) → Q (.ref (grow s.heap).objs.size) { s with heap := h' }) :
    wpAny (model prog w) A (call (.type "enumerate") [v]) Q E s := by
  refine callType_new F.called_enumerate (by decide) (F.typeCall_enumerate_1 _) (F.newCall_enumerate_1 _) (fun obj => F.args_object_init_2 obj _) F.entry_enumerate_new (meets_en1 B) ⟨h1, ?_⟩
  have he : ((grow s.heap).push { cls := .type "enumerate", data := .fields #[.none, .bool false, .ref (itA s.heap), rawInt 0, .none, .none] }).get? (grow s.heap).objs.size = some (enObj .none false (itA s.heap) 0 .none) := Heap.get?_push_size _ rfl
  show _ ∧ _
  exact ⟨⟨_, he, rfl⟩, h _ ⟨_, _, _, .inl rfl, he⟩ (by rw [Heap.size_push]) fun b o x => Heap.get?_push_of_some _ x⟩
end
open PySem.Spec PyProof.Rows L2
def iEn (K : PySem.W.Frag) (ta : TA) : TI := fun σ H R => ta σ H fun vs H1 => ∃ (S : Sq) (xs : List V), vs = [S.v] ∧ S.its K H1 xs ∧ R (Jen K S xs.length) H1
theorem pi_en {X : Cx} {tg e : Expr} {ta : TA} {p pos : Pos} (hg : Gl X "enumerate") (hm : X.mg "enumerate" = none) (ha : PA X [e] ta) (hs : starEach [e] X.env = [(false, eval e X.env)] := by rfl) :
    PI X tg (.Call (.Name "enumerate" p) [e] [] pos) (iEn X.K ta) := by
  refine ⟨fun pins s σ H R I h => ?_⟩
  refine Call_ (ld_blt I hg hm boot_enumerate (PyProof.Rows.callWith_type1 (thn (ha.run pos pins s σ H _ I h) fun us s1 ⟨vs, H1, I1, r1, q1⟩ => ?_) hs rfl))
  obtain ⟨S, xs, rfl, hq, q⟩ := q1
  obtain ⟨u, rfl, ru⟩ := vals1 r1
  obtain ⟨t, rfl⟩ := Sq.rel ru
  obtain ⟨Hp, B, hHp⟩ := Sq.begins I1 hq t
  have lt := Sq.addr_lt I1 hq
  refine en_begins (itA := fun h => h.objs.size) (grow := fun h => h.push (S.obj t)) (fun prog w A E s Q h q => B.iter prog w A E s Q h q) hHp fun h' he hsz hk => ?_
  have hz : (s1.heap.push (S.obj t)).objs.size = s1.heap.objs.size + 1 := Heap.size_push ..
  simp only [hz] at he hsz hk ⊢
  refine iter_en he ?_
  have I2 : Inv X pins σ H1 { s1 with heap := h' } := I1.kept (t' := s1.toks) fun b o e => hk b o (Heap.get?_push_of_some _ e)
  refine ⟨s1.heap.objs.size + 1, [s1.heap.objs.size + 1, s1.heap.objs.size], _, _, H1, rfl, I2, turn_en S t (s1.heap.objs.size + 1) s1.heap.objs.size xs.length (Nat.succ_ne_self _) (fun z => ?_) (fun z => ?_), ⟨Nat.zero_le _, he, Sq.st0 (hk _ _ (Heap.get?_push_size _ B.free))⟩, fun b hb => ?_, q⟩
  · have := lt _ z
    exact absurd this (Nat.not_lt_of_le (Nat.le_succ _))
  · exact absurd (lt _ z) (Nat.lt_irrefl _)
  · have e' : b = s1.heap.objs.size + 1 ∨ b = s1.heap.objs.size := by simpa using hb
    have hle : s1.heap.objs.size ≤ b := by
      rcases e' with z | z
      · rw [z]; exact Nat.le_add_right _ _
      · rw [z]; exact Nat.le_refl _
    exact I1.fpOk hle (I1.hok.fresh hle)
def iZi (K : PySem.W.Frag) (ta : TA) : TI := fun σ H R => ta σ H fun vs H1 => ∃ (S1 S2 : Sq) (xs ys : List V), vs = [S1.v, S2.v] ∧ S1.its K H1 xs ∧ S2.its K H1 ys ∧ R (Jzi K S1 S2 xs.length ys.length) H1
/-- a zip is begun -/
theorem zi_begun {X : Cx} {pins : List (Addr × Obj)} {σ : L2.St} {H : Hp} {s : Shared} (I : Inv X pins σ H s) {S1 S2 : Sq} {xs ys : List V} (h1 : S1.its X.K H xs) (h2 : S2.its X.K H ys) (t1 t2 : Tok) {A : Around} {E : Value → Shared → Prop} {Q : Value → Shared → Prop}
    (hQ : ∀ h', ZiAp S1 S2 (s.heap.objs.size + 4) (s.heap.objs.size + 2) (s.heap.objs.size + 3) s.heap.objs.size (s.heap.objs.size + 1) → ZiSt S1 S2 t1 t2 (s.heap.objs.size + 4) (s.heap.objs.size + 2) (s.heap.objs.size + 3) s.heap.objs.size (s.heap.objs.size + 1) 0 h' → h'.objs.size = s.heap.objs.size + 5 →
      (∀ c o, s.heap.get? c = some o → h'.get? c = some o) → Q (.ref (s.heap.objs.size + 4)) { s with heap := h' }) : wpAny (model X.prog X.w) A (call (.type "zip") [S1.val t1, S2.val t2]) Q E s := by
  obtain ⟨Hp1, B1, hHp1⟩ := Sq.begins I h1 t1
  obtain ⟨Hp2, B2, hHp2⟩ := Sq.begins I h2 t2
  have l1 := Sq.addr_lt I h1
  have l2 := Sq.addr_lt I h2
  refine zip_begins2 B1 B2 hHp1 hHp2 fun h' hz hTI hTO g1 g2 hsz hk => hQ h' ?_ ⟨⟨_, _, .inl rfl, hz⟩, hTI, ⟨_, _, hTO⟩, Sq.st0 g1, Sq.st0 g2⟩ hsz hk
  generalize s.heap.objs.size = N at *
  have l3 : ∀ b, b ∈ S1.addr ∨ b ∈ S2.addr → b < N := fun b hb => hb.elim (l1 b) (l2 b)
  have ne : ∀ (i j : Nat), i ≠ j → ((N : Nat) + i : Nat) ≠ N + j := fun i j h => by omega
  refine ⟨ne 2 4 (by decide), ne 3 4 (by decide), ne 2 3 (by decide), ne 2 0 (by decide), ne 2 1 (by decide), ne 4 0 (by decide), ne 4 1 (by decide), ne 3 0 (by decide), ne 3 1 (by decide), ne 0 1 (by decide), fun b hb => ?_⟩
  have := l3 b hb
  have lt : ∀ i : Nat, b ≠ N + i := fun i => Nat.ne_of_lt (Nat.lt_of_lt_of_le this (Nat.le_add_right _ _))
  exact ⟨lt 4, lt 2, lt 3, lt 0, lt 1⟩
theorem pi_zi {X : Cx} {tg e e2 : Expr} {ta : TA} {p pos : Pos} (hg : Gl X "zip") (hm : X.mg "zip" = none) (ha : PA X [e, e2] ta)
    (hs : starEach [e, e2] X.env = (false, eval e X.env) :: starEach [e2] X.env := by rfl) (hpl : (backTo pos (starEach [e2] X.env)).any (·.1) = false := by rfl) :
    PI X tg (.Call (.Name "zip" p) [e, e2] [] pos) (iZi X.K ta) := by
  refine ⟨fun pins s σ H R I h => ?_⟩
  refine Call_ (ld_blt I hg hm PyProof.Rows.boot_zip (PyProof.Rows.callWith_type1 (thn (ha.run pos pins s σ H _ I h) fun us s1 ⟨vs, H1, I1, r1, q1⟩ => ?_) hs hpl))
  obtain ⟨S1, S2, xs, ys, rfl, h1, h2, q⟩ := q1
  obtain ⟨u1, u2, rfl, ru1, ru2⟩ := vals2 r1
  obtain ⟨t1, rfl⟩ := Sq.rel ru1
  obtain ⟨t2, rfl⟩ := Sq.rel ru2
  refine zi_begun I1 h1 h2 t1 t2 fun h' D st hsz hk => iter_zi st.1 ?_
  have I2 : Inv X pins σ H1 { s1 with heap := h' } := I1.kept (t' := s1.toks) hk
  refine ⟨s1.heap.objs.size + 4, _, _, _, H1, rfl, I2, turn_zi t1 t2 xs.length ys.length D, ⟨Nat.zero_le _, st⟩, fun c hcm => ?_, q⟩
  have e' : c = s1.heap.objs.size + 4 ∨ c = s1.heap.objs.size + 2 ∨ c = s1.heap.objs.size + 3 ∨ c = s1.heap.objs.size ∨ c = s1.heap.objs.size + 1 := by simpa using hcm
  have hle : s1.heap.objs.size ≤ c := by
    rcases e' with z | z | z | z | z
    · rw [z]; exact Nat.le_add_right _ _
    · rw [z]; exact Nat.le_add_right _ _
    · rw [z]; exact Nat.le_add_right _ _
    · rw [z]; exact Nat.le_refl _
    · rw [z]; exact Nat.le_add_right _ _
  exact I1.fpOk hle (I1.hok.fresh hle)
def iEz (K : PySem.W.Frag) (ta : TA) : TI := fun σ H R => ta σ H fun vs H1 => ∃ (S1 S2 : Sq) (xs ys : List V), vs = [S1.v, S2.v] ∧ S1.its K H1 xs ∧ S2.its K H1 ys ∧ R (Jez K S1 S2 xs.length ys.length) H1
theorem pi_ez {X : Cx} {tg e e2 : Expr} {ta : TA} {p pos p2 pos2 : Pos} (hge : Gl X "enumerate") (hme : X.mg "enumerate" = none) (hg : Gl X "zip") (hm : X.mg "zip" = none) (ha : PA X [e, e2] ta)
    (hse : starEach [.Call (.Name "zip" p2) [e, e2] [] pos2] X.env = (false, eval (.Call (.Name "zip" p2) [e, e2] [] pos2) X.env) :: starEach [] X.env := by rfl)
    (hs : starEach [e, e2] X.env = (false, eval e X.env) :: starEach [e2] X.env := by rfl) (hpl : (backTo pos2 (starEach [e2] X.env)).any (·.1) = false := by rfl) :
    PI X tg (.Call (.Name "enumerate" p) [.Call (.Name "zip" p2) [e, e2] [] pos2] [] pos) (iEz X.K ta) := by
  refine ⟨fun pins s σ H R I h => ?_⟩
  refine Call_ (ld_blt I hge hme boot_enumerate (PyProof.Rows.callWith_type1 (args_cons ?_ hse) hse rfl))
  refine Call_ (ld_blt I hg hm PyProof.Rows.boot_zip (PyProof.Rows.callWith_type1 (thn (ha.run pos2 pins s σ H _ I h) fun us s1 ⟨vs, H1, I1, r1, q1⟩ => ?_) hs hpl))
  obtain ⟨S1, S2, xs, ys, rfl, h1, h2, q⟩ := q1
  obtain ⟨u1, u2, rfl, ru1, ru2⟩ := vals2 r1
  obtain ⟨t1, rfl⟩ := Sq.rel ru1
  obtain ⟨t2, rfl⟩ := Sq.rel ru2
  have l1 := Sq.addr_lt I1 h1
  have l2 := Sq.addr_lt I1 h2
  refine zi_begun I1 h1 h2 t1 t2 fun h' D st hsz hk => ?_
  refine args_nil ?_
  refine en_begins (H := fun h => ZiA h (s1.heap.objs.size + 4) (s1.heap.objs.size + 2) (s1.heap.objs.size + 3)) (itA := fun _ => s1.heap.objs.size + 4) (grow := fun h => h) (fun prog w A E s Q h q => iter_zi h q) st.1 fun h'' he hsz2 hk2 => ?_
  replace hk2 : ∀ b o, h'.get? b = some o → h''.get? b = some o := hk2
  replace he : EnA h'' h'.objs.size (s1.heap.objs.size + 4) ((0 : Nat) : Int) := he
  show wpAny _ _ (pyIter (.ref h'.objs.size)) _ _ _
  rw [hsz] at he ⊢
  refine iter_en he ?_
  have I2 : Inv X pins σ H1 { s1 with heap := h'' } := I1.kept (t' := s1.toks) fun b o e => hk2 b o (hk b o e)
  have ne : ∀ (i j : Nat), i ≠ j → (s1.heap.objs.size + i : Nat) ≠ s1.heap.objs.size + j := fun i j h => by omega
  refine ⟨s1.heap.objs.size + 5, _, _, _, H1, rfl, I2, turn_ez t1 t2 xs.length ys.length (s1.heap.objs.size + 5) D ⟨ne 5 4 (by decide), ne 5 2 (by decide), ne 5 3 (by decide), ne 5 0 (by decide), ne 5 1 (by decide)⟩ (fun b hb => Nat.ne_of_lt (Nat.lt_of_lt_of_le (hb.elim (l1 b) (l2 b)) (Nat.le_add_right _ _))),
    ⟨Nat.zero_le _, he, st.keep fun b _ o e => hk2 b o e⟩, fun c hcm => ?_, q⟩
  have hle : s1.heap.objs.size ≤ c := by
    have e' : c = s1.heap.objs.size + 5 ∨ c = s1.heap.objs.size + 4 ∨ c = s1.heap.objs.size + 2 ∨ c = s1.heap.objs.size + 3 ∨ c = s1.heap.objs.size ∨ c = s1.heap.objs.size + 1 := by simpa using hcm
    rcases e' with z | z | z | z | z | z
    · rw [z]; exact Nat.le_add_right _ _
    · rw [z]; exact Nat.le_add_right _ _
    · rw [z]; exact Nat.le_add_right _ _
    · rw [z]; exact Nat.le_add_right _ _
    · rw [z]; exact Nat.le_refl _
    · rw [z]; exact Nat.le_add_right _ _
  exact I1.fpOk hle (I1.hok.fresh hle)
section
variable {M : Ghost} {C : Ct M} {W W1 W2 W' : Wd M} {σ : L2.St} {ρ : DEnv} {e : Expr} {we : EW M} {pos p : Pos}
/-- a sequence as a source, for good -/
structure SqD (K : PySem.W.Frag) (W : Wd M) (S : Sq) (vs : List V) (ds : List D) : Prop where
  its : ∀ W', Gs W W' → Wok K W' → S.its K W'.H vs
  rd : RpA K W.F W.R vs ds
theorem sqd_of {K : PySem.W.Frag} {v : V} {d : D} {ds : List D} (k : Wok K W) (r : Rp K W.F W.R v d) (h : itemsOf d = some ds) : ∃ S vs, v = Sq.v S ∧ SqD K W S vs ds := by
  cases d with
  | lst ds' =>
    cases h
    cases r with
    | lst h r2 => exact ⟨.lst _, _, rfl, fun W' g k' => .of (k'.sub _ _ (g.sub _ _ h)), r2⟩
  | tup ds' =>
    cases h
    cases r with
    | tup h r2 => exact ⟨.tup _, _, rfl, fun W' g k' => same_tup k'.sub (same_tup g.sub h), r2⟩
  | str x =>
    cases h
    cases r with
    | str z _ h =>
      subst h
      refine ⟨.str z, z.cps.toList.map fun c => V.str ⟨#[c]⟩, rfl, fun W' g k' => rfl, ?_⟩
      have : ∀ l : List Nat, RpA K W.F W.R (l.map fun c => V.str ⟨#[c]⟩) (l.map fun c => D.str [c]) := fun l => by
        induction l with
        | nil => exact .nil
        | cons c l ih => exact .cons (.str _ _ rfl) ih
      exact this _
  | _ => cases h
theorem SqD.step {K : PySem.W.Frag} {S : Sq} {vs : List V} {ds : List D} (h : SqD K W S vs ds) (g : Go W W1) : SqD K W1 S vs ds := ⟨fun W' g' k' => h.its W' (g.s.trans g') k', h.rd.step g⟩
theorem idx_inj {K : PySem.W.Frag} {S : Sq} {vs : List V} {ds : List D} (h : SqD K W S vs ds) (g : Gs W W1) (k : Wok K W1) {i : Nat} {x : V} {d : D} (hd : ds[i]? = some d) (hx : ∀ xs, S.its K W1.H xs → xs[i]? = some x) : Rp K W1.F W1.R x d := by
  obtain ⟨v, h1, h2⟩ := (h.rd.gs g).get' hd
  have := hx _ (h.its W1 g k)
  rw [h1] at this
  cases this
  exact h2
def enL : Nat → List D → List D
  | _, [] => []
  | n, d :: ds => .tup [.int (n : Nat), d] :: enL (n + 1) ds
theorem enL_get : ∀ (ds : List D) (n i : Nat), (enL n ds)[i]? = (ds[i]?).map fun d => .tup [.int ((n + i : Nat) : Int), d]
  | [], _, _ => by simp [enL]
  | d :: ds, n, 0 => by simp [enL]
  | d :: ds, n, i + 1 => by
    show (enL (n + 1) ds)[i]? = _
    rw [enL_get ds (n + 1) i, show n + 1 + i = n + (i + 1) by omega]
    simp
def zipL (ds es : List D) : List D := (ds.zip es).map fun p => .tup [p.1, p.2]
theorem wk_en {K : PySem.W.Frag} {S : Sq} {vs : List V} {ds : List D} (k0 : Wok K W) (h : SqD K W S vs ds) : WK K W (Jen K S vs.length) (enL 0 ds) where
  go := fun i W1 d g k e => by
    rw [enL_get, Nat.zero_add] at e
    cases hd : ds[i]? with
    | none => rw [hd] at e; cases e
    | some d0 =>
      rw [hd] at e
      cases e
      have hl : i < vs.length := by rw [h.rd.length]; exact (List.getElem?_eq_some_iff.mp hd).1
      refine ⟨⟨hl, vs, h.its W1 g k, rfl⟩, fun x H' y => ?_⟩
      obtain ⟨T, x, rfl, hT, rfl, hx⟩ := y
      have r := idx_inj h g k hd hx
      exact ⟨W1.lay T (.tup [.int (i : Nat), x]), rfl, Go.lay k hT, k.lay hT, rfl, .tup (.of upd_same) (.cons (.int _) (.cons (r.mono (same_new (k.noF hT)) fun _ _ z => z) .nil))⟩
  stop := fun i W1 g k e => by
    rw [enL_get, Nat.zero_add] at e
    refine ⟨?_, vs, h.its W1 g k, rfl⟩
    rw [h.rd.length]
    cases hd : ds[i]? with
    | none => exact List.getElem?_eq_none_iff.mp hd
    | some d0 => rw [hd] at e; cases e
theorem zip_get {ds es : List D} {i : Nat} {d : D} (h : (zipL ds es)[i]? = some d) : ∃ x y, ds[i]? = some x ∧ es[i]? = some y ∧ d = .tup [x, y] := by
  unfold zipL at h
  rw [List.getElem?_map] at h
  cases hz : (ds.zip es)[i]? with
  | none => rw [hz] at h; cases h
  | some p =>
    rw [hz] at h
    cases h
    have := List.getElem?_zip_eq_some.mp hz
    exact ⟨_, _, this.1, this.2, rfl⟩
theorem zip_none {ds es : List D} {i : Nat} (h : (zipL ds es)[i]? = none) : min ds.length es.length ≤ i := by
  have := List.getElem?_eq_none_iff.mp h
  unfold zipL at this
  rw [List.length_map, List.length_zip] at this
  exact this
theorem wk_zi {K : PySem.W.Frag} {S1 S2 : Sq} {vs us : List V} {ds es : List D} (h1 : SqD K W S1 vs ds) (h2 : SqD K W S2 us es) : WK K W (Jzi K S1 S2 vs.length us.length) (zipL ds es) where
  go := fun i W1 d g k e => by
    obtain ⟨x, y, hx, hy, rfl⟩ := zip_get e
    have l1 : i < vs.length := by rw [h1.rd.length]; exact (List.getElem?_eq_some_iff.mp hx).1
    have l2 : i < us.length := by rw [h2.rd.length]; exact (List.getElem?_eq_some_iff.mp hy).1
    refine ⟨⟨by omega, vs, us, h1.its W1 g k, rfl, h2.its W1 g k, rfl⟩, fun v H' yy => ?_⟩
    obtain ⟨T, xv, yv, rfl, hT, rfl, gx, gy⟩ := yy
    have r1 := idx_inj h1 g k hx gx
    have r2 := idx_inj h2 g k hy gy
    exact ⟨W1.lay T (.tup [xv, yv]), rfl, Go.lay k hT, k.lay hT, rfl, .tup (.of upd_same) (.cons (r1.mono (same_new (k.noF hT)) fun _ _ z => z) (.cons (r2.mono (same_new (k.noF hT)) fun _ _ z => z) .nil))⟩
  stop := fun i W1 g k e => ⟨by rw [h1.rd.length, h2.rd.length]; exact zip_none e, vs, us, h1.its W1 g k, rfl, h2.its W1 g k, rfl⟩
theorem wk_ez {K : PySem.W.Frag} {S1 S2 : Sq} {vs us : List V} {ds es : List D} (h1 : SqD K W S1 vs ds) (h2 : SqD K W S2 us es) : WK K W (Jez K S1 S2 vs.length us.length) (enL 0 (zipL ds es)) where
  go := fun i W1 d g k e => by
    rw [enL_get, Nat.zero_add] at e
    cases hd : (zipL ds es)[i]? with
    | none => rw [hd] at e; cases e
    | some d0 =>
      rw [hd] at e
      cases e
      obtain ⟨x, y, hx, hy, rfl⟩ := zip_get hd
      have l1 : i < vs.length := by rw [h1.rd.length]; exact (List.getElem?_eq_some_iff.mp hx).1
      have l2 : i < us.length := by rw [h2.rd.length]; exact (List.getElem?_eq_some_iff.mp hy).1
      refine ⟨⟨by omega, vs, us, h1.its W1 g k, rfl, h2.its W1 g k, rfl⟩, fun v H' yy => ?_⟩
      obtain ⟨T, U, xv, yv, rfl, hT, hU, hTU, rfl, gx, gy⟩ := yy
      have r1 := idx_inj h1 g k hx gx
      have r2 := idx_inj h2 g k hy gy
      have k1 := k.lay (o := .tup [xv, yv]) hT
      have hU1 : (W1.lay T (.tup [xv, yv])).H U = none := (upd_ne (Ne.symm hTU)).trans hU
      have m1 := same_new (o := .tup [xv, yv]) (k.noF hT)
      have m2 := same_new (o := .tup [.int (i : Nat), .ref T]) (k1.noF hU1)
      refine ⟨(W1.lay T (.tup [xv, yv])).lay U (.tup [.int (i : Nat), .ref T]), rfl, (Go.lay k hT).trans (Go.lay k1 hU1), k1.lay hU1, rfl, .tup (.of upd_same) (.cons (.int _) (.cons (.tup (.of (m2 _ _ upd_same)) ?_) .nil))⟩
      exact (RpA.cons (r1.mono m1 fun _ _ z => z) (.cons (r2.mono m1 fun _ _ z => z) .nil)).mono m2 fun _ _ z => z
  stop := fun i W1 g k e => by
    rw [enL_get, Nat.zero_add] at e
    refine ⟨?_, vs, us, h1.its W1 g k, rfl, h2.its W1 g k, rfl⟩
    rw [h1.rd.length, h2.rd.length]
    cases hd : (zipL ds es)[i]? with
    | none => exact zip_none hd
    | some d0 => rw [hd] at e; cases e
@[simp] def wEnum (w : EW M) : IW M := fun ρ g q => w ρ g fun d g' => ∃ ds, itemsOf d = some ds ∧ q (enL 0 ds) g'
@[simp] def wZip (wa wb : EW M) : IW M := fun ρ g q => wa ρ g fun d g1 => wb ρ g1 fun e g2 => ∃ ds es, itemsOf d = some ds ∧ itemsOf e = some es ∧ q (zipL ds es) g2
@[simp] def wEnZip (wa wb : EW M) : IW M := fun ρ g q => wa ρ g fun d g1 => wb ρ g1 fun e g2 => ∃ ds es, itemsOf d = some ds ∧ itemsOf e = some es ∧ q (enL 0 (zipL ds es)) g2
theorem di_enum {tg : Expr} (hm : C.X.mg "enumerate" = none) (he : DE C e we) (hg : Gl C.X "enumerate" := by rfl) (hs : starEach [e] C.X.env = [(false, eval e C.X.env)] := by rfl) (hs2 : starEach [e] C.X.env = (false, eval e C.X.env) :: starEach [] C.X.env := by rfl) :
    DI C tg (.Call (.Name "enumerate" p) [e] [] pos) (wEnum we) := ⟨fun σ ρ W R q S hR hw => iOf_of (pi_en hg hm (pa_cons pe_tOf pa_nil hs2) hs) (he.run σ ρ W _ _ S (fun v d W1 g1 k1 r1 q1 => by
  obtain ⟨ds, hd, q1⟩ := q1
  obtain ⟨S', vs, rfl, sq⟩ := sqd_of k1 r1 hd
  exact ⟨S', vs, rfl, sq.its W1 (Gs.refl _) k1, hR _ _ W1 g1 k1 (wk_en k1 sq) q1⟩) hw)⟩
variable {a b : Expr} {wa wb : EW M} {p2 pos2 : Pos}
theorem di_zip {tg : Expr} (hm : C.X.mg "zip" = none) (ha : DE C a wa) (hb : DE C b wb) (hg : Gl C.X "zip" := by rfl) (hs : starEach [a, b] C.X.env = (false, eval a C.X.env) :: starEach [b] C.X.env := by rfl) (hs2 : starEach [b] C.X.env = (false, eval b C.X.env) :: starEach [] C.X.env := by rfl)
    (hpl : (backTo pos (starEach [b] C.X.env)).any (·.1) = false := by rfl) : DI C tg (.Call (.Name "zip" p) [a, b] [] pos) (wZip wa wb) := ⟨fun σ ρ W R q S hR hw => iOf_of (pi_zi hg hm (pa_cons pe_tOf (pa_cons pe_tOf pa_nil hs2) hs) hs hpl)
  (ha.run σ ρ W _ _ S (fun v d W1 g1 k1 r1 q1 => hb.run σ ρ W1 _ _ (S.step g1 k1) (fun u e W2 g2 k2 r2 q2 => by
  obtain ⟨ds, es, hd, he, q2⟩ := q2
  obtain ⟨S1, vs, rfl, s1⟩ := sqd_of k2 (r1.step g2) hd
  obtain ⟨S2, us, rfl, s2⟩ := sqd_of k2 r2 he
  exact ⟨S1, S2, vs, us, rfl, s1.its W2 (Gs.refl _) k2, s2.its W2 (Gs.refl _) k2, hR _ _ W2 (g1.trans g2) k2 (wk_zi s1 s2) q2⟩) q1) hw)⟩
theorem di_enzip {tg : Expr} (hme : C.X.mg "enumerate" = none) (hm : C.X.mg "zip" = none) (ha : DE C a wa) (hb : DE C b wb) (hge : Gl C.X "enumerate" := by rfl) (hg : Gl C.X "zip" := by rfl)
    (hse : starEach [.Call (.Name "zip" p2) [a, b] [] pos2] C.X.env = (false, eval (.Call (.Name "zip" p2) [a, b] [] pos2) C.X.env) :: starEach [] C.X.env := by rfl) (hs : starEach [a, b] C.X.env = (false, eval a C.X.env) :: starEach [b] C.X.env := by rfl) (hs2 : starEach [b] C.X.env = (false, eval b C.X.env) :: starEach [] C.X.env := by rfl)
    (hpl : (backTo pos2 (starEach [b] C.X.env)).any (·.1) = false := by rfl) : DI C tg (.Call (.Name "enumerate" p) [.Call (.Name "zip" p2) [a, b] [] pos2] [] pos) (wEnZip wa wb) := ⟨fun σ ρ W R q S hR hw => iOf_of (pi_ez hge hme hg hm (pa_cons pe_tOf (pa_cons pe_tOf pa_nil hs2) hs) hse hs hpl)
  (ha.run σ ρ W _ _ S (fun v d W1 g1 k1 r1 q1 => hb.run σ ρ W1 _ _ (S.step g1 k1) (fun u e W2 g2 k2 r2 q2 => by
  obtain ⟨ds, es, hd, he, q2⟩ := q2
  obtain ⟨S1, vs, rfl, s1⟩ := sqd_of k2 (r1.step g2) hd
  obtain ⟨S2, us, rfl, s2⟩ := sqd_of k2 r2 he
  exact ⟨S1, S2, vs, us, rfl, s1.its W2 (Gs.refl _) k2, s2.its W2 (Gs.refl _) k2, hR _ _ W2 (g1.trans g2) k2 (wk_ez s1 s2) q2⟩) q1) hw)⟩
end
end DL
set_option Elab.async false
set_option linter.all false
set_option maxRecDepth 100000
set_option maxHeartbeats 1000000
namespace DL
open PySem PySem.Spec PyProof.Rows L2
theorem en_no_len : typeLookup (.type "enumerate") "__len__" = pure none := by rw [typeLookup_type, builtinLookup_eq_fast]; kernel_rfl
theorem en_no_hint : typeLookup (.type "enumerate") "__length_hint__" = pure none := by rw [typeLookup_type, builtinLookup_eq_fast]; kernel_rfl
theorem zi_no_len : typeLookup (.type "zip") "__len__" = pure none := by rw [typeLookup_type, builtinLookup_eq_fast]; kernel_rfl
theorem zi_no_hint : typeLookup (.type "zip") "__length_hint__" = pure none := by rw [typeLookup_type, builtinLookup_eq_fast]; kernel_rfl
section
variable {X : Cx} {pins : List (Addr × Obj)} {σ : L2.St}
/-- an untracked list S is tracked at last -/
theorem track {H : Hp} {s : Shared} {S : Addr} {vs : List V} {us : List Value} {c : Nat} (I : Inv X pins σ H s) (hf : FpOk X pins H S) (hz : vs.length ≤ sizeLine) (r : Vals vs us) (hS : s.heap.get? S = some { cls := .type "list", dict := none, data := .seq us.toArray c, slots := #[] }) :
    Inv X pins σ (upd H S (.lst vs)) s := by
  have hn := hf.1
  refine I.step (g' := s.gens) (d' := s.drawn) (t' := s.toks) (h' := s.heap) (ch := [S]) (fun b hb => by rw [List.mem_singleton.mp hb]; exact ⟨hf.2.2.2.1, hf.2.1, hf.2.2.2.2.1, hf.2.2.2.2.2⟩) (fun b o _ _ _ e _ => e) (fun b o _ _ _ e _ => ⟨o.slots, e⟩)
    (fun b o hb e n => ?_) (fun b o _ e => ⟨o, e⟩) (fun b xs e => ?_) (fun b o u e => ?_) (fun b ps e => ⟨#[], ?_⟩) (fun m hm => hm) (fun b u e => ?_) I.bare
  · rw [upd_ne (fun z => hb (by simp [z]))]; exact n
  · rw [upd_ne (ne_of_none e hn)]; exact e
  · rw [upd_ne (ne_of_none e hn)]; exact e
  · rw [upd_ne (ne_of_none e hn), e]; simp
  · by_cases hb : b = S
    · subst hb
      rw [upd_same] at e
      cases e
      exact ⟨hz, us, c, r, hS⟩
    · rw [upd_ne hb] at e
      exact (I.hok b u e).stay (fun c v hc q => q) (fun c q => by rw [upd_ne (ne_of_none q hn)]; exact q) fun c xs q => by rw [upd_ne (ne_of_none q hn)]; exact q
theorem fpAt {H H' : Hp} {b : Addr} (h : FpOk X pins H b) (n : H' b = none) : FpOk X pins H' b := ⟨n, h.2⟩
/-- the turns of list.extend -/
theorem ext_loop {J : It} {fp : List Addr} {it : Addr} {tn : Nat → Heap → Prop} {n : Nat} (p : Pull X.prog X.w X.K J fp it tn) {A : Around} (hh : A.handled = none) {S : Addr} (hSf : S ∉ fp) (res : Value) (Good : Nat → Hp → List V → Prop)
    (go : ∀ i H vs, Good i H vs → i < n → J.go i H ∧ ∀ x H', J.yld i H x H' → Good (i + 1) H' (vs ++ [x])) (stop : ∀ H vs, Good n H vs → J.stop n H) (hn : n ≤ sizeLine) {R : Result → Shared → Prop} :
    ∀ (k i : Nat) (s : Shared) (H : Hp) (vs : List V) (us : List Value) (c : Nat), n - i = k → i ≤ n → Good i H vs → Inv X pins σ H s → (∀ b ∈ fp, FpOk X pins H b) → FpOk X pins H S → tn i s.heap → s.heap.get? S = some { cls := .type "list", dict := none, data := .seq us.toArray c, slots := #[] } → Vals vs us → vs.length = i →
    (∀ s' H' vs' us' c', Good n H' vs' → Inv X pins σ H' s' → FpOk X pins H' S → s'.heap.get? S = some { cls := .type "list", dict := none, data := .seq us'.toArray c', slots := #[] } → Vals vs' us' → vs'.length = n → R (.ok (.ret res)) s') →
    codeAny (model X.prog X.w) A (.builtin "list.extend.loop" ⟨[.ref S, .ref it, res], []⟩) R s := by
  intro k
  induction k with
  | zero =>
    intro i s H vs us c hk hi hg I hf hfS st hS rv hl hR
    have hin : i = n := by omega
    subst hin
    refine codeAny_builtin PySem.F.entry_extend_loop ?_
    rw [Around.under_plainId PySem.F.plain_extend_loop _]
    show wpAny _ A.in1 (pyNext (.ref it) >>= _) _ _ s
    have keepS : ∀ s', Inv X pins σ H s' → True := fun _ _ => trivial
    -- the end does not touch S: S is pinned
    have hS0 := hS
    have Ip : Inv X ((S, { cls := .type "list", dict := none, data := .seq us.toArray c, slots := #[] }) :: pins) σ H s := by
      refine ⟨I.ok, I.os, I.bare, I.base, I.loc, I.cell, I.free, I.freeC, fun q hq => ?_, I.hok, I.len⟩
      rcases List.mem_append.mp hq with hq | hq
      · exact I.pin q (List.mem_append_left _ hq)
      · rcases List.mem_cons.mp hq with rfl | hq
        · exact ⟨hS, hfS.1, hfS.2.1, hfS.2.2.1, fun v z => nomatch z⟩
        · exact I.pin q (List.mem_append_right _ hq)
    have hf' : ∀ b ∈ fp, FpOk X ((S, { cls := .type "list", dict := none, data := .seq us.toArray c, slots := #[] }) :: pins) H b := fun b hb => by
      obtain ⟨f0, f1, f2, f3, f4, f5⟩ := hf b hb
      refine ⟨f0, f1, f2, f3, f4, fun q hq => ?_⟩
      rcases List.mem_append.mp hq with hq | hq
      · exact f5 q (List.mem_append_left _ hq)
      · rcases List.mem_cons.mp hq with rfl | hq
        · exact fun z => hSf ((show S = b from z) ▸ hb)
        · exact f5 q (List.mem_append_right _ hq)
    refine wpAny_bind (thn (p.done X rfl rfl rfl A.in1 hh i _ s σ H _ Ip hf' st (stop H vs hg)) fun r s' ⟨hr, I'⟩ => ?_)
    subst hr
    have hS' := (I'.pin (S, { cls := .type "list", dict := none, data := .seq us.toArray c, slots := #[] }) (List.mem_append_right _ List.mem_cons_self)).1
    have I2 : Inv X pins σ H s' := ⟨I'.ok, I'.os, I'.bare, I'.base, I'.loc, I'.cell, I'.free, I'.freeC, fun q hq => I'.pin q (by
      rcases List.mem_append.mp hq with hq | hq
      · exact List.mem_append_left _ hq
      · exact List.mem_append_right _ (List.mem_cons_of_mem _ hq)), I'.hok, I'.len⟩
    exact wpAny_pure (hR s' H vs us c hg I2 hfS hS' rv hl)
  | succ k ih =>
    intro i s H vs us c hk hi hg I hf hfS st hS rv hl hR
    have hlt : i < n := by omega
    refine codeAny_builtin PySem.F.entry_extend_loop ?_
    rw [Around.under_plainId PySem.F.plain_extend_loop _]
    show wpAny _ A.in1 (pyNext (.ref it) >>= _) _ _ s
    have Ip : Inv X ((S, { cls := .type "list", dict := none, data := .seq us.toArray c, slots := #[] }) :: pins) σ H s := by
      refine ⟨I.ok, I.os, I.bare, I.base, I.loc, I.cell, I.free, I.freeC, fun q hq => ?_, I.hok, I.len⟩
      rcases List.mem_append.mp hq with hq | hq
      · exact I.pin q (List.mem_append_left _ hq)
      · rcases List.mem_cons.mp hq with rfl | hq
        · exact ⟨hS, hfS.1, hfS.2.1, hfS.2.2.1, fun v z => nomatch z⟩
        · exact I.pin q (List.mem_append_right _ hq)
    have hf' : ∀ b ∈ fp, FpOk X ((S, { cls := .type "list", dict := none, data := .seq us.toArray c, slots := #[] }) :: pins) H b := fun b hb => by
      obtain ⟨f0, f1, f2, f3, f4, f5⟩ := hf b hb
      refine ⟨f0, f1, f2, f3, f4, fun q hq => ?_⟩
      rcases List.mem_append.mp hq with hq | hq
      · exact f5 q (List.mem_append_left _ hq)
      · rcases List.mem_cons.mp hq with rfl | hq
        · exact fun z => hSf ((show S = b from z) ▸ hb)
        · exact f5 q (List.mem_append_right _ hq)
    obtain ⟨jg, jy⟩ := go i H vs hg hlt
    refine wpAny_bind (thn (p.item X rfl rfl rfl A.in1 hh i _ s σ H _ Ip hf' st jg) fun r s' ⟨u, hr, x, H', I', rel, y, st', fn⟩ => ?_)
    subst hr
    have hS' := (I'.pin (S, { cls := .type "list", dict := none, data := .seq us.toArray c, slots := #[] }) (List.mem_append_right _ List.mem_cons_self)).1
    have I2 : Inv X pins σ H' s' := ⟨I'.ok, I'.os, I'.bare, I'.base, I'.loc, I'.cell, I'.free, I'.freeC, fun q hq => I'.pin q (by
      rcases List.mem_append.mp hq with hq | hq
      · exact List.mem_append_left _ hq
      · exact List.mem_append_right _ (List.mem_cons_of_mem _ hq)), I'.hok, I'.len⟩
    have hg' := jy x H' y
    have nS := (I'.pin (S, { cls := .type "list", dict := none, data := .seq us.toArray c, slots := #[] }) (List.mem_append_right _ List.mem_cons_self)).2.1
    have hfS' : FpOk X pins H' S := fpAt hfS nS
    show wpAny _ A.in1 (updateSeq S (·.push u) >>= _) _ _ _
    refine wpAny_bind ?_
    have hsz : us.toArray.size = i := by rw [List.size_toArray, ← rv.length, hl]
    have hS5 : ∃ c', (s'.heap.update S (Obj.mapSeq (·.push u))).get? S = some { cls := .type "list", dict := none, data := .seq (us ++ [u]).toArray c', slots := #[] } := by
      have := Heap.get?_update_self (Obj.mapSeq (·.push u)) hS' rfl
      rw [this]
      simp [Obj.mapSeq]
    obtain ⟨c5, hS5⟩ := hS5
    refine wpAny_updateSeq hS' rfl (wpAny_pure ⟨plainId_quiet PySem.F.plain_extend_loop _, ih (i + 1) _ H' (vs ++ [x]) (us ++ [u]) c5 (by omega) hlt hg' ?_ (fun b hb => fpAt (hf b hb) (fn b hb)) hfS' (p.keep _ _ _ st' fun b hb o e => ?_) hS5 (rv.append (.cons rel .nil)) (by rw [List.length_append, hl]; rfl) hR⟩)
      (by rw [hsz]; omega) (by show (us.toArray.push u).size ≤ sizeLine + 1; rw [Array.size_push, hsz]; omega)
    · exact I2.turnedL (t' := s'.toks) (ch := [S]) (fun b o hb e => (Heap.get?_update_other _ _ (fun h : S = b => hb (by rw [h]; exact List.mem_singleton_self _))).trans e) fun b hb => by rw [List.mem_singleton.mp hb]; exact hfS'
    · exact (Heap.get?_update_other _ _ (fun h : S = b => hSf (by rw [h]; exact hb))).trans e
theorem list_pull {H : Hp} {s : Shared} {T : String} {J : It} {fp : List Addr} {it : Addr} {tn : Nat → Heap → Prop} {n : Nat} (I : Inv X pins σ H s) (p : Pull X.prog X.w X.K J fp it tn) (hf : ∀ b ∈ fp, FpOk X pins H b) (st : tn 0 s.heap)
    (self : ∀ (A : Around) (i : Nat) (s : Shared) (Q : Value → Shared → Prop) (E : Value → Shared → Prop), tn i s.heap → Q (.ref it) s → wpAny (model X.prog X.w) A (pyIter (.ref it)) Q E s) (ty : ∀ i (s : Shared), tn i s.heap → s.TypeIs (.ref it) T)
    (n1 : (Value.type T == Value.type "list") = false) (n2 : (Value.type T == Value.type "tuple") = false) (no1 : typeLookup (.type T) "__len__" = pure none) (no2 : typeLookup (.type T) "__length_hint__" = pure none)
    (Good : Nat → Hp → List V → Prop) (g0 : Good 0 H []) (go : ∀ i H vs, Good i H vs → i < n → J.go i H ∧ ∀ x H', J.yld i H x H' → Good (i + 1) H' (vs ++ [x]))
    (stop : ∀ H vs, Good n H vs → J.stop n H) (hn : n ≤ sizeLine) {A : Around} (hh : A.handled = none) {Q : Value → Shared → Prop} {E : Value → Shared → Prop}
    (hQ : ∀ D H' vs s', Good n H' vs → H' D = none → vs.length = n → Inv X pins σ (upd H' D (.lst vs)) s' → Q (.ref D) s') : wpAny (model X.prog X.w) A (call (.type "list") [.ref it]) Q E s := by
  have hSf : s.heap.objs.size ∉ fp := fun hm => by
    obtain ⟨o, e, _⟩ := p.obj 0 _ st _ hm
    exact Nat.lt_irrefl _ (Heap.lt_size e)
  have hSi : s.heap.objs.size ≠ it := fun e => hSf (e ▸ p.mem)
  refine callType_codes (Q₁ := fun obj s₁ => obj = .ref s.heap.objs.size ∧ s₁ = { s with heap := s.heap.push { cls := .type "list", data := .seq #[] } }) PySem.F.called_list (PySem.F.typeCall_list_1 _) PySem.F.entry_list_init
    (code_list_new _ ⟨rfl, rfl⟩) fun obj s₁ h₁ => ?_
  obtain ⟨rfl, rfl⟩ := h₁
  have hS : (s.heap.push { cls := .type "list", data := .seq #[] }).get? s.heap.objs.size = some { cls := .type "list", data := .seq #[] } := Heap.get?_push_size _ rfl
  refine ⟨⟨_, hS, rfl⟩, PySem.F.args_list_init_2 _ _, ?_⟩
  have I1 : Inv X pins σ H { s with heap := s.heap.push { cls := .type "list", data := .seq #[] } } := I.kept (t' := s.toks) fun b o e => Heap.get?_push_of_some _ e
  have fS : FpOk X pins H s.heap.objs.size := I.fpOk (Nat.le_refl _) (I.hok.fresh (Nat.le_refl _))
  have stAt : ∀ h', (∀ b o, b ≠ s.heap.objs.size → (s.heap.push { cls := .type "list", data := .seq #[] }).get? b = some o → h'.get? b = some o) → tn 0 h' := fun h' k => p.keep _ _ _ st fun b hb o e => k b o (fun z => hSf (z ▸ hb)) (Heap.get?_push_of_some _ e)
  have invAt : ∀ h', (∀ b o, b ≠ s.heap.objs.size → (s.heap.push { cls := .type "list", data := .seq #[] }).get? b = some o → h'.get? b = some o) → Inv X pins σ H { s with heap := h' } := fun h' k =>
    Inv.turnedL (s := { s with heap := s.heap.push { cls := .type "list", data := .seq #[] } }) (h' := h') I1 (t' := s.toks) (ch := [s.heap.objs.size]) (fun b o hb e => k b o (fun z => hb (by simp [z])) e) fun b hb => by rw [List.mem_singleton.mp hb]; exact fS
  show wpAny _ _ (do let old ← Builtin.List.listItems (.ref s.heap.objs.size); Builtin.List.listUpdate (.ref s.heap.objs.size) (fun _ => #[]); letGo old.toList.reverse; Builtin.List.listExtendWith (.ref s.heap.objs.size) (.ref it) .none) _ _ _
  refine wpAny_bind ?_
  unfold Builtin.List.listItems
  refine wpAny_bind (wpAny_seqItems hS rfl (wpAny_pure ?_))
  show wpAny _ _ (updateSeq s.heap.objs.size (fun _ => #[]) >>= fun _ => letGo (#[] : Array Value).toList.reverse >>= fun _ => Builtin.List.listExtendWith (.ref s.heap.objs.size) (.ref it) .none) _ _ _
  refine wpAny_bind (wpAny_updateSeq hS rfl ?_)
  have hS₂ := Heap.get?_update_self (Obj.mapSeq (fun _ => (#[] : Array Value))) hS rfl
  have oth : ∀ b o, b ≠ s.heap.objs.size → (s.heap.push { cls := .type "list", data := .seq #[] }).get? b = some o → ((s.heap.push { cls := .type "list", data := .seq #[] }).update s.heap.objs.size (Obj.mapSeq (fun _ => (#[] : Array Value)))).get? b = some o :=
    fun b o hb e => (Heap.get?_update_other _ _ (Ne.symm hb)).trans e
  generalize hh2 : (s.heap.push { cls := .type "list", data := .seq #[] }).update s.heap.objs.size (Obj.mapSeq (fun _ => (#[] : Array Value))) = h2 at hS₂ oth
  refine wpAny_bind (wpAny_letGo ?_)
  unfold Builtin.List.listExtendWith
  have st2 := stAt h2 oth
  refine wpAny_bind (wpAny_typeOf (ty 0 _ st2) ?_)
  have h1 : Builtin.List.listSameRef (.ref s.heap.objs.size) (.ref it) = false := by simp [Builtin.List.listSameRef, hSi]
  simp only [h1, n1, n2, Bool.or_false, Bool.false_eq_true, if_false]
  refine wpAny_bind (self _ 0 _ _ _ st2 ?_)
  refine wpAny_bind (wpAny_holding ?_)
  unfold Builtin.List.listLengthHint
  refine wpAny_bind (wpAny_specialOf (ty 0 _ st2) no1 ?_)
  show wpAny _ _ (specialOf (Value.ref it) (Str.ofString "__length_hint__") >>= _) _ _ _
  refine wpAny_bind (wpAny_specialOf (ty 0 _ st2) no2 ?_)
  refine wpAny_pure ?_
  show wpAny _ _ (rule "list.extend.makes-room" >>= fun _ => Builtin.List.listTouch (.ref s.heap.objs.size) >>= fun _ => again (.builtin "list.extend.loop" ⟨[.ref s.heap.objs.size, .ref it, .none], []⟩)) _ _ _
  refine wpAny_bind (wpAny_rule ?_)
  refine wpAny_bind ?_
  show wpAny _ _ (updateSeq s.heap.objs.size (·.push .none) >>= fun _ => updateSeq s.heap.objs.size (·.pop)) _ _ _
  refine wpAny_bind (wpAny_updateSeq hS₂ rfl ?_)
  have hS₃ := Heap.get?_update_self (Obj.mapSeq (·.push Value.none)) hS₂ rfl
  refine wpAny_updateSeq (hz := by seq_fits) hS₃ rfl ?_
  have hS₄ := Heap.get?_update_self (Obj.mapSeq (·.pop)) hS₃ rfl
  have oth4 : ∀ b o, b ≠ s.heap.objs.size → (s.heap.push { cls := .type "list", data := .seq #[] }).get? b = some o → ((h2.update s.heap.objs.size (Obj.mapSeq (·.push Value.none))).update s.heap.objs.size (Obj.mapSeq (·.pop))).get? b = some o :=
    fun b o hb e => (Heap.get?_update_other _ _ (Ne.symm hb)).trans ((Heap.get?_update_other _ _ (Ne.symm hb)).trans (oth b o hb e))
  refine wpAny_pure ⟨plainId_quiet PySem.F.plain_extend_loop _, ?_⟩
  have I4 := invAt _ oth4
  refine ext_loop (n := n) p (A := A.in1) (show A.in1.handled = none from hh) hSf .none Good go stop hn _ 0 _ H [] [] _ rfl (Nat.zero_le _) g0 I4 hf fS (stAt _ oth4) hS₄ .nil rfl fun s' H' vs' us' c' hg' I' fS' hS' rv hl => ?_
  exact ⟨rfl, hQ _ H' vs' s' hg' fS'.1 hl (track I' fS' (by rw [hl]; exact hn) rv hS')⟩
end
def PullE (X : Cx) (pins : List (Addr × Obj)) (σ : L2.St) (R : It → Hp → Prop) (v : Value) (s2 : Shared) : Prop :=
  ∃ (T : String) (it : Addr) (fp : List Addr) (tn : Nat → Heap → Prop) (J : It) (H' : Hp), v = .ref it ∧ Inv X pins σ H' s2 ∧ Pull X.prog X.w X.K J fp it tn ∧ tn 0 s2.heap ∧ (∀ b ∈ fp, FpOk X pins H' b) ∧ R J H' ∧
    (∀ (A : Around) (i : Nat) (s : Shared) (Q : Value → Shared → Prop) (E : Value → Shared → Prop), tn i s.heap → Q (.ref it) s → wpAny (model X.prog X.w) A (pyIter (.ref it)) Q E s) ∧ (∀ i (s : Shared), tn i s.heap → s.TypeIs (.ref it) T) ∧
    (Value.type T == Value.type "list") = false ∧ (Value.type T == Value.type "tuple") = false ∧ typeLookup (.type T) "__len__" = pure none ∧ typeLookup (.type T) "__length_hint__" = pure none
structure PJ (X : Cx) (iter : Expr) (wi : TI) : Prop where
  run : ∀ (pins : List (Addr × Obj)) (s : Shared) (σ : L2.St) (H : Hp) (R : It → Hp → Prop), Inv X pins σ H s → wi σ H R → wpAny (model X.prog X.w) X.A (eval iter X.env) (PullE X pins σ R) X.xe s
theorem pj_en {X : Cx} {e : Expr} {ta : TA} {p pos : Pos} (hg : Gl X "enumerate") (hm : X.mg "enumerate" = none) (ha : PA X [e] ta) (hs : starEach [e] X.env = [(false, eval e X.env)] := by rfl) :
    PJ X (.Call (.Name "enumerate" p) [e] [] pos) (iEn X.K ta) := by
  refine ⟨fun pins s σ H R I h => ?_⟩
  refine Call_ (ld_blt I hg hm boot_enumerate (PyProof.Rows.callWith_type1 (thn (ha.run pos pins s σ H _ I h) fun us s1 ⟨vs, H1, I1, r1, q1⟩ => ?_) hs rfl))
  obtain ⟨S, xs, rfl, hq, q⟩ := q1
  obtain ⟨u, rfl, ru⟩ := vals1 r1
  obtain ⟨t, rfl⟩ := Sq.rel ru
  obtain ⟨Hp, B, hHp⟩ := Sq.begins I1 hq t
  have lt := Sq.addr_lt I1 hq
  refine en_begins (itA := fun h => h.objs.size) (grow := fun h => h.push (S.obj t)) (fun prog w A E s Q h q => B.iter prog w A E s Q h q) hHp fun h' he hsz hk => ?_
  have hz : (s1.heap.push (S.obj t)).objs.size = s1.heap.objs.size + 1 := Heap.size_push ..
  simp only [hz] at he hsz hk ⊢
  have I2 : Inv X pins σ H1 { s1 with heap := h' } := I1.kept (t' := s1.toks) fun b o e => hk b o (Heap.get?_push_of_some _ e)
  refine ⟨"enumerate", s1.heap.objs.size + 1, [s1.heap.objs.size + 1, s1.heap.objs.size], _, _, H1, rfl, I2, pull_en S t (s1.heap.objs.size + 1) s1.heap.objs.size xs.length (Nat.succ_ne_self _) (fun z => ?_) (fun z => ?_), ⟨Nat.zero_le _, he, Sq.st0 (hk _ _ (Heap.get?_push_size _ B.free))⟩, fun b hb => ?_, q,
    fun A i s Q E st h => iter_en st.2.1 h, fun i s st => ?_, rfl, rfl, en_no_len, en_no_hint⟩
  · have := lt _ z
    exact absurd this (Nat.not_lt_of_le (Nat.le_succ _))
  · exact absurd (lt _ z) (Nat.lt_irrefl _)
  · have e' : b = s1.heap.objs.size + 1 ∨ b = s1.heap.objs.size := by simpa using hb
    have hle : s1.heap.objs.size ≤ b := by
      rcases e' with z | z
      · rw [z]; exact Nat.le_add_right _ _
      · rw [z]; exact Nat.le_refl _
    exact I1.fpOk hle (I1.hok.fresh hle)
  · obtain ⟨_, ⟨_, _, _, _, q⟩, _⟩ := st
    exact ⟨_, q, rfl⟩
theorem pj_zi {X : Cx} {e e2 : Expr} {ta : TA} {p pos : Pos} (hg : Gl X "zip") (hm : X.mg "zip" = none) (ha : PA X [e, e2] ta)
    (hs : starEach [e, e2] X.env = (false, eval e X.env) :: starEach [e2] X.env := by rfl) (hpl : (backTo pos (starEach [e2] X.env)).any (·.1) = false := by rfl) :
    PJ X (.Call (.Name "zip" p) [e, e2] [] pos) (iZi X.K ta) := by
  refine ⟨fun pins s σ H R I h => ?_⟩
  refine Call_ (ld_blt I hg hm PyProof.Rows.boot_zip (PyProof.Rows.callWith_type1 (thn (ha.run pos pins s σ H _ I h) fun us s1 ⟨vs, H1, I1, r1, q1⟩ => ?_) hs hpl))
  obtain ⟨S1, S2, xs, ys, rfl, h1, h2, q⟩ := q1
  obtain ⟨u1, u2, rfl, ru1, ru2⟩ := vals2 r1
  obtain ⟨t1, rfl⟩ := Sq.rel ru1
  obtain ⟨t2, rfl⟩ := Sq.rel ru2
  refine zi_begun I1 h1 h2 t1 t2 fun h' D st hsz hk => ?_
  have I2 : Inv X pins σ H1 { s1 with heap := h' } := I1.kept (t' := s1.toks) hk
  refine ⟨"zip", s1.heap.objs.size + 4, _, _, _, H1, rfl, I2, pull_zi t1 t2 xs.length ys.length D, ⟨Nat.zero_le _, st⟩, fun c hcm => ?_, q, fun A i s Q E st h => iter_zi st.2.1 h, fun i s st => ?_, rfl, rfl, zi_no_len, zi_no_hint⟩
  · have e' : c = s1.heap.objs.size + 4 ∨ c = s1.heap.objs.size + 2 ∨ c = s1.heap.objs.size + 3 ∨ c = s1.heap.objs.size ∨ c = s1.heap.objs.size + 1 := by simpa using hcm
    have hle : s1.heap.objs.size ≤ c := by
      rcases e' with z | z | z | z | z
      · rw [z]; exact Nat.le_add_right _ _
      · rw [z]; exact Nat.le_add_right _ _
      · rw [z]; exact Nat.le_add_right _ _
      · rw [z]; exact Nat.le_refl _
      · rw [z]; exact Nat.le_add_right _ _
    exact I1.fpOk hle (I1.hok.fresh hle)
  · obtain ⟨_, ⟨_, _, _, q⟩, _⟩ := st
    exact ⟨_, q, rfl⟩
theorem pj_ez {X : Cx} {e e2 : Expr} {ta : TA} {p pos p2 pos2 : Pos} (hge : Gl X "enumerate") (hme : X.mg "enumerate" = none) (hg : Gl X "zip") (hm : X.mg "zip" = none) (ha : PA X [e, e2] ta)
    (hse : starEach [.Call (.Name "zip" p2) [e, e2] [] pos2] X.env = (false, eval (.Call (.Name "zip" p2) [e, e2] [] pos2) X.env) :: starEach [] X.env := by rfl)
    (hs : starEach [e, e2] X.env = (false, eval e X.env) :: starEach [e2] X.env := by rfl) (hpl : (backTo pos2 (starEach [e2] X.env)).any (·.1) = false := by rfl) :
    PJ X (.Call (.Name "enumerate" p) [.Call (.Name "zip" p2) [e, e2] [] pos2] [] pos) (iEz X.K ta) := by
  refine ⟨fun pins s σ H R I h => ?_⟩
  refine Call_ (ld_blt I hge hme boot_enumerate (PyProof.Rows.callWith_type1 (args_cons ?_ hse) hse rfl))
  refine Call_ (ld_blt I hg hm PyProof.Rows.boot_zip (PyProof.Rows.callWith_type1 (thn (ha.run pos2 pins s σ H _ I h) fun us s1 ⟨vs, H1, I1, r1, q1⟩ => ?_) hs hpl))
  obtain ⟨S1, S2, xs, ys, rfl, h1, h2, q⟩ := q1
  obtain ⟨u1, u2, rfl, ru1, ru2⟩ := vals2 r1
  obtain ⟨t1, rfl⟩ := Sq.rel ru1
  obtain ⟨t2, rfl⟩ := Sq.rel ru2
  have l1 := Sq.addr_lt I1 h1
  have l2 := Sq.addr_lt I1 h2
  refine zi_begun I1 h1 h2 t1 t2 fun h' D st hsz hk => ?_
  refine args_nil ?_
  refine en_begins (H := fun h => ZiA h (s1.heap.objs.size + 4) (s1.heap.objs.size + 2) (s1.heap.objs.size + 3)) (itA := fun _ => s1.heap.objs.size + 4) (grow := fun h => h) (fun prog w A E s Q h q => iter_zi h q) st.1 fun h'' he hsz2 hk2 => ?_
  replace hk2 : ∀ b o, h'.get? b = some o → h''.get? b = some o := hk2
  replace he : EnA h'' h'.objs.size (s1.heap.objs.size + 4) ((0 : Nat) : Int) := he
  show PullE X pins σ R (.ref h'.objs.size) _
  rw [hsz] at he ⊢
  have I2 : Inv X pins σ H1 { s1 with heap := h'' } := I1.kept (t' := s1.toks) fun b o e => hk2 b o (hk b o e)
  have ne : ∀ (i j : Nat), i ≠ j → (s1.heap.objs.size + i : Nat) ≠ s1.heap.objs.size + j := fun i j h => by omega
  refine ⟨"enumerate", s1.heap.objs.size + 5, _, _, _, H1, rfl, I2, pull_ez t1 t2 xs.length ys.length (s1.heap.objs.size + 5) D ⟨ne 5 4 (by decide), ne 5 2 (by decide), ne 5 3 (by decide), ne 5 0 (by decide), ne 5 1 (by decide)⟩ (fun b hb => Nat.ne_of_lt (Nat.lt_of_lt_of_le (hb.elim (l1 b) (l2 b)) (Nat.le_add_right _ _))),
    ⟨Nat.zero_le _, he, st.keep fun b _ o e => hk2 b o e⟩, fun c hcm => ?_, q, fun A i s Q E st h => iter_en st.2.1 h, fun i s st => ?_, rfl, rfl, en_no_len, en_no_hint⟩
  · have hle : s1.heap.objs.size ≤ c := by
      have e' : c = s1.heap.objs.size + 5 ∨ c = s1.heap.objs.size + 4 ∨ c = s1.heap.objs.size + 2 ∨ c = s1.heap.objs.size + 3 ∨ c = s1.heap.objs.size ∨ c = s1.heap.objs.size + 1 := by simpa using hcm
      rcases e' with z | z | z | z | z | z
      · rw [z]; exact Nat.le_add_right _ _
      · rw [z]; exact Nat.le_add_right _ _
      · rw [z]; exact Nat.le_add_right _ _
      · rw [z]; exact Nat.le_add_right _ _
      · rw [z]; exact Nat.le_refl _
      · rw [z]; exact Nat.le_add_right _ _
    exact I1.fpOk hle (I1.hok.fresh hle)
  · obtain ⟨_, ⟨_, _, _, _, q⟩, _⟩ := st
    exact ⟨_, q, rfl⟩
/-- list(iterator) -/
def tLI (wi : TI) : TE := fun σ H Q => wi σ H fun J H1 => ∃ (n : Nat) (Good : Nat → Hp → List V → Prop), Good 0 H1 [] ∧ (∀ i H vs, Good i H vs → i < n → J.go i H ∧ ∀ x H', J.yld i H x H' → Good (i + 1) H' (vs ++ [x])) ∧ (∀ H vs, Good n H vs → J.stop n H) ∧ n ≤ sizeLine ∧
  ∀ D H' vs, Good n H' vs → H' D = none → vs.length = n → Q (.ref D) (upd H' D (.lst vs))
theorem pe_listI {X : Cx} {e : Expr} {wi : TI} {p pos : Pos} (hc : X.calm = true) (hg : Gl X "list") (hm : X.mg "list" = none) (hj : PJ X e wi) (hs : starEach [e] X.env = (false, eval e X.env) :: starEach [] X.env := by rfl) :
    PE X (.Call (.Name "list" p) [e] [] pos) (tLI wi) := by
  refine ⟨fun pins s σ H Q I h => ?_⟩
  refine Call_ (ld_blt I hg hm boot_list (PyProof.Rows.callWith_type1 (args_cons (thn (hj.run pins s σ H _ I h) fun v s1 x => ?_) hs) hs rfl))
  obtain ⟨T, it, fp, tn, J, H1, rfl, I1, P, st, hf, ⟨n, Good, g0, go, stop, hn, q⟩, self, ty, n1, n2, l1, l2⟩ := x
  refine args_nil ?_
  exact list_pull I1 P hf st self ty n1 n2 l1 l2 Good g0 go stop hn (I1.ok.hd hc) fun D H' vs s' hg' hD hl I' => ⟨.ref D, _, I', rfl, q D H' vs hg' hD hl⟩
section
variable {M : Ghost} {C : Ct M} {W W1 W2 W' : Wd M} {σ : L2.St} {ρ : DEnv} {e : Expr} {we : EW M} {pos p : Pos}
def jOf (X : Cx) (iter : Expr) : TI := fun σ H R => ∀ (pins : List (Addr × Obj)) (s : Shared), Inv X pins σ H s → wpAny (model X.prog X.w) X.A (eval iter X.env) (PullE X pins σ R) X.xe s
theorem pj_tOf {X : Cx} {iter : Expr} : PJ X iter (jOf X iter) := ⟨fun pins s _ _ _ I h => h pins s I⟩
theorem jOf_of {X : Cx} {iter : Expr} {t : TI} (h : PJ X iter t) {H : Hp} {R : It → Hp → Prop} (q : t σ H R) : jOf X iter σ H R := fun pins s I => h.run pins s σ H R I q
structure DJ (C : Ct M) (iter : Expr) (w : IW M) : Prop where
  run : ∀ (σ : L2.St) (ρ : DEnv) (W : Wd M) (R : It → Hp → Prop) (q : List D → M.G → Prop), Sat C σ ρ W → (∀ J ds W', Go W W' → Wok C.X.K W' → WK C.X.K W' J ds → q ds W'.g → R J W'.H) → w ρ W.g q → jOf C.X iter σ W.H R
theorem dj_enum (hm : C.X.mg "enumerate" = none) (he : DE C e we) (hg : Gl C.X "enumerate" := by rfl) (hs : starEach [e] C.X.env = [(false, eval e C.X.env)] := by rfl) (hs2 : starEach [e] C.X.env = (false, eval e C.X.env) :: starEach [] C.X.env := by rfl) :
    DJ C (.Call (.Name "enumerate" p) [e] [] pos) (wEnum we) := ⟨fun σ ρ W R q S hR hw => jOf_of (pj_en hg hm (pa_cons pe_tOf pa_nil hs2) hs) (he.run σ ρ W _ _ S (fun v d W1 g1 k1 r1 q1 => by
  obtain ⟨ds, hd, q1⟩ := q1
  obtain ⟨S', vs, rfl, sq⟩ := sqd_of k1 r1 hd
  exact ⟨S', vs, rfl, sq.its W1 (Gs.refl _) k1, hR _ _ W1 g1 k1 (wk_en k1 sq) q1⟩) hw)⟩
variable {a b : Expr} {wa wb : EW M} {p2 pos2 : Pos}
theorem dj_zip (hm : C.X.mg "zip" = none) (ha : DE C a wa) (hb : DE C b wb) (hg : Gl C.X "zip" := by rfl) (hs : starEach [a, b] C.X.env = (false, eval a C.X.env) :: starEach [b] C.X.env := by rfl) (hs2 : starEach [b] C.X.env = (false, eval b C.X.env) :: starEach [] C.X.env := by rfl)
    (hpl : (backTo pos (starEach [b] C.X.env)).any (·.1) = false := by rfl) : DJ C (.Call (.Name "zip" p) [a, b] [] pos) (wZip wa wb) := ⟨fun σ ρ W R q S hR hw => jOf_of (pj_zi hg hm (pa_cons pe_tOf (pa_cons pe_tOf pa_nil hs2) hs) hs hpl)
  (ha.run σ ρ W _ _ S (fun v d W1 g1 k1 r1 q1 => hb.run σ ρ W1 _ _ (S.step g1 k1) (fun u e W2 g2 k2 r2 q2 => by
  obtain ⟨ds, es, hd, he, q2⟩ := q2
  obtain ⟨S1, vs, rfl, s1⟩ := sqd_of k2 (r1.step g2) hd
  obtain ⟨S2, us, rfl, s2⟩ := sqd_of k2 r2 he
  exact ⟨S1, S2, vs, us, rfl, s1.its W2 (Gs.refl _) k2, s2.its W2 (Gs.refl _) k2, hR _ _ W2 (g1.trans g2) k2 (wk_zi s1 s2) q2⟩) q1) hw)⟩
theorem dj_enzip (hme : C.X.mg "enumerate" = none) (hm : C.X.mg "zip" = none) (ha : DE C a wa) (hb : DE C b wb) (hge : Gl C.X "enumerate" := by rfl) (hg : Gl C.X "zip" := by rfl)
    (hse : starEach [.Call (.Name "zip" p2) [a, b] [] pos2] C.X.env = (false, eval (.Call (.Name "zip" p2) [a, b] [] pos2) C.X.env) :: starEach [] C.X.env := by rfl) (hs : starEach [a, b] C.X.env = (false, eval a C.X.env) :: starEach [b] C.X.env := by rfl) (hs2 : starEach [b] C.X.env = (false, eval b C.X.env) :: starEach [] C.X.env := by rfl)
    (hpl : (backTo pos2 (starEach [b] C.X.env)).any (·.1) = false := by rfl) : DJ C (.Call (.Name "enumerate" p) [.Call (.Name "zip" p2) [a, b] [] pos2] [] pos) (wEnZip wa wb) := ⟨fun σ ρ W R q S hR hw => jOf_of (pj_ez hge hme hg hm (pa_cons pe_tOf (pa_cons pe_tOf pa_nil hs2) hs) hse hs hpl)
  (ha.run σ ρ W _ _ S (fun v d W1 g1 k1 r1 q1 => hb.run σ ρ W1 _ _ (S.step g1 k1) (fun u e W2 g2 k2 r2 q2 => by
  obtain ⟨ds, es, hd, he, q2⟩ := q2
  obtain ⟨S1, vs, rfl, s1⟩ := sqd_of k2 (r1.step g2) hd
  obtain ⟨S2, us, rfl, s2⟩ := sqd_of k2 r2 he
  exact ⟨S1, S2, vs, us, rfl, s1.its W2 (Gs.refl _) k2, s2.its W2 (Gs.refl _) k2, hR _ _ W2 (g1.trans g2) k2 (wk_ez s1 s2) q2⟩) q1) hw)⟩
@[simp] def wListI (wi : IW M) : NW M := fun ρ g q => wi ρ g fun ds g' => ds.length ≤ sizeLine ∧ q ds g'
theorem dn_listI {wi : IW M} (hc : C.X.calm = true) (hm : C.X.mg "list" = none) (hj : DJ C e wi) (hg : Gl C.X "list" := by rfl) (hs : starEach [e] C.X.env = (false, eval e C.X.env) :: starEach [] C.X.env := by rfl) :
    DN C (.Call (.Name "list" p) [e] [] pos) (wListI wi) := ⟨fun σ ρ W Q q S hQ hw => tOf_of (pe_listI hc hg hm pj_tOf hs) (hj.run σ ρ W _ _ S (fun J ds W1 g1 k1 wk q1 => by
  refine ⟨ds.length, fun i H vs => ∃ W2 : Wd M, W2.H = H ∧ Go W1 W2 ∧ Wok C.X.K W2 ∧ W2.g = W1.g ∧ RpA C.X.K W2.F W2.R vs (ds.take i), ⟨W1, rfl, Go.refl _, k1, rfl, .nil⟩, fun i H vs hg hi => ?_, fun H vs hg => ?_, q1.1, fun D H' vs hg hD hl => ?_⟩
  · obtain ⟨W2, rfl, g2, k2, e2, r2⟩ := hg
    obtain ⟨go, yl⟩ := wk.go i W2 ds[i] g2.s k2 (List.getElem?_eq_getElem hi)
    refine ⟨go, fun x H' y => ?_⟩
    obtain ⟨W3, rfl, g3, k3, e3, r3⟩ := yl x H' y
    refine ⟨W3, rfl, g2.trans g3, k3, e3.trans e2, ?_⟩
    rw [List.take_succ_eq_append_getElem hi]
    exact (r2.step g3).append (.cons r3 .nil)
  · obtain ⟨W2, rfl, g2, k2, e2, r2⟩ := hg
    exact wk.stop _ W2 g2.s k2 (List.getElem?_eq_none (Nat.le_refl _))
  · obtain ⟨W2, rfl, g2, k2, e2, r2⟩ := hg
    rw [List.take_length] at r2
    refine hQ D vs ds (W2.new D (.lst vs)) ((g1.trans g2).trans (Go.new k2 hD)) (k2.new hD) upd_same (k2.noF hD) (k2.noR hD) (nofresh (g1.trans g2) hD) r2 ?_
    show q ds W2.g
    rw [e2]
    exact q1.2) hw)⟩
end
end DL
set_option Elab.async false
set_option linter.all false
set_option maxRecDepth 100000
set_option maxHeartbeats 1000000
namespace DL
open PySem L2 StX
section
variable {M : Ghost} {C : Ct M} {W W1 W2 W' : Wd M} {σ : L2.St} {ρ : DEnv} {e : Expr} {es : List Expr} {we : EW M} {pos p : Pos} {wa : AW M}

def tyN : D → Option String
  | .non => some "NoneType"
  | .bl _ => some "bool"
  | .int _ => some "int"
  | .str _ => some "str"
  | .lst _ => some "list"
  | .tup _ => some "tuple"
  | .dic _ => some "dict"
  | .ob _ => none
  | .exn _ _ _ => none
  | .tx _ => none
def isTyp (t T : String) : Bool := t == T || (t == "bool" && T == "int")
/-- the answers of isinstance for the class T -/
structure KitTab (K : PySem.W.Frag) (T : String) : Prop where
  ok : ∀ t ∈ ["NoneType", "bool", "int", "str", "list", "tuple", "dict"], PySem.W.kitOne K (.type t) (.type T) = some (isTyp t T)
theorem tyN_mem {d : D} {t : String} (h : tyN d = some t) : t ∈ ["NoneType", "bool", "int", "str", "list", "tuple", "dict"] := by
  cases d <;> cases h <;> decide
theorem tyx_of {K : PySem.W.Frag} {v : V} {d : D} {t : String} (k : Wok K W) (r : RdP K W v d) (h : tyN d = some t) : TyX K W.H v (.type t) := by
  rcases r with r | ⟨p, vs, es, rfl, rfl, hp, np, ra⟩
  · cases r with
    | non => cases h; exact .base .non
    | bl b => cases h; exact .base (.bl b)
    | int i => cases h; exact .base (.int i)
    | str z x hz => cases h; exact .base (.str z)
    | lst hq r => cases h; exact .base (.lst (k.sub _ _ hq))
    | tup hq r =>
      cases h
      rcases hq with (hq | ⟨o, hq⟩) | ⟨o, its, n, hq, hc, _⟩
      · exact .base (.tup (k.sub _ _ hq))
      · exact .fTuple (k.sub _ _ hq)
      · exact .kTuple hq hc
    | dic hq r => cases h; exact .base (.dK (k.sub _ _ hq))
    | ob hq => cases h
    | exn0 => cases h
    | exn => cases h
    | tx => cases h
  · cases h
    exact .base (.lst hp)
def isiD (T : String) (d : D) (q : D → Prop) : Prop := ∃ t, tyN d = some t ∧ q (.bl (isTyp t T))
@[simp] def wIsi (T : String) (we : EW M) : EW M := fun ρ g q => we ρ g fun d g' => isiD T d fun r => q r g'
theorem de_isi {x : Str} {T : String} {pT : Pos} (kt : KitTab C.X.K T) (he : DP C e we) (hm : C.X.mg "isinstance" = none) (hmT : C.X.mg x = none) (hv : bootBuiltins x = some (.type T)) (hnT : x ≠ "__name__" := by decide) (hdT : (x == ("__debug__" : Str)) = false := by decide) (hg : Gl C.X "isinstance" := by rfl) (hgT : Gl C.X x := by rfl)
    (h1 : starEach [e, .Name x pT] C.X.env = (false, eval e C.X.env) :: starEach [.Name x pT] C.X.env := by rfl) (h2 : starEach [.Name x pT] C.X.env = (false, eval (.Name x pT) C.X.env) :: starEach [] C.X.env := by rfl) (hpl : (backTo pos (starEach [.Name x pT] C.X.env)).any (·.1) = false := by rfl) :
    DE C (.Call (.Name "isinstance" p) [e, .Name x pT] [] pos) (wIsi T we) := ⟨fun σ ρ W Q q S hQ hw =>
  tOf_of (pe_callB call_isi hg hm PyProof.Rows.boot_isinstance (pa_cons pe_tOf (pa_cons (pe_bltn (v := .ty T) hgT hmT hv rfl hnT hdT) pa_nil h2) h1) (by decide) (by decide) h1 hpl)
    (he.run σ ρ W _ _ S (fun v d W1 g1 k1 r1 q1 => by
      obtain ⟨t, ht, q1⟩ := q1
      exact ⟨v, .ty T, .type t, .type T, isTyp t T, rfl, .ty T, tyx_of k1 r1 ht, kt.ok t (tyN_mem ht), hQ _ _ W1 g1 k1 (.bl _) q1⟩) hw)⟩
theorem kit_int {K : PySem.W.Frag} : KitTab K "int" := ⟨fun t h => by
  simp only [List.mem_cons, List.not_mem_nil, or_false] at h
  rcases h with rfl | rfl | rfl | rfl | rfl | rfl | rfl <;> rfl⟩
theorem kit_str {K : PySem.W.Frag} : KitTab K "str" := ⟨fun t h => by
  simp only [List.mem_cons, List.not_mem_nil, or_false] at h
  rcases h with rfl | rfl | rfl | rfl | rfl | rfl | rfl <;> rfl⟩
theorem kit_bool {K : PySem.W.Frag} : KitTab K "bool" := ⟨fun t h => by
  simp only [List.mem_cons, List.not_mem_nil, or_false] at h
  rcases h with rfl | rfl | rfl | rfl | rfl | rfl | rfl <;> rfl⟩
theorem kit_tuple {K : PySem.W.Frag} : KitTab K "tuple" := ⟨fun t h => by
  simp only [List.mem_cons, List.not_mem_nil, or_false] at h
  rcases h with rfl | rfl | rfl | rfl | rfl | rfl | rfl <;> rfl⟩
theorem kit_list {K : PySem.W.Frag} : KitTab K "list" := ⟨fun t h => by
  simp only [List.mem_cons, List.not_mem_nil, or_false] at h
  rcases h with rfl | rfl | rfl | rfl | rfl | rfl | rfl <;> rfl⟩

@[simp] def wAStar (w : EW M) (u : AW M) : AW M := fun ρ g q => w ρ g fun d g1 => ∃ ds, (d = .lst ds ∨ d = .tup ds) ∧ u ρ g1 fun es g2 => q (ds ++ es) g2
theorem da_star (he : DP C e we) (hr : DA C es wa) (hs : starEach (.Starred e p :: es) C.X.env = (true, eval e C.X.env) :: starEach es C.X.env := by rfl) : DA C (.Starred e p :: es) (wAStar we wa) := ⟨fun σ ρ W Q q S hQ hw =>
  aOf_of (pa_star pe_tOf pa_tOf hs) (he.run σ ρ W _ _ S (fun v d W1 g1 k1 r1 q1 => by
    obtain ⟨ds, hd, q1⟩ := q1
    have fr : ∃ (a : Addr) (vs : List V), v = .ref a ∧ (SqT C.X.K W1.H a vs ∨ SqL C.X.K W1.H a vs) ∧ RpA C.X.K W1.F W1.R vs ds := by
      rcases hd with rfl | rfl
      · obtain ⟨a, vs, rfl, hp, np, ra⟩ := r1.lst_inv k1
        exact ⟨a, vs, rfl, .inr (.of hp), ra⟩
      · obtain ⟨a, vs, rfl, hp, ra⟩ := r1.tup_inv
        exact ⟨a, vs, rfl, .inl (same_tup k1.sub hp), ra⟩
    obtain ⟨a, vs, rfl, hq, ra⟩ := fr
    exact ⟨a, vs, rfl, hq, hr.run σ ρ W1 _ _ (S.step g1 k1) (fun us es W2 g2 k2 r2 q2 => hQ (vs ++ us) (ds ++ es) W2 (g1.trans g2) k2 ((ra.step g2).append r2) q2) q1⟩) hw)⟩

def cInt : List D → (D → Prop) → Prop
  | [.int i], q => q (.int i)
  | [.bl b], q => q (.int (if b then 1 else 0))
  | [.str x], q => ∃ n, PySem.intText? (S x) = some n ∧ x.length ≤ 640 ∧ q (.int n)
  | _, _ => False
theorem calld_int : CallD C (.type "int") cInt := by
  refine ⟨_, call_int1.or call_int_str, fun W vs ds Q q k r hQ h => ?_⟩
  obtain ⟨d, rfl⟩ := one_of h (fun _ h => h) (fun a _ _ _ h => by cases a <;> exact h)
  obtain ⟨v, rfl, r0⟩ := pair1 r
  cases d with
  | int i => exact .inl (.inl ⟨i, by rw [r0.int_inv], hQ _ _ W (Go.refl W) k rfl (.int _) h⟩)
  | bl b => exact .inl (.inr ⟨b, by rw [r0.bl_inv], hQ _ _ W (Go.refl W) k rfl (.int _) h⟩)
  | str x =>
    obtain ⟨z, rfl, rfl⟩ := r0.str_inv
    obtain ⟨n, hn, hl, h⟩ := h
    rw [S_of] at hn
    exact .inr ⟨z, n, rfl, hn, by rw [str_len]; exact hl, hQ _ _ W (Go.refl W) k rfl (.int _) h⟩
  | _ => exact h.elim
/-- the signs of a number -/
def dec (i : Int) : List Nat := (Str.ofString (toString i)).cps.toList
def cStr : List D → (D → Prop) → Prop
  | [.int i], q => i.natAbs.log2 < 1920 ∧ q (.str (dec i))
  | _, _ => False
theorem calld_str : CallD C (.type "str") cStr := by
  refine ⟨_, call_str_int, fun W vs ds Q q k r hQ h => ?_⟩
  obtain ⟨d, rfl⟩ := one_of h (fun _ h => h) (fun a _ _ _ h => by cases a <;> exact h)
  obtain ⟨v, rfl, r0⟩ := pair1 r
  cases d with
  | int i => exact ⟨i, by rw [r0.int_inv], h.1, hQ _ _ W (Go.refl W) k rfl (rp_strS _ rfl) h.2⟩
  | _ => exact h.elim
def cSum (ds : List D) (q : D → Prop) : Prop := ∃ ns : List Int, ds = [.lst (ns.map D.int)] ∧ q (.int ns.sum)
theorem calld_sum (hc : C.X.calm = true) : CallD C (.builtin "sum") cSum := by
  refine ⟨_, cr_sum hc, fun W vs ds Q q k r hQ h => ?_⟩
  obtain ⟨ns, rfl, h⟩ := h
  obtain ⟨v, rfl, r0⟩ := pair1 r
  obtain ⟨p, vs, rfl, hp, np, ra⟩ := r0.lst_inv k
  obtain rfl := ra.ints
  exact ⟨p, ns, rfl, .of hp, hQ _ _ W (Go.refl W) k rfl (.int _) h⟩
def cMaxL (ds : List D) (q : D → Prop) : Prop := ∃ ns : List Int, ds = [.lst (ns.map D.int)] ∧ ns ≠ [] ∧ ∀ m ∈ ns, (∀ y ∈ ns, y ≤ m) → q (.int m)
def cMinL (ds : List D) (q : D → Prop) : Prop := ∃ ns : List Int, ds = [.lst (ns.map D.int)] ∧ ns ≠ [] ∧ ∀ m ∈ ns, (∀ y ∈ ns, m ≤ y) → q (.int m)
theorem calld_maxL (hc : C.X.calm = true) : CallD C (.builtin "max") cMaxL := by
  refine ⟨_, cr_max hc, fun W vs ds Q q k r hQ h => ?_⟩
  obtain ⟨ns, rfl, hne, h⟩ := h
  obtain ⟨v, rfl, r0⟩ := pair1 r
  obtain ⟨p, vs, rfl, hp, np, ra⟩ := r0.lst_inv k
  obtain rfl := ra.ints
  exact ⟨p, ns, rfl, .of hp, List.length_pos_iff.mpr hne, fun m hm hy => hQ _ _ W (Go.refl W) k rfl (.int _) (h m hm hy)⟩
theorem calld_minL (hc : C.X.calm = true) : CallD C (.builtin "min") cMinL := by
  refine ⟨_, cr_min hc, fun W vs ds Q q k r hQ h => ?_⟩
  obtain ⟨ns, rfl, hne, h⟩ := h
  obtain ⟨v, rfl, r0⟩ := pair1 r
  obtain ⟨p, vs, rfl, hp, np, ra⟩ := r0.lst_inv k
  obtain rfl := ra.ints
  exact ⟨p, ns, rfl, .of hp, List.length_pos_iff.mpr hne, fun m hm hy => hQ _ _ W (Go.refl W) k rfl (.int _) (h m hm hy)⟩
def cAll (ds : List D) (q : D → Prop) : Prop := ∃ bs : List Bool, ds = [.lst (bs.map D.bl)] ∧ q (.bl (bs.all id))
def cAny (ds : List D) (q : D → Prop) : Prop := ∃ bs : List Bool, ds = [.lst (bs.map D.bl)] ∧ q (.bl (bs.any id))
theorem calld_all (hc : C.X.calm = true) : CallD C (.builtin "all") cAll := by
  refine ⟨_, cr_all hc, fun W vs ds Q q k r hQ h => ?_⟩
  obtain ⟨ns, rfl, h⟩ := h
  obtain ⟨v, rfl, r0⟩ := pair1 r
  obtain ⟨p, vs, rfl, hp, np, ra⟩ := r0.lst_inv k
  obtain rfl := ra.bls
  exact ⟨p, ns, rfl, .of hp, hQ _ _ W (Go.refl W) k rfl (.bl _) h⟩
theorem calld_any (hc : C.X.calm = true) : CallD C (.builtin "any") cAny := by
  refine ⟨_, cr_any hc, fun W vs ds Q q k r hQ h => ?_⟩
  obtain ⟨ns, rfl, h⟩ := h
  obtain ⟨v, rfl, r0⟩ := pair1 r
  obtain ⟨p, vs, rfl, hp, np, ra⟩ := r0.lst_inv k
  obtain rfl := ra.bls
  exact ⟨p, ns, rfl, .of hp, hQ _ _ W (Go.refl W) k rfl (.bl _) h⟩

def flatD : D → Bool
  | .non => true
  | .bl _ => true
  | .int _ => true
  | .str _ => true
  | _ => false
def eqF : D → D → Bool
  | .non, .non => true
  | .bl a, .bl b => a == b
  | .bl a, .int b => (if a then 1 else 0) == b
  | .int a, .bl b => a == (if b then 1 else 0)
  | .int a, .int b => a == b
  | .str a, .str b => a == b
  | _, _ => false
theorem str_beq (z z2 : Str) : (z == z2) = (z.cps.toList == z2.cps.toList) := by
  have : (z == z2) = decide (z = z2) := by
    cases h : decide (z = z2) with
    | true => exact (by simpa using h)
    | false => exact (by simpa using h)
  rw [this, Bool.beq_eq_decide_eq]
  refine decide_eq_decide.mpr ⟨fun h => by rw [h], fun h => ?_⟩
  obtain ⟨a⟩ := z
  obtain ⟨b⟩ := z2
  rw [show a = b from Array.toList_inj.mp h]
theorem rp_flat {K : PySem.W.Frag} {F : Hp} {R : List Addr} {v : V} {d : D} (r : Rp K F R v d) : flatV v = flatD d := by cases r <;> rfl
theorem rp_eqF {K : PySem.W.Frag} {F : Hp} {R : List Addr} {v u : V} {d e : D} (r : Rp K F R v d) (s : Rp K F R u e) : eqV v u = eqF d e := by
  cases r <;> cases s <;> first | rfl | skip
  rename_i z x hz z2 x2 hz2
  subst hz hz2
  exact str_beq z z2
theorem rpa_flat {K : PySem.W.Frag} {F : Hp} {R : List Addr} : ∀ {vs : List V} {ds : List D}, RpA K F R vs ds → vs.all flatV = ds.all flatD
  | _, _, .nil => rfl
  | _, _, .cons r t => by rw [List.all_cons, List.all_cons, rp_flat r, rpa_flat t]
theorem rpa_in {K : PySem.W.Frag} {F : Hp} {R : List Addr} {x : V} {d : D} (r : Rp K F R x d) : ∀ {vs : List V} {ds : List D}, RpA K F R vs ds → inV x vs = ds.any fun y => eqF y d
  | _, _, .nil => rfl
  | _, _, .cons s t => by
    rw [List.any_cons, ← rpa_in r t, ← rp_eqF s r]
    rfl
def oInB (f : Bool → Bool) : D → D → (D → Prop) → Prop
  | .str [c], .str z, q => q (.bl (f (decide (c ∈ z))))
  | d, .lst ds, q => flatD d = true ∧ ds.all flatD = true ∧ q (.bl (f (ds.any fun y => eqF y d)))
  | d, .tup ds, q => flatD d = true ∧ ds.all flatD = true ∧ q (.bl (f (ds.any fun y => eqF y d)))
  | _, _, _ => False
def oIn := oInB id
def oNotIn := oInB not
theorem oInB_inv {f : Bool → Bool} {d e : D} {q : D → Prop} (h : oInB f d e q) : (∃ c z, d = .str [c] ∧ e = .str z ∧ q (.bl (f (decide (c ∈ z))))) ∨ (∃ ds, (e = .lst ds ∨ e = .tup ds) ∧ flatD d = true ∧ ds.all flatD = true ∧ q (.bl (f (ds.any fun y => eqF y d)))) := by
  unfold oInB at h
  split at h
  · exact .inl ⟨_, _, rfl, rfl, h⟩
  · exact .inr ⟨_, .inl rfl, h⟩
  · exact .inr ⟨_, .inr rfl, h⟩
  · exact h.elim
theorem flat_frozen {K : PySem.W.Frag} {v : V} {d : D} (r : RdP K W v d) (h : flatD d = true) : Rp K W.F W.R v d := by
  rcases r with r | ⟨_, _, _, _, rfl, _⟩
  · exact r
  · cases h
theorem opd_inB {f : Bool → Bool} {neg : Bool} {g : Value → Value → Sem Value} (hf : ∀ b, f b = if neg then !b else b) (h1 : OpR C.X g (rIn C.X.K neg)) (h2 : OpR C.X g (fun x y H Q => ∃ (c : Nat) (z : Str), x = .str ⟨#[c]⟩ ∧ y = .str z ∧ Q (.bl (f (decide (c ∈ z.cps.toList)))) H)) : OpD C g (oInB f) := by
  refine ⟨_, h1.or h2, fun W x y d e Q q k r1 r2 hQ h => ?_⟩
  rcases oInB_inv h with ⟨c, z, rfl, rfl, h⟩ | ⟨ds, he, f1, f2, h⟩
  · obtain ⟨z1, rfl, e1⟩ := r1.str_inv
    obtain ⟨z2, rfl, rfl⟩ := r2.str_inv
    have : z1 = ⟨#[c]⟩ := by
      obtain ⟨a⟩ := z1
      have : a.toList = [c] := e1
      rw [show a = #[c] from Array.toList_inj.mp this]
    subst this
    exact .inr ⟨c, z2, rfl, rfl, hQ _ _ W (Go.refl W) k rfl (.bl _) h⟩
  · have r0 := flat_frozen r1 f1
    have fr : ∃ (a : Addr) (vs : List V), y = .ref a ∧ (SqL C.X.K W.H a vs ∨ SqT C.X.K W.H a vs) ∧ RpA C.X.K W.F W.R vs ds := by
      rcases he with rfl | rfl
      · obtain ⟨a, vs, rfl, hp, np, ra⟩ := r2.lst_inv k
        exact ⟨a, vs, rfl, .inl (.of hp), ra⟩
      · obtain ⟨a, vs, rfl, hp, ra⟩ := r2.tup_inv
        exact ⟨a, vs, rfl, .inr (same_tup k.sub hp), ra⟩
    obtain ⟨a, vs, rfl, hq, ra⟩ := fr
    refine .inl ⟨a, vs, rfl, hq, by rw [rp_flat r0]; exact f1, by rw [rpa_flat ra]; exact f2, hQ _ _ W (Go.refl W) k rfl (.bl _) ?_⟩
    rw [rpa_in r0 ra, ← hf]
    exact h
theorem opd_in : OpD C (compareOp .In) oIn := opd_inB (neg := false) (fun b => rfl) op_in_seq op_in_sign
theorem opd_notIn : OpD C (compareOp .NotIn) oNotIn := opd_inB (neg := true) (fun b => rfl) op_notIn_seq op_notIn_sign

variable {a b c : Expr} {wx wy wz : EW M} {r r' : D → D → (D → Prop) → Prop}
@[simp] def wChain (r r' : D → D → (D → Prop) → Prop) (wx wy wz : EW M) : EW M := fun ρ g q => wx ρ g fun x g1 => wy ρ g1 fun y g2 => r x y fun t => isB t fun k => if k = true then wz ρ g2 fun z g3 => r' y z fun d => q d g3 else q (.bl false) g2
theorem chain_run {op op' : CmpOp} {r1 r2 : R2} (h1 : ∀ (W : Wd M) (x y : V) (d e : D) (Q : VK) (q : D → Prop), Wok C.X.K W → RdP C.X.K W x d → RdP C.X.K W y e → (∀ v d' W', Go W W' → Wok C.X.K W' → W'.g = W.g → Rp C.X.K W'.F W'.R v d' → q d' → Q v W'.H) → r d e q → r1 x y W.H Q)
    (h2 : ∀ (W : Wd M) (x y : V) (d e : D) (Q : VK) (q : D → Prop), Wok C.X.K W → RdP C.X.K W x d → RdP C.X.K W y e → (∀ v d' W', Go W W' → Wok C.X.K W' → W'.g = W.g → Rp C.X.K W'.F W'.R v d' → q d' → Q v W'.H) → r' d e q → r2 x y W.H Q)
    (ha : DP C a wx) (hb : DP C b wy) (hc : DP C c wz) {Q : VK} {q : D → M.G → Prop} (S : Sat C σ ρ W) (hQ : ∀ v d W', Go W W' → Wok C.X.K W' → Rp C.X.K W'.F W'.R v d → q d W'.g → Q v W'.H) (hw : wChain r r' wx wy wz ρ W.g q) :
    tChain r1 r2 (tOf C.X a) (tOf C.X b) (tOf C.X c) σ W.H Q :=
  ha.run σ ρ W _ _ S (fun v d W1 g1 k1 ra q1 => hb.run σ ρ W1 _ _ (S.step g1 k1) (fun u e W2 g2 k2 rb q2 => h1 W2 v u d e _ _ k2 (ra.step g2) rb (fun t dt W3 g3 k3 eg rt q3 => by
    obtain ⟨k, rfl, q3⟩ := isB_elim q3
    refine ⟨k, rt.bl_inv, ?_⟩
    have eg' : W2.g = W3.g := eg.symm
    cases k with
    | true =>
      replace q3 : wz ρ W2.g fun z g3 => r' e z fun d => q d g3 := q3
      rw [eg'] at q3
      refine iteT ?_
      exact hc.run σ ρ W3 _ _ ((S.step (g1.trans g2) k2).step g3 k3) (fun z f W4 g4 k4 rc q4 => h2 W4 u z e f _ _ k4 ((rb.step g3).step g4) rc (fun v' d' W5 g5 k5 eg5 r5 q5 => hQ v' d' W5 ((((g1.trans g2).trans g3).trans g4).trans g5) k5 r5 (eg5 ▸ q5)) q4) q3
    | false =>
      replace q3 : q (.bl false) W2.g := q3
      rw [eg'] at q3
      refine iteF ?_
      exact hQ _ _ W3 ((g1.trans g2).trans g3) k3 (.bl _) q3) q2) q1) hw
theorem de_chain {op op' : CmpOp} (ho : OpD C (compareOp op) r) (ho' : OpD C (compareOp op') r') (ha : DP C a wx) (hb : DP C b wy) (hc : DP C c wz) (hm : lastMarks [op, op'] [b, c] = false := by with_unfolding_all rfl) :
    DE C (.Compare a [op, op'] [b, c] pos) (wChain r r' wx wy wz) := ⟨fun σ ρ W Q q S hQ hw => by
  obtain ⟨rr, h1, h2⟩ := ho.run
  obtain ⟨rr', h1', h2'⟩ := ho'.run
  exact tOf_of (pe_chain h1 h1' pe_tOf pe_tOf pe_tOf hm) (chain_run (op := op) (op' := op') h2 h2' ha hb hc S hQ hw)⟩
theorem dt_chain {op op' : CmpOp} (ho : OpD C (compareOp op) r) (ho' : OpD C (compareOp op') r') (ha : DP C a wx) (hb : DP C b wy) (hc : DP C c wz) (hm : lastMarks [op, op'] [b, c] = false := by with_unfolding_all rfl) :
    DT C (.Compare a [op, op'] [b, c] pos) (wB (wChain r r' wx wy wz)) := ⟨fun σ ρ W Q q S hQ hw => by
  obtain ⟨rr, h1, h2⟩ := ho.run
  obtain ⟨rr', h1', h2'⟩ := ho'.run
  exact ttOf_of (pt_chain h1 h1' pe_tOf pe_tOf pe_tOf hm) (chain_run (op := op) (op' := op') h2 h2' ha hb hc S (fun v d W' g k rv q1 => by
    obtain ⟨t, rfl, q2⟩ := isB_elim q1
    exact ⟨t, rv.bl_inv, hQ t W' g k q2⟩) hw)⟩

@[simp] def wAug (i : Nat) (f : Int → Int → Int) (we : EW M) : SW M := fun k ρ g => ∃ d, ρ[i]? = some (.im d) ∧ we ρ g fun e g' => asI d fun x => asI e fun y => k.nx (ρ.set i (.im (.int (f x y)))) g'
theorem ds_aug {i : Nat} {x : Str} {op : Operator} {f : Int → Int → Int} {pos' : Pos} (hN : C.X.N.Nodup) (hi : C.X.N[i]? = some x) (hx : Loc C.X.env.scope x) (ho : PIp C.X op (ipI f)) (he : DE C e we) (hf : C.X.fn x = true ∨ C.X.env.scope.names.lookup x = some .local := by first | exact .inl rfl | exact .inr rfl | assumption) :
    DS C (.AugAssign (.Name x pos') op e pos) (wAug i f we) := ⟨fun σ ρ W k E S l h => by
  obtain ⟨d, e0, h⟩ := h
  obtain ⟨o, h1, v, h2, r⟩ := S.sl i _ e0
  subst h2
  refine tsOf_of (ps_aug hN hi hx pe_tOf ho hf) ⟨v, h1, he.run σ ρ W _ _ S (fun u d2 W1 g1 k1 r1 q1 => ?_) h⟩
  cases d with
  | int m =>
    cases d2 with
    | int n =>
      cases r
      cases r1
      refine ⟨m, n, rfl, rfl, l.nx _ _ W1 g1.s (S.set g1 k1 (s := .im (.int (f m n))) (.int _) i) q1⟩
    | _ => exact q1.elim
  | _ => exact q1.elim⟩

variable {e2 : Expr} {apos cpos p1 : Pos}
@[simp] def wExt (i : Nat) (we : EW M) : SW M := fun k ρ g => ∃ ds, ρ[i]? = some (.own ds) ∧ we ρ g fun d g' => ∃ es, d = .lst es ∧ ds.length + es.length ≤ sizeLine ∧ k.nx (ρ.set i (.own (ds ++ es))) g'
theorem ds_extend {i : Nat} {x : Str} (hv : PE C.X (.Name x p1) (tVar i)) (he : DE C e we) (hline : (apos.endLine == cpos.line) = true := by rfl)
    (hs : swapsWith (.Call (.Attribute (.Name x p1) "extend" apos) [e] [] cpos) none pos.line C.X.env = pure false := by rfl)
    (hst : starEach [e] C.X.env = (false, eval e C.X.env) :: starEach [] C.X.env := by rfl) (hbase : attributeBase (.Name x p1) "extend" C.X.env (eval (.Name x p1) C.X.env) = eval (.Name x p1) C.X.env := by rfl)
    (hpl : (backTo cpos (starEach [] C.X.env)).any (·.1) = false := by rfl)
    (hfew : ((backTo cpos (starEach [e] C.X.env)).all (fun x => !x.1) && (backToKw cpos (keywordEach [] C.X.env)).all (fun x => x.1.isSome) && decide ([e].length + ([] : List Keyword).length + (if ([] : List Keyword).isEmpty then 0 else 1) < 30)) = true := by rfl) :
    DS C (.Expr (.Call (.Attribute (.Name x p1) "extend" apos) [e] [] cpos) pos) (wExt i we) := ⟨fun σ ρ W k E S l h => by
  obtain ⟨ds, e0, h⟩ := h
  obtain ⟨o, h1, p, vs, h2, h3, h4, h5, h6, r⟩ := S.sl i _ e0
  subst h2
  refine tsOf_of (ps_expr (pe_bm PySem.F.plainAttrs_list PySem.F.slot_list_extend PySem.F.type_list_extend mt_extend hv (pa_cons pe_tOf pa_nil hst) hbase hfew hline hst hpl) hs) ⟨.ref p, h1, .inl ⟨rfl, vs, .of h3⟩, ?_⟩
  refine he.run σ ρ W _ _ S (fun v d W1 g1 k1 r1 q1 => ?_) h
  obtain ⟨es, rfl, hz, q1⟩ := q1
  have S1 := S.step g1 k1
  obtain ⟨o2, a1, p2, vs2, a2, a3, a4, a5, a6, r2⟩ := S1.sl i _ e0
  subst a2
  rw [h1] at a1
  cases a1
  have ev : vs2 = vs := by
    have := g1.keep _ _ h3 h5
    rw [a3] at this
    cases this
    rfl
  subst ev
  cases r1 with
  | lst hb rb =>
    rename_i ab ub
    obtain ⟨S2, g2⟩ := S1.write e0 h1 (r2.append rb)
    exact ⟨p, ab, vs2, ub, rfl, rfl, a3, k1.sub _ _ hb, by rw [r2.length, rb.length]; exact hz, l.nx _ _ _ (g1.s.trans g2) S2 q1⟩⟩

@[simp] def wAsgT (w : EW M) (gw : GW) : SW M := fun k ρ g => w ρ g fun d g' => gw d ρ fun ρ' => k.nx ρ' g'
theorem ds_asgT {is : List Nat} {tg : Expr} {gw : GW} (he : DE C e we) (hg : DG C is tg gw) (hs : swapsWithSole [tg] e pos.line C.X.env = pure false := by rfl) (hw : swappedStores [tg] e C.X.env = pure none := by rfl)
    (h1 : (assignEach [tg] C.X.env).map (·.2) = [assign tg C.X.env] := by rfl) : DS C (.Assign [tg] e pos) (wAsgT we gw) := ⟨fun σ ρ W k E S l h =>
  tsOf_of (ps_asg pe_tOf pg_tOf hs hw h1) (he.run σ ρ W _ _ S (fun v d W1 g1 k1 r1 q1 => hg.run σ ρ W1 v d _ _ (S.step g1 k1) r1 (fun σ' ρ' S' _ _ q2 => l.nx σ' ρ' W1 g1.s S' q2) q1) h)⟩

theorem de_glob {x : Str} {v : V} {d : D} {u : Value} (hm : C.X.mg x = some u) (rv : RelV v u) (r : ∀ F R, Rp C.X.K F R v d) (hg : Gl C.X x := by rfl) (hd : (x == ("__debug__" : Str)) = false := by decide) : DE C (.Name x pos) (wC d) := de_c (pe_glob hg hm rv hd) r
end
end DL
set_option Elab.async false
set_option linter.all false
set_option maxRecDepth 100000
set_option maxHeartbeats 1000000
namespace DL
open PySem PySem.Spec PyProof.Rows L2
section
variable {prog : Program} {w : World} {A : Around} {E : Value → Shared → Prop} {s : Shared}
theorem places_rev (n : Nat) : Builtin.Slice.slicePlaces ((n : Int) - 1) (-1) (-1) = n := by
  unfold Builtin.Slice.slicePlaces
  have h1 : ¬ ((-1 : Int) > 0) := by decide
  rw [if_neg h1]
  have e : (-(-1 : Int)) = 1 := by decide
  rw [e, Int.ediv_one]
  split <;> omega
theorem applied_rev {sl : Addr} {vs : Value} {n : Nat} {Q : Int × Int × Nat → Shared → Prop} (hs : s.heap.IsSliceOf sl .none .none vs) (ps : IsPart vs (some (-1)))
    (h : Q ((n : Int) - 1, -1, n) s) : wpAny (model prog w) A (Builtin.Slice.sliceApplied (.ref sl) (pure (n : Int))) Q E s := by
  obtain ⟨os, hos, hcs, hds⟩ := id hs
  unfold Builtin.Slice.sliceApplied Builtin.Slice.sliceFields
  refine wpAny_bind (wpAny_bind (wpAny_field hos hds (x := .none) rfl (wpAny_bind (wpAny_field hos hds (x := .none) rfl (wpAny_bind (wpAny_field hos hds (x := vs) rfl (wpAny_pure ?_)))))))
  refine wpAny_bind (HT.slicePart_ ps ?_)
  show wpAny _ _ (if ((-1 : Int) == 0) = true then _ else _) _ _ s
  rw [if_neg (by decide)]
  refine wpAny_bind (slicePart_none (wpAny_bind (slicePart_none (wpAny_bind (wpAny_pure ?_)))))
  show wpAny _ _ (pure ((n : Int) - 1, (-1 : Int), Builtin.Slice.slicePlaces ((n : Int) - 1) (-1) (-1))) _ _ s
  rw [places_rev]
  exact wpAny_pure h
theorem pick_rev (xs : Array Value) : ((List.range xs.size).filterMap fun (m : Nat) => xs[(((xs.size : Int) - 1) + (m : Int) * -1).toNat]?).toArray = xs.toList.reverse.toArray := by
  have e : ((List.range xs.size).filterMap fun (m : Nat) => xs[(((xs.size : Int) - 1) + (m : Int) * -1).toNat]?) = (List.range xs.size).filterMap fun m => xs[xs.size - 1 - m]? := by
    have f : ∀ l : List Nat, (∀ m ∈ l, m < xs.size) → (l.filterMap fun (m : Nat) => xs[(((xs.size : Int) - 1) + (m : Int) * -1).toNat]?) = l.filterMap fun m => xs[xs.size - 1 - m]? := fun l => by
      induction l with
      | nil => intro _; rfl
      | cons m l ih =>
        intro h
        have hm := h m List.mem_cons_self
        have e1 : (((xs.size : Int) - 1) + (m : Int) * -1).toNat = xs.size - 1 - m := by omega
        rw [List.filterMap_cons, List.filterMap_cons, e1, ih fun x hx => h x (List.mem_cons_of_mem _ hx)]
    exact f _ fun m hm => List.mem_range.mp hm
  rw [e]
  have e2 : (List.range xs.size).filterMap (fun m => xs[xs.size - 1 - m]?) = ((List.range xs.size).map fun k => xs.size - 1 - k).filterMap (xs[·]?) := by
    rw [List.filterMap_map]
    rfl
  rw [e2, PySem.W.krv_range, List.filterMap_reverse, PySem.W.krv_all]
theorem getItem_tuple_rev {t sl : Addr} {items : Array Value} {vs : Value} {Q : Value → Shared → Prop} (ht : IsTup s.heap t items) (hs : s.heap.IsSliceOf sl .none .none vs) (ps : IsPart vs (some (-1)))
    (h : Q (.ref s.heap.objs.size) { s with heap := s.heap.push { cls := .type "tuple", data := .seq items.toList.reverse.toArray } }) (hsz : items.size ≤ sizeLine) : wpAny (model prog w) A (getItem (.ref t) (.ref sl)) Q E s := by
  have htake : sizeOk (.seq items.toList.reverse.toArray) := by
    show items.toList.reverse.toArray.size ≤ sizeLine
    simpa using hsz
  obtain ⟨os, hos, hcs, hds⟩ := id hs
  have hTs : s.TypeIs (.ref sl) "slice" := ⟨os, hos, hcs⟩
  unfold getItem
  try with_reducible refine wpAny_holding ?_
  first | refine wpAny_bind (wpAny_pure ?_) | skip
  refine wpAny_bind (wpAny_sequenceKey ht.typeIs (by decide) ?_)
  refine wpAny_bind (wpAny_callSpecial?_slot (name := Str.ofString "__getitem__") ht.typeIs PyProof.Rows.slot_tuple_getitem
    (wpAny_call_entry PyProof.Rows.slot_tuple_getitem ht.typeIs entry_tuple_getitem ?_ (args_tuple_getitem _ _)))
  show wpAny _ _ (Builtin.Tuple.tupleItemsOf (.ref t) >>= _) _ _ s
  refine wpAny_bind (tupleItemsOf_ ht ?_)
  refine wpAny_bind (wpAny_typeOf hTs ?_)
  rw [if_pos (by decide)]
  refine wpAny_bind (applied_rev hs ps ?_)
  have hno : ¬ (((items.size : Int) - 1 == 0 && (-1 : Int) == 1 && items.size == items.size) = true) := by
    intro q
    rw [Bool.and_eq_true, Bool.and_eq_true] at q
    have := q.1.2
    cases this
  show wpAny _ _ (if ((items.size : Int) - 1 == 0 && (-1 : Int) == 1 && items.size == items.size) = true then _ else _) _ _ s
  rw [if_neg hno, pick_rev]
  first
    | exact wpAny_bind (m := Builtin.Tuple.tupleExact _) (wpAny_newObj_type (wpAny_pure ⟨_, rfl, wpAny_pure h⟩) htake)
    | exact wpAny_bind (m := Builtin.Tuple.tupleExact _) (wpAny_newObj_type (wpAny_bind (wpAny_pure (wpAny_pure ⟨_, rfl, wpAny_pure h⟩))) htake)
    | exact wpAny_bind (wpAny_bind (m := Builtin.Tuple.tupleExact _) (wpAny_newObj_type (wpAny_pure (wpAny_pure ⟨_, rfl, wpAny_pure h⟩)) htake))
    | exact wpAny_bind (wpAny_bind (m := Builtin.Tuple.tupleExact _) (wpAny_newObj_type (wpAny_pure ⟨_, rfl, wpAny_pure h⟩) htake))
end
def tRevT (K : PySem.W.Frag) (te : TE) : TE := fun σ H Q => te σ H fun x H1 => ∃ a xs, x = .ref a ∧ ((SqL K H1 a xs ∧ ∀ p, H1 p = none → Q (.ref p) (upd H1 p (.lst xs.reverse))) ∨ (SqT K H1 a xs ∧ ∀ p, H1 p = none → Q (.ref p) (upd H1 p (.tup xs.reverse))))
theorem pe_revT {X : Cx} {e : Expr} {te : TE} {k : Nat} {p1 p2 p3 pos : Pos} (he : PE X e te) : PE X (.Subscript e (.Slice none none (some (.UnaryOp .USub (.Constant (.int 1) k p1) p2)) p3) pos) (tRevT X.K te) := by
  refine ⟨fun pins s σ H Q I h => ?_⟩
  refine Subscript_ (thn (he.run pins s σ H _ I h) fun v s1 ⟨x, H1, I1, r1, q1⟩ => ?_)
  obtain ⟨a, xs, ex, hx⟩ := q1
  subst ex
  cases r1
  have hst : PO X (some (.UnaryOp .USub (.Constant (.int 1) k p1) p2)) (tPart (tUn (rU fun i => .int (-i)) (tC (.int 1)))) := po_some (pe_un un_neg pe_int)
  refine wpAny_Slice (thn (po_none.run pins s1 σ H1 (fun o H2 => o = none ∧ H2 = H1) I1 ⟨rfl, rfl⟩) fun vl s2 ⟨l, H2, I2, pl, el, e2⟩ => ?_)
  subst el e2
  refine thn (po_none.run pins s2 σ H2 (fun o H3 => o = none ∧ H3 = H2) I2 ⟨rfl, rfl⟩) fun vu s3 ⟨u, H3, I3, pu, eu, e3⟩ => ?_
  subst eu e3
  refine thn (hst.run pins s3 σ H3 (fun o H4 => o = some (-1) ∧ H4 = H3) I3 ⟨1, rfl, -1, rfl, rfl, rfl⟩) fun vs s4 ⟨o, H4, I4, ps, eo, e4⟩ => ?_
  subst eo e4
  have I5 : Inv X pins σ H4 { s4 with heap := s4.heap.push { cls := .type "slice", data := .fields #[vl, vu, vs] } } := I4.kept (t' := s4.toks) fun b ob q => Heap.get?_push_of_some _ q
  show wpAny (model X.prog X.w) X.A (subscriptTail e (.Slice none none (some (.UnaryOp .USub (.Constant (.int 1) k p1) p2)) p3) (.ref a) (.ref s4.heap.objs.size)) (EP X pins σ Q) X.xe { s4 with heap := s4.heap.push { cls := .type "slice", data := .fields #[vl, vu, vs] } }
  rcases hx with ⟨hx, q⟩ | ⟨hx, q⟩
  · obtain ⟨its, r, ht, hz⟩ := I5.list hx
    have hlen := r.length
    refine tail_any (ops := [.ref a, .ref s4.heap.objs.size]) ht.isList.typeIs (PySem.slot_list_getitem.lookup) ?_ (by with_unfolding_all rfl)
    refine wpAny_getItem_list_slice ht.isList (Heap.IsSliceOf.new _ vl vu vs) pl pu ps (by decide) ?_ (by rw [List.size_toArray]; omega)
    rw [PySem.W.krv_pick]
    refine ⟨.ref _, _, I5.laid (t' := s4.toks) (o := .lst xs.reverse) (fun b ob q => Heap.get?_push_of_some _ q) (Nat.le_refl _) ?_, rfl, q _ (I5.hok.fresh (Nat.le_refl _))⟩
    exact ⟨by rw [List.length_reverse]; exact hz, _, 0, r.reverse, Heap.get?_push_size _ rfl⟩
  · obtain ⟨its, r, ht, hz⟩ := I5.tuple hx
    have hlen := r.length
    refine tail_any (ops := [.ref a, .ref s4.heap.objs.size]) (T := "tuple") ht.typeIs (PyProof.Rows.slot_tuple_getitem.lookup) ?_ (by with_unfolding_all rfl)
    cases pl
    cases pu
    refine getItem_tuple_rev ht (Heap.IsSliceOf.new _ .none .none vs) ps ?_ (by rw [List.size_toArray]; omega)
    refine ⟨.ref _, _, I5.laid (t' := s4.toks) (o := .tup xs.reverse) (fun b ob q => Heap.get?_push_of_some _ q) (Nat.le_refl _) ?_, rfl, q _ (I5.hok.fresh (Nat.le_refl _))⟩
    exact ⟨by rw [List.length_reverse]; exact hz, _, r.reverse, IsTup.new _ _⟩
section
variable {M : Ghost} {C : Ct M} {W W1 W2 W' : Wd M} {σ : L2.St} {ρ : DEnv} {e : Expr} {es : List Expr} {we : EW M} {pos p : Pos} {wa : AW M}
theorem RpA.rev {K : PySem.W.Frag} {F : Hp} {R : List Addr} : ∀ {vs : List V} {ds : List D}, RpA K F R vs ds → RpA K F R vs.reverse ds.reverse
  | _, _, .nil => .nil
  | _, _, .cons r t => by
    rw [List.reverse_cons, List.reverse_cons]
    exact (RpA.rev t).append (.cons r .nil)
def oRev (d : D) (q : D → Prop) : Prop := match d with
  | .lst ds => q (.lst ds.reverse)
  | .tup ds => q (.tup ds.reverse)
  | _ => False
def oRevN (d : D) (q : List D → Prop) : Prop := match d with
  | .lst ds => q ds.reverse
  | _ => False
@[simp] def wRev (we : EW M) : EW M := fun ρ g q => we ρ g fun d g' => oRev d fun r => q r g'
@[simp] def wRevN (we : EW M) : NW M := fun ρ g q => we ρ g fun d g' => oRevN d fun r => q r g'
variable {k1 : Nat} {p1 p2 p3 : Pos}
theorem de_rev (he : DP C e we) : DE C (.Subscript e (.Slice none none (some (.UnaryOp .USub (.Constant (.int 1) k1 p1) p2)) p3) pos) (wRev we) := ⟨fun σ ρ W Q q S hQ hw =>
  tOf_of (pe_revT pe_tOf) (he.run σ ρ W _ _ S (fun v d W1 g1 k1 r1 q1 => by
    cases d with
    | lst ds =>
      obtain ⟨p, vs, rfl, hp, np, ra⟩ := r1.lst_inv k1
      exact ⟨p, vs, rfl, .inl ⟨.of hp, fun t ht => hQ _ _ (W1.lay t (.lst vs.reverse)) (g1.trans (Go.lay k1 ht)) (k1.lay ht) (.lst upd_same (ra.rev.mono (same_new (k1.noF ht)) fun _ _ z => z)) q1⟩⟩
    | tup ds =>
      obtain ⟨p, vs, rfl, hp, ra⟩ := r1.tup_inv
      exact ⟨p, vs, rfl, .inr ⟨same_tup k1.sub hp, fun t ht => hQ _ _ (W1.lay t (.tup vs.reverse)) (g1.trans (Go.lay k1 ht)) (k1.lay ht) (.tup (.of upd_same) (ra.rev.mono (same_new (k1.noF ht)) fun _ _ z => z)) q1⟩⟩
    | _ => exact q1.elim) hw)⟩
theorem dn_rev (he : DP C e we) : DN C (.Subscript e (.Slice none none (some (.UnaryOp .USub (.Constant (.int 1) k1 p1) p2)) p3) pos) (wRevN we) := ⟨fun σ ρ W Q q S hQ hw =>
  tOf_of (pe_revT pe_tOf) (he.run σ ρ W _ _ S (fun v d W1 g1 k1 r1 q1 => by
    cases d with
    | lst ds =>
      obtain ⟨p, vs, rfl, hp, np, ra⟩ := r1.lst_inv k1
      exact ⟨p, vs, rfl, .inl ⟨.of hp, fun t ht => hQ t _ _ (W1.new t (.lst vs.reverse)) (g1.trans (Go.new k1 ht)) (k1.new ht) upd_same (k1.noF ht) (k1.noR ht) (nofresh g1 ht) ra.rev q1⟩⟩
    | _ => exact q1.elim) hw)⟩

def GlI (o : Option Value) (i : Int) : Prop := ∃ t, o = some (.int i t)
def GlS (o : Option Value) (x : List Nat) : Prop := ∃ z t, o = some (.str z t) ∧ z.cps.toList = x
theorem de_glI {x : Str} {i : Int} (h : GlI (C.X.mg x) i) (hg : Gl C.X x := by rfl) (hd : (x == ("__debug__" : Str)) = false := by decide) : DE C (.Name x pos) (wC (.int i)) := by
  obtain ⟨t, h⟩ := h
  exact de_glob h (v := .int i) ⟨t, rfl⟩ (fun _ _ => .int i) hg hd
theorem de_glS {x : Str} {y : List Nat} (h : GlS (C.X.mg x) y) (hg : Gl C.X x := by rfl) (hd : (x == ("__debug__" : Str)) = false := by decide) : DE C (.Name x pos) (wC (.str y)) := by
  obtain ⟨z, t, h, e⟩ := h
  exact de_glob h (v := .str z) ⟨t, rfl⟩ (fun _ _ => .str z y e) hg hd

theorem rpa_rg {K : PySem.W.Frag} {F : Hp} {R : List Addr} (a b : Int) : RpA K F R (rgV a b) (rngL a b) := by
  unfold rgV rngL
  have : ∀ l : List Nat, RpA K F R (l.map fun i => V.int (a + (i : Nat))) (l.map fun (i : Nat) => D.int (a + i)) := fun l => by
    induction l with
    | nil => exact .nil
    | cons c l ih => exact .cons (.int _) ih
  exact this _
variable {a b : Expr} {wx wy : EW M} {p4 pos2 : Pos}
@[simp] def wRgL1 (wx : EW M) : NW M := fun ρ g q => wx ρ g fun d g' => asI d fun j => RgOk 0 j ∧ q (rngL 0 j) g'
@[simp] def wRgT1 (wx : EW M) : EW M := fun ρ g q => wx ρ g fun d g' => asI d fun j => RgOk 0 j ∧ q (.tup (rngL 0 j)) g'
@[simp] def wRgL2 (wx wy : EW M) : NW M := fun ρ g q => wx ρ g fun d g1 => wy ρ g1 fun e g2 => asI d fun i => asI e fun j => RgOk i j ∧ q (rngL i j) g2
@[simp] def wRgT2 (wx wy : EW M) : EW M := fun ρ g q => wx ρ g fun d g1 => wy ρ g1 fun e g2 => asI d fun i => asI e fun j => RgOk i j ∧ q (.tup (rngL i j)) g2
theorem dn_rgL1 (hc : C.X.calm = true) (hm : C.X.mg "list" = none) (hr : C.X.mg "range" = none) (ha : DE C a wx) (hg : Gl C.X "list" := by rfl) (hgr : Gl C.X "range" := by rfl) (na : starEach [a] C.X.env = (false, eval a C.X.env) :: starEach [] C.X.env := by rfl)
    (nb : starEach [.Call (.Name "range" p4) [a] [] pos2] C.X.env = (false, eval (.Call (.Name "range" p4) [a] [] pos2) C.X.env) :: starEach [] C.X.env := by rfl) : DN C (.Call (.Name "list" p) [.Call (.Name "range" p4) [a] [] pos2] [] pos) (wRgL1 wx) := ⟨fun σ ρ W Q q S hQ hw =>
  tOf_of (pe_listRg hc hg hm (prg_1 hgr hr pe_tOf na) nb) (ha.run σ ρ W _ _ S (fun v d W1 g1 k1 r1 q1 => by
    cases d with
    | int j =>
      cases r1
      exact ⟨j, rfl, q1.1, fun t ht => hQ t _ _ (W1.new t (.lst (rgV 0 j))) (g1.trans (Go.new k1 ht)) (k1.new ht) upd_same (k1.noF ht) (k1.noR ht) (nofresh g1 ht) (rpa_rg 0 j) q1.2⟩
    | _ => exact q1.elim) hw)⟩
theorem de_rgT1 (hc : C.X.calm = true) (hm : C.X.mg "tuple" = none) (hr : C.X.mg "range" = none) (ha : DE C a wx) (hg : Gl C.X "tuple" := by rfl) (hgr : Gl C.X "range" := by rfl) (na : starEach [a] C.X.env = (false, eval a C.X.env) :: starEach [] C.X.env := by rfl)
    (nb : starEach [.Call (.Name "range" p4) [a] [] pos2] C.X.env = (false, eval (.Call (.Name "range" p4) [a] [] pos2) C.X.env) :: starEach [] C.X.env := by rfl) : DE C (.Call (.Name "tuple" p) [.Call (.Name "range" p4) [a] [] pos2] [] pos) (wRgT1 wx) := ⟨fun σ ρ W Q q S hQ hw =>
  tOf_of (pe_tupRg hc hg hm (prg_1 hgr hr pe_tOf na) nb) (ha.run σ ρ W _ _ S (fun v d W1 g1 k1 r1 q1 => by
    cases d with
    | int j =>
      cases r1
      exact ⟨j, rfl, q1.1, fun t ht => hQ _ _ (W1.lay t (.tup (rgV 0 j))) (g1.trans (Go.lay k1 ht)) (k1.lay ht) (.tup (.of upd_same) (rpa_rg 0 j)) q1.2⟩
    | _ => exact q1.elim) hw)⟩
theorem dn_rgL2 (hc : C.X.calm = true) (hm : C.X.mg "list" = none) (hr : C.X.mg "range" = none) (ha : DE C a wx) (hb : DE C b wy) (hg : Gl C.X "list" := by rfl) (hgr : Gl C.X "range" := by rfl) (na : starEach [a, b] C.X.env = (false, eval a C.X.env) :: starEach [b] C.X.env := by rfl) (na2 : starEach [b] C.X.env = (false, eval b C.X.env) :: starEach [] C.X.env := by rfl)
    (hpl : (backTo pos2 (starEach [b] C.X.env)).any (·.1) = false := by rfl) (nb : starEach [.Call (.Name "range" p4) [a, b] [] pos2] C.X.env = (false, eval (.Call (.Name "range" p4) [a, b] [] pos2) C.X.env) :: starEach [] C.X.env := by rfl) : DN C (.Call (.Name "list" p) [.Call (.Name "range" p4) [a, b] [] pos2] [] pos) (wRgL2 wx wy) := ⟨fun σ ρ W Q q S hQ hw =>
  tOf_of (pe_listRg hc hg hm (prg_2 hgr hr pe_tOf pe_tOf na na2 hpl) nb) (ha.run σ ρ W _ _ S (fun v d W1 g1 k1 r1 q1 => hb.run σ ρ W1 _ _ (S.step g1 k1) (fun u e W2 g2 k2 r2 q2 => by
    cases d with
    | int i =>
      cases e with
      | int j =>
        cases r1
        cases r2
        exact ⟨i, j, rfl, rfl, q2.1, fun t ht => hQ t _ _ (W2.new t (.lst (rgV i j))) ((g1.trans g2).trans (Go.new k2 ht)) (k2.new ht) upd_same (k2.noF ht) (k2.noR ht) (nofresh (g1.trans g2) ht) (rpa_rg i j) q2.2⟩
      | _ => exact q2.elim
    | _ => exact q2.elim) q1) hw)⟩
end
section
variable {M : Ghost} {C : Ct M} {W W1 W2 W' : Wd M} {σ : L2.St} {ρ : DEnv}
variable {pos : Pos}
@[simp] def wPar3 (i j l : Nat) (wx wy wz : VW M) : SW M := fun k ρ g => wx ρ g fun s g1 => wy ρ g1 fun t g2 => wz ρ g2 fun u g3 => k.nx (((ρ.set i s).set j t).set l u) g3
theorem ds_par3 {i j l : Nat} {x y z : Str} {a b c : Expr} {wx wy wz : VW M} {px py pz pt : Pos} {kt k2 : Nat} {pt2 : Pos} (hc : C.X.calm = true) (hN : C.X.N.Nodup) (hi : C.X.N[i]? = some x) (hj : C.X.N[j]? = some y) (hl : C.X.N[l]? = some z) (hij : i ≠ j) (hil : i ≠ l) (hjl : j ≠ l)
    (hx : C.X.env.scope.names.lookup x = some .local) (hy : C.X.env.scope.names.lookup y = some .local) (hz : C.X.env.scope.names.lookup z = some .local) (ha : DV C a wx) (hb : DV C b wy) (hcc : DV C c wz)
    (hw : swappedStores [.Tuple [.Name x px, .Name y py, .Name z pz] kt pt] (.Tuple [a, b, c] k2 pt2) C.X.env = pure (some [x, y, z]) := by rfl) (hs : swapsWithSole [.Tuple [.Name x px, .Name y py, .Name z pz] kt pt] (.Tuple [a, b, c] k2 pt2) pos.line C.X.env = pure false := by rfl)
    (h1 : starEach [a, b, c] C.X.env = (false, eval a C.X.env) :: starEach [b, c] C.X.env := by rfl) (h2 : starEach [b, c] C.X.env = (false, eval b C.X.env) :: starEach [c] C.X.env := by rfl) (h3 : starEach [c] C.X.env = (false, eval c C.X.env) :: starEach [] C.X.env := by rfl) :
    DS C (.Assign [.Tuple [.Name x px, .Name y py, .Name z pz] kt pt] (.Tuple [a, b, c] k2 pt2) pos) (wPar3 i j l wx wy wz) := ⟨fun σ ρ W k E S lf h => by
  refine tsOf_of (ps_par3 hc hN hi hj hl hij hil hjl hx hy hz (pa_cons pe_tOf (pa_cons pe_tOf (pa_cons pe_tOf pa_nil h3) h2) h1) hw hs) ?_
  refine ha.run σ ρ W _ _ S (fun v s W1 g1 k1 f1 q1 => ?_) h
  refine hb.run σ ρ W1 _ _ (S.step g1 k1) (fun u t W2 g2 k2 f2 q2 => ?_) q1
  refine hcc.run σ ρ W2 _ _ (S.step (g1.trans g2) k2) (fun w r W3 g3 k3 f3 q3 => ?_) q2
  refine ⟨v, u, w, rfl, ?_⟩
  have S3 := S.step ((g1.trans g2).trans g3) k3
  have o1 : SlOk C W3 s (some v) := ((slOk_fresh S g1 f1).step g2).step g3
  have o2 : SlOk C W3 t (some u) := (slOk_fresh (S.step g1 k1) g2 f2).step g3
  have o3 : SlOk C W3 r (some w) := slOk_fresh (S.step (g1.trans g2) k2) g3 f3
  have T1 := S3.puts o1 i fun p w1 e1 m t' w2 _ a1 a2 => own_live S w2 a1 a2 (fresh_dead f1 w1 e1)
  have T2 := T1.puts o2 j fun p w1 e1 m t' w2 _ a1 a2 => by
    have dead := fresh_dead f2 w1 e1
    by_cases hm : i = m
    · subst hm
      have hlt : i < ρ.length := by
        have := (List.getElem?_eq_some_iff.mp a1).1
        rwa [List.length_set] at this
      rw [List.getElem?_set_self hlt] at a1
      rw [List.getElem?_set_self (by rw [S.len]; exact hlt)] at a2
      cases a1
      cases a2
      exact fresh_live f1 w2 rfl dead
    · rw [List.getElem?_set_ne hm] at a1 a2
      exact g1.live _ (own_live S w2 a1 a2) dead
  have T3 := T2.puts o3 l fun p w1 e1 m t' w2 _ a1 a2 => by
    have dead := fresh_dead f3 w1 e1
    by_cases hm : j = m
    · subst hm
      have hlt : j < (ρ.set i s).length := (List.getElem?_eq_some_iff.mp a1).1 |> fun h => by rwa [List.length_set] at h
      rw [List.getElem?_set_self hlt] at a1
      rw [List.getElem?_set_self (by rw [T1.len]; exact hlt)] at a2
      cases a1
      cases a2
      exact fresh_live f2 w2 rfl dead
    · rw [List.getElem?_set_ne hm] at a1 a2
      by_cases hm2 : i = m
      · subst hm2
        have hlt : i < ρ.length := by
          have := (List.getElem?_eq_some_iff.mp a1).1
          rwa [List.length_set] at this
        rw [List.getElem?_set_self hlt] at a1
        rw [List.getElem?_set_self (by rw [S.len]; exact hlt)] at a2
        cases a1
        cases a2
        exact g2.live _ (fresh_live f1 w2 rfl) dead
      · rw [List.getElem?_set_ne hm2] at a1 a2
        exact (g1.trans g2).live _ (own_live S w2 a1 a2) dead
  exact lf.nx _ _ W3 ((g1.trans g2).trans g3).s T3 q3⟩
end
end DL
set_option Elab.async false
set_option linter.all false
set_option maxRecDepth 100000
set_option maxHeartbeats 1000000
namespace DL
open PySem L2
section
variable {K : PySem.W.Frag}
/-- the class that a name of the text tells -/
inductive CN (K : PySem.W.Frag) : Str → Value → Prop
  | own {x : Str} {C : Addr} : PySem.W.nsIn K mainGlobals x = some (some (.ref C)) → CN K x (.ref C)
  | ty {x : Str} {T : String} : PySem.W.nsIn K mainGlobals x = some none → bootBuiltins x = some (.type T) → x ≠ "__name__" → CN K x (.type T)
/-- n is a class of exceptions of the text; it is | is not one of m -/
structure SubT (K : PySem.W.Frag) (n m : Str) (b : Bool) : Prop where
  ex : ∃ (C : Addr) (c : Value), PySem.W.nsIn K mainGlobals n = some (some (.ref C)) ∧ CN K m c ∧ PySem.W.exmOne K (.ref C) c = some b ∧ PySem.W.kitOne K (.ref C) c = some b ∧ ExcC K C
structure SubA (K : PySem.W.Frag) (n : Str) (ms : List Str) (b : Bool) : Prop where
  ex : ∃ (C : Addr) (cs : List Value), PySem.W.nsIn K mainGlobals n = some (some (.ref C)) ∧ Paired (CN K) ms cs ∧ PySem.W.exmAny K (.ref C) cs = some b ∧ PySem.W.kitAny K (.ref C) cs = some b ∧ ExcC K C
theorem subA_one {n m : Str} {b : Bool} (h : SubT K n m b) : SubA K n [m] b := by
  obtain ⟨C, c, h1, h2, h3, h4, h5⟩ := h.ex
  refine ⟨C, [c], h1, .cons h2 .nil, ?_, ?_, h5⟩
  · unfold PySem.W.exmAny
    rw [h3]
    simp [PySem.W.exmAny]
  · unfold PySem.W.kitAny
    rw [h4]
    cases b <;> rfl
theorem subA_cons {n m : Str} {ms : List Str} {b d : Bool} (h : SubT K n m b) (r : SubA K n ms d) : SubA K n (m :: ms) (b || d) := by
  obtain ⟨C, c, h1, h2, h3, h4, h5⟩ := h.ex
  obtain ⟨C', cs, g1, g2, g3, g4, g5⟩ := r.ex
  rw [h1] at g1
  cases g1
  refine ⟨C, c :: cs, h1, .cons h2 g2, ?_, ?_, h5⟩
  · unfold PySem.W.exmAny
    rw [h3, g3]
  · unfold PySem.W.kitAny
    rw [h4]
    cases b with
    | true => rfl
    | false => exact g4
/-- a class of exceptions whose field may be read -/
structure FldT (K : PySem.W.Frag) (n f : Str) : Prop where
  ex : ∃ C : Addr, PySem.W.nsIn K mainGlobals n = some (some (.ref C)) ∧ XfC K C ∧ PySem.W.findIn K (.ref C) f = some none
theorem SubT.mk' {n m : Str} {b : Bool} {C : Addr} {c : Value} (h1 : PySem.W.nsIn K mainGlobals n = some (some (.ref C))) (h2 : CN K m c) (h3 : PySem.W.exmOne K (.ref C) c = some b) (h4 : PySem.W.kitOne K (.ref C) c = some b) (h5 : ExcC K C) : SubT K n m b := ⟨C, c, h1, h2, h3, h4, h5⟩
end
section
variable {X : Cx} {pos : Pos}
/-- a class as a value -/
def clsV : Value → V
  | .ref C => .ref C
  | .type T => .ty T
  | _ => .non
theorem CN.rel {K : PySem.W.Frag} {x : Str} {c : Value} (h : CN K x c) : RelV (clsV c) c ∧ ClsV (clsV c) c := by
  cases h with
  | own => exact ⟨rfl, .own _⟩
  | ty => exact ⟨rfl, .ty _⟩
theorem CN.names {x : Str} {c : Value} (h : CN X.K x c) {pins : List (Addr × Obj)} {σ : L2.St} {H : Hp} {s : Shared} (I : Inv X pins σ H s) : X.mg x = some c ∨ (X.mg x = none ∧ bootBuiltins x = some c ∧ x ≠ "__name__") := by
  cases h with
  | own e => exact .inl (PySem.W.mg_of I.mod.kin I.mod.glob e)
  | ty e b n => exact .inr ⟨PySem.W.mg_none_of I.mod.kin I.mod.glob e, b, n⟩
theorem ld_cls {x : Str} {c : Value} (h : CN X.K x c) (hg : Gl X x) (hd : (x == ("__debug__" : Str)) = false) {E : Value → Shared → Prop} {pins : List (Addr × Obj)} {s : Shared} {σ : L2.St} {H : Hp} {Q : Value → Shared → Prop} (I : Inv X pins σ H s) (q : Q c s) :
    wpAny (model X.prog X.w) X.A (eval (.Name x pos) X.env) Q E s := by
  rcases h.names I with e | ⟨e, b, n⟩
  · exact ld_glob I hg e q hd
  · exact ld_blt I hg e b q n hd
theorem pe_cls {x : Str} {c : Value} (h : CN X.K x c) (hg : Gl X x) (hd : (x == ("__debug__" : Str)) = false := by decide) : PE X (.Name x pos) (tC (clsV c)) :=
  ⟨fun _ _ _ H _ I q => ld_cls h hg hd I ⟨_, H, I, h.rel.1, q⟩⟩
/-- names of classes, one after the other -/
inductive ClsEs (X : Cx) : List Str → List Expr → Prop
  | nil : ClsEs X [] []
  | cons {x : Str} {p : Pos} {ms : List Str} {es : List Expr} (hg : Gl X x) (hd : (x == ("__debug__" : Str)) = false) (hs : starEach (.Name x p :: es) X.env = (false, eval (.Name x p) X.env) :: starEach es X.env) (r : ClsEs X ms es) : ClsEs X (x :: ms) (.Name x p :: es)
theorem clsEs_cons {x : Str} {p : Pos} {ms : List Str} {es : List Expr} (r : ClsEs X ms es) (hg : Gl X x := by rfl) (hd : (x == ("__debug__" : Str)) = false := by decide) (hs : starEach (.Name x p :: es) X.env = (false, eval (.Name x p) X.env) :: starEach es X.env := by rfl) : ClsEs X (x :: ms) (.Name x p :: es) := .cons hg hd hs r
theorem pa_cls : ∀ {ms : List Str} {es : List Expr} {cs : List Value}, ClsEs X ms es → Paired (CN X.K) ms cs → PA X es (fun _ H Q => Q (cs.map clsV) H)
  | _, _, _, .nil, .nil => pa_nil
  | _, _, _, .cons hg hd hs r, .cons h t => ⟨fun pos pins s σ H Q I q => (pa_cons (pe_cls h hg hd) (pa_cls r t) hs).run pos pins s σ H Q I q⟩

def rIsX (K : PySem.W.Frag) (ok : Addr → List V → Hp → Bool → Prop) : List V → Hp → VK → Prop := fun xs H Q => ∃ (a C : Addr) (c : V) (b : Bool) (oe : Obj) (d : Option Addr), xs = [.ref a, c] ∧ H a = some (.frz oe exU) ∧ Zc (.ref C) d oe ∧ (∃ fv, oe.data = .fields fv) ∧
  (∀ dd, d = some dd → ∃ fs, H dd = some (.xd fs)) ∧ ExcC K C ∧ ok C [c] H b ∧ Q (.bl b) H
theorem inst_exn {H : Hp} {P : Program} {w : World} {h : Heap} {a C : Addr} {oe : Obj} {d : Option Addr} (hok : HOk P w H h) (ha : H a = some (.frz oe exU)) (hz : Zc (.ref C) d oe) (hf : ∃ fv, oe.data = .fields fv)
    (hd : ∀ dd, d = some dd → ∃ fs, H dd = some (.xd fs)) : ∃ od, PySem.W.InstAt h a oe C od := by
  obtain ⟨fv, hf⟩ := hf
  have hget : h.get? a = some oe := (show h.get? a = some oe ∧ _ from hok a _ ha).1
  have nc : PySem.W.notCls oe = true := by unfold PySem.W.notCls; rw [hf] <;> rfl
  cases d with
  | none => exact ⟨none, hget, hz.1, nc, by rw [hz.2]; trivial⟩
  | some dd =>
    obtain ⟨fs, e⟩ := hd dd rfl
    obtain ⟨mA, ⟨od, _, _, ho, _⟩, _⟩ := (show ObjOk P w H h dd (.xd fs) from hok dd _ e)
    exact ⟨some od, hget, hz.1, nc, by rw [hz.2]; exact ho⟩
theorem kitx_of_exc {K : PySem.W.Frag} {C a : Addr} {oe : Obj} {od : Option Obj} (T : ExcC K C) : PySem.W.KitX K (.ref a) (.ref C) (fun h => PySem.W.InstAt h a oe C od) := by
  obtain ⟨cd, hc, _⟩ := PySem.W.any_some T.hd
  exact PySem.W.kitx_exc (by rw [hc]; rfl) T.hg T.hk T.hs T.ha T.hn T.ht T.hm
theorem call_isX : CallR X (.builtin "isinstance") (rIsX X.K fun C cs _ b => ∃ cv, ClsV (cs.headD .non) cv ∧ PySem.W.kitOne X.K (.ref C) cv = some b) := by
  intro pins s σ H xs us Q I r h
  obtain ⟨a, C, c, b, oe, d, rfl, h1, h2, h3, h4, h5, ⟨cv, h6, h7⟩, q⟩ := h
  obtain ⟨u1, u2, rfl, r1, r2⟩ := vals2 r
  have e2 := ClsV.eq (c := c) h6 r2
  subst e2
  cases (show u1 = Value.ref a from r1)
  obtain ⟨od, J⟩ := inst_exn I.hok h1 h2 h3 h4
  exact PySem.W.kia_one (kitx_of_exc h5) I.kIn J h7 (fun z => nomatch z) fun tk => ⟨.bl b, H, I.tok tk, rfl, q⟩
theorem call_isXT : CallR X (.builtin "isinstance") (rIsX X.K fun C cs H b => ∃ tp cs' us, cs = [.ref tp] ∧ H tp = some (.tup cs') ∧ Paired ClsV cs' us ∧ PySem.W.kitAny X.K (.ref C) us = some b) := by
  intro pins s σ H xs us Q I r h
  obtain ⟨a, C, c, b, oe, d, rfl, h1, h2, h3, h4, h5, ⟨tp, cs, ws, e, hT, k, h7⟩, q⟩ := h
  cases e
  obtain ⟨u1, u2, rfl, r1, r2⟩ := vals2 r
  cases (show u1 = Value.ref a from r1)
  cases (show u2 = Value.ref tp from r2)
  obtain ⟨od, J⟩ := inst_exn I.hok h1 h2 h3 h4
  obtain ⟨_, its, rv, o, g1, g2, n, g3⟩ := (show ObjOk X.prog X.w H s.heap tp (.tup cs) from I.hok tp _ hT)
  have e3 := ClsV.all k rv
  subst e3
  obtain ⟨oc, odd, dt, sl⟩ := o
  simp only at g2 g3
  subst g2 g3
  exact PySem.W.kia_tup (kitx_of_exc h5) I.kIn J g1 h7 (fun z => nomatch z) fun tk => ⟨.bl b, H, I.tok tk, rfl, q⟩
end
section
variable {M : Ghost} {C : Ct M} {W W1 W2 W' : Wd M} {σ : L2.St} {ρ : DEnv} {e : Expr} {es : List Expr} {we : EW M} {pos p : Pos} {wa : AW M}
theorem rdp_exn {K : PySem.W.Frag} {v : V} {cls : Str} {ns : List Str} {ds : List D} (k : Wok K W) (r : RdP K W v (.exn cls ns ds)) : ∃ (a Cc : Addr) (oe : Obj) (d : Option Addr), v = .ref a ∧ PySem.W.nsIn K mainGlobals cls = some (some (.ref Cc)) ∧ W.H a = some (.frz oe exU) ∧ Zc (.ref Cc) d oe ∧ (∃ fv, oe.data = .fields fv) ∧
    ((d = none ∧ ns = [] ∧ ds = []) ∨ ∃ dd vs, d = some dd ∧ W.H dd = some (.xd (ns.zip vs)) ∧ ns.length = vs.length ∧ RpA K W.F W.R vs ds) := by
  rcases r with r | ⟨_, _, _, _, z, _⟩
  · cases r with
    | exn0 h1 h2 h3 h4 => exact ⟨_, _, _, none, rfl, h1, k.sub _ _ h2, h3, h4, .inl ⟨rfl, rfl, rfl⟩⟩
    | exn h1 h2 h3 h4 h5 h6 q => exact ⟨_, _, _, _, rfl, h1, k.sub _ _ h2, h3, h4, .inr ⟨_, _, rfl, k.sub _ _ h5, h6, q⟩⟩
  · cases z
def isX (tab : List (Str × Bool)) (d : D) (q : D → Prop) : Prop := match d with
  | .exn cls _ _ => ∃ b, (cls, b) ∈ tab ∧ q (.bl b)
  | _ => False
@[simp] def wIsX (tab : List (Str × Bool)) (we : EW M) : EW M := fun ρ g q => we ρ g fun d g' => isX tab d fun r => q r g'
theorem de_isX {x : Str} {tab : List (Str × Bool)} {pT : Pos} (tb : ∀ p ∈ tab, SubT C.X.K p.1 x p.2) (t0 : tab ≠ []) (he : DP C e we) (hm : C.X.mg "isinstance" = none) (hg : Gl C.X "isinstance" := by rfl) (hgT : Gl C.X x := by rfl) (hdT : (x == ("__debug__" : Str)) = false := by decide)
    (h1 : starEach [e, .Name x pT] C.X.env = (false, eval e C.X.env) :: starEach [.Name x pT] C.X.env := by rfl) (h2 : starEach [.Name x pT] C.X.env = (false, eval (.Name x pT) C.X.env) :: starEach [] C.X.env := by rfl) (hpl : (backTo pos (starEach [.Name x pT] C.X.env)).any (·.1) = false := by rfl) :
    DE C (.Call (.Name "isinstance" p) [e, .Name x pT] [] pos) (wIsX tab we) := ⟨fun σ ρ W Q q S hQ hw pins s I => by
  -- the class is known as soon as the table has a row
  cases tab with
  | nil => exact absurd rfl t0
  | cons t1 tr =>
    obtain ⟨C0, c, _, hc, _⟩ := (tb t1 List.mem_cons_self).ex
    refine (tOf_of (pe_callB call_isX hg hm PyProof.Rows.boot_isinstance (pa_cons pe_tOf (pa_cons (pe_cls hc hgT hdT) pa_nil h2) h1) (by decide) (by decide) h1 hpl)
      (he.run σ ρ W _ _ S (fun v d W1 g1 k1 r1 q1 => ?_) hw)) pins s I
    cases d with
    | exn cls ns ds =>
      obtain ⟨b, hb, q1⟩ := q1
      obtain ⟨a, Cc, oe, dx, rfl, e1, e2, e3, e4, e5⟩ := rdp_exn k1 r1
      obtain ⟨C', c', f1, f2, f3, f4, f5⟩ := (tb _ hb).ex
      rw [e1] at f1
      cases f1
      have ec : c' = c := by
        cases hc <;> cases f2 <;> simp_all
      subst ec
      refine ⟨a, Cc, clsV c', b, oe, dx, rfl, e2, e3, e4, fun dd ed => ?_, f5, ⟨c', hc.rel.2, f4⟩, hQ _ _ W1 g1 k1 (.bl _) q1⟩
      rcases e5 with ⟨z, _⟩ | ⟨dd', vs, z, e6, _⟩
      · rw [z] at ed; cases ed
      · rw [z] at ed; cases ed; exact ⟨_, e6⟩
    | _ => exact q1.elim⟩
def CnEq (K : PySem.W.Frag) : Prop := ∀ x c c', CN K x c → CN K x c' → c = c'
theorem cn_eq {K : PySem.W.Frag} : CnEq K := fun x c c' h h' => by cases h <;> cases h' <;> simp_all
theorem cns_eq {K : PySem.W.Frag} : ∀ {ms : List Str} {cs cs' : List Value}, Paired (CN K) ms cs → Paired (CN K) ms cs' → cs = cs'
  | _, _, _, .nil, .nil => rfl
  | _, _, _, .cons a r, .cons b t => by rw [cn_eq _ _ _ a b, cns_eq r t]
theorem cns_cls {K : PySem.W.Frag} : ∀ {ms : List Str} {cs : List Value}, Paired (CN K) ms cs → Paired ClsV (cs.map clsV) cs
  | _, _, .nil => .nil
  | _, _, .cons a r => .cons a.rel.2 (cns_cls r)
theorem de_isXT {ms : List Str} {ts : List Expr} {tab : List (Str × Bool)} {kk : Nat} {pT : Pos} (tb : ∀ p ∈ tab, SubA C.X.K p.1 ms p.2) (t0 : tab ≠ []) (hl : ms.length ≤ 100) (he : DP C e we) (hm : C.X.mg "isinstance" = none) (hN : ClsEs C.X ms ts) (hg : Gl C.X "isinstance" := by rfl)
    (h1 : starEach [e, .Tuple ts kk pT] C.X.env = (false, eval e C.X.env) :: starEach [.Tuple ts kk pT] C.X.env := by rfl) (h2 : starEach [.Tuple ts kk pT] C.X.env = (false, eval (.Tuple ts kk pT) C.X.env) :: starEach [] C.X.env := by rfl) (hpl : (backTo pos (starEach [.Tuple ts kk pT] C.X.env)).any (·.1) = false := by rfl) :
    DE C (.Call (.Name "isinstance" p) [e, .Tuple ts kk pT] [] pos) (wIsX tab we) := ⟨fun σ ρ W Q q S hQ hw pins s I => by
  cases tab with
  | nil => exact absurd rfl t0
  | cons t1 tr =>
    obtain ⟨C0, cs, _, hc, _⟩ := (tb t1 List.mem_cons_self).ex
    refine (tOf_of (pe_callB call_isXT hg hm PyProof.Rows.boot_isinstance (pa_cons pe_tOf (pa_cons (pe_tup (pa_cls hN hc)) pa_nil h2) h1) (by decide) (by decide) h1 hpl)
      (he.run σ ρ W _ _ S (fun v d W1 g1 k1 r1 q1 => ?_) hw)) pins s I
    cases d with
    | exn cls ns ds =>
      obtain ⟨b, hb, q1⟩ := q1
      obtain ⟨a, Cc, oe, dx, rfl, e1, e2, e3, e4, e5⟩ := rdp_exn k1 r1
      obtain ⟨C', cs', f1, f2, f3, f4, f5⟩ := (tb _ hb).ex
      rw [e1] at f1
      cases f1
      have ec := cns_eq f2 hc
      subst ec
      refine ⟨by rw [List.length_map, ← f2.length]; rw [sizeLine_eq]; omega, fun tp ht => ?_⟩
      have ne : ∀ x, W1.H x ≠ none → x ≠ tp := fun x hx z => hx (by rw [z]; exact ht)
      refine ⟨a, Cc, .ref tp, b, oe, dx, rfl, by rw [upd_ne (ne a (by rw [e2]; simp))]; exact e2, e3, e4, fun dd ed => ?_, f5, ⟨tp, _, _, rfl, upd_same, cns_cls f2, f4⟩, hQ _ _ (W1.lay tp (.tup (cs'.map clsV))) (g1.trans (Go.lay k1 ht)) (k1.lay ht) (.bl _) q1⟩
      rcases e5 with ⟨z, _⟩ | ⟨dd', vs, z, e6, _⟩
      · rw [z] at ed; cases ed
      · rw [z] at ed; cases ed
        exact ⟨_, by rw [upd_ne (ne dd (by rw [e6]; simp))]; exact e6⟩
    | _ => exact q1.elim⟩

theorem lookup_rp {K : PySem.W.Frag} {F : Hp} {R : List Addr} {f : Str} {r : D} : ∀ {ns : List Str} {vs : List V} {ds : List D}, RpA K F R vs ds → (ns.zip ds).lookup f = some r → ∃ v, (ns.zip vs).lookup f = some v ∧ Rp K F R v r
  | [], _, _, _, h => by simp at h
  | _ :: _, _, _, .nil, h => by simp at h
  | n :: ns, _, _, .cons (v := v) (d := d) a t, h => by
    rw [List.zip_cons_cons, List.lookup_cons] at h ⊢
    cases e : f == n with
    | true => rw [e] at h; cases h; exact ⟨v, rfl, a⟩
    | false => rw [e] at h; exact lookup_rp t h
def fldX (f : Str) (tab : List Str) (d : D) (q : D → Prop) : Prop := match d with
  | .exn cls ns ds => cls ∈ tab ∧ ∃ r, (ns.zip ds).lookup f = some r ∧ q r
  | _ => False
@[simp] def wFldX (f : Str) (tab : List Str) (we : EW M) : EW M := fun ρ g q => we ρ g fun d g' => fldX f tab d fun r => q r g'
def rXf (K : PySem.W.Frag) (f : Str) (te : TE) : TE := fun σ H Q => te σ H fun x H1 => ∃ (a Cc dd : Addr) (oe : Obj) (fs : List (Str × V)) (v : V), x = .ref a ∧ H1 a = some (.frz oe exU) ∧ Zc (.ref Cc) (some dd) oe ∧ (∃ fv, oe.data = .fields fv) ∧
  H1 dd = some (.xd fs) ∧ fs.lookup f = some v ∧ XfC K Cc ∧ PySem.W.findIn K (.ref Cc) f = some none ∧ Q v H1
theorem pe_rXf {X : Cx} {e : Expr} {te : TE} {f : Str} {pos : Pos} (he : PE X e te) (hb : attributeBase e f X.env (eval e X.env) = eval e X.env := by rfl) : PE X (.Attribute e f pos) (rXf X.K f te) := ⟨fun pins s σ H Q I h => by
  refine attr_of hb (thn (he.run pins s σ H _ I h) fun u s1 hh => ?_)
  obtain ⟨x, H1, I1, rx, a, Cc, dd, oe, fs, v, rfl, h1, h2, h3, h4, h5, T, hno, q⟩ := hh
  cases (show u = Value.ref a from rx)
  obtain ⟨mA, hns, hr⟩ := (show ObjOk X.prog X.w H1 s1.heap dd (.xd fs) from I1.hok dd _ h4)
  obtain ⟨od, ho, hl⟩ := lookIn_ns hns
  obtain ⟨u, hu, ru⟩ := RelO.some_of (v := v) (o := mA f) (by rw [← h5]; exact hr f)
  have hget : s1.heap.get? a = some oe := (show s1.heap.get? a = some oe ∧ _ from I1.hok a _ h1).1
  obtain ⟨fv, hf⟩ := h3
  have J : PySem.W.InstAt s1.heap a oe Cc (some od) := ⟨hget, h2.1, by unfold PySem.W.notCls; rw [hf] <;> rfl, by rw [h2.2]; exact ho⟩
  exact HandSPX.exc_get I1.kIn J T.ga T.gg T.exC (PySem.W.findObj_own T.hdC hno rfl (by rw [hl, hu])) (handed_of ru) ⟨v, H1, I1.tok _, ru, q⟩⟩
theorem de_fldX {f : Str} {tab : List Str} (tb : ∀ n ∈ tab, FldT C.X.K n f) (he : DE C e we) (hb : attributeBase e f C.X.env (eval e C.X.env) = eval e C.X.env := by rfl) : DE C (.Attribute e f pos) (wFldX f tab we) := ⟨fun σ ρ W Q q S hQ hw =>
  tOf_of (pe_rXf pe_tOf hb) (he.run σ ρ W _ _ S (fun v d W1 g1 k1 r1 q1 => by
    cases d with
    | exn cls ns ds =>
      obtain ⟨hc, r, hr, q1⟩ := q1
      obtain ⟨C', f1, f2, f3⟩ := (tb cls hc).ex
      cases r1 with
      | exn0 => cases hr
      | exn h1 h2 h3 h4 h5 h6 hq =>
        rw [h1] at f1
        cases f1
        obtain ⟨v, hv, rv⟩ := lookup_rp hq hr
        exact ⟨_, _, _, _, _, v, rfl, k1.sub _ _ h2, h3, h4, k1.sub _ _ h5, hv, f2, f3, hQ _ _ W1 g1 k1 rv q1⟩
    | _ => exact q1.elim) hw)⟩
end
end DL
set_option Elab.async false
set_option linter.all false
set_option maxRecDepth 100000
set_option maxHeartbeats 4000000
namespace DL
open PySem L2 PySem.W PySem.Calls PyProof.Rows PySem.HandSPX Builtin Builtin.ObjectAttr
def xA (f : Str) (p1 p2 : Pos) : Arguments := { posonlyargs := [], args := [{ arg := "self", annotation := none, pos := p1 }, { arg := f, annotation := none, pos := p2 }], vararg := none, kwonlyargs := [], kw_defaults := [], kwarg := none, defaults := [] }
def xB (f : Str) (q1 q2 q3 q4 : Pos) : List Stmt := [.Assign [.Attribute (.Name "self" q1) f q2] (.Name f q3) q4]
def xS (f : Str) : Scope := { kind := .function, names := [(PySem.Str.ofString "self", .local), (f, .local)], isGenerator := false, isCoroutine := false, more := [] }
abbrev fldNames : List Str := ["value", "index", "name", "error", "limit", "place"]
/-- what the written part says of such a class -/
structure RaiseT (K : Frag) (n f : Str) (B newId initId : String) (bmB : List Value) (C fI : Addr) (q : Str) : Prop where
  nm : nsIn K mainGlobals n = some (some (.ref C))
  xi : excInitIn K C bmB newId = true
  ov : excOver K C bmB = true
  sa : findIn K (.ref C) "__setattr__" = some (some (.builtin "object.__setattr__"))
  tk : takerIn K C f = some none
  hd : hasDictIn K C = true
  iC : findIn K (.ref C) "__init__" = some (some (.ref fI))
  tI : typeIn K (.ref fI) = some (.type "function")
  kC : keepIn K (.ref C) = true
  exC : subIn K (.ref C) (.type "BaseException") = some true
  tyC : typeIn K (.ref C) = some (.type "type")
  hf : f ∈ fldNames
  fn : ∃ (oc : Value) (od : Option Addr) (doc pm : Value) (an : Option Addr) (cdv ct : Value) (osl : Array (Option Value)) (p1 p2 q1 q2 q3 q4 : Pos),
    K.lookup fI = some ⟨oc, od, .func (fnOf "__init__" q (xA f p1 p2) (xB f q1 q2 q3 q4) (xS f) .none .none doc pm an cdv ct), osl⟩ ∧ codeIn K cdv q = true
  bf : ExcBaseFacts B newId initId bmB
  sf : StoreFacts B bmB "object.__setattr__" "object"
/-- .. of the class with that name -/
structure RaisesF (K : Frag) (n f : Str) : Prop where
  ex : ∃ (B newId initId : String) (bmB : List Value) (C fI : Addr) (q : Str), RaiseT K n f B newId initId bmB C fI q
theorem one_line (v : Value) : [v].length ≤ sizeLine := by rw [sizeLine_eq]; exact (by decide : 1 ≤ 16777216)
theorem ldX {M : Model} {s : Shared} {name : Str} {scope : Scope} {L a : Addr} {cd : Value} {m : Str → Option Value} {x : Str} {pos : Pos} {v : Value} {Q : Value → Shared → Prop} {A : Around} {E : Value → Shared → Prop} (hn : s.heap.Ns L m) (hv : m x = some v) (h : Q v s)
    (hk : scope.kind = .function := by rfl) (hl : (envOfC name scope L a cd).kindOf x = some .local := by rfl) (hd : (x == ("__debug__" : Str)) = false := by decide) :
    wpAny M A (eval (.Name x pos) (envOfC name scope L a cd)) Q E s := wpAny_Name (wpAny_loadName_local hk hl hn hv h) hd
/-- self.f = v on a new exception, whatever built-in class it derives from -/
theorem store_exc {prog : Program} {w : World} {A : Around} {R : Result → Shared → Prop} {hp : Heap} {g : Array GenState} {d : Drawn} {t : Nat} {os : OsState} {K : Frag} {B : String} {bmB : List Value} {name : Str} {tk : Tok} {v : Value} {x C t0 : Addr} (SF : StoreFacts B bmB "object.__setattr__" "object")
    (X : K.In hp) (hx : hp.get? x = some (excO C t0)) (ov : excOver K C bmB = true) (ht : takerIn K C name = some none) (hd : hasDictIn K C = true)
    (hq : ∀ h' tk' dx, (∀ b o, b ≠ x → hp.get? b = some o → h'.get? b = some o) → hp.objs.size ≤ dx → dx ≠ x → h'.get? x = some { cls := .ref C, dict := some dx, data := .fields #[.ref t0, .none, .none, .none, .bool false, .none] } →
      h'.Ns1 dx (fun y => if y = name then some v else none) → R (.ok (.ret .none)) ⟨h', g, d, tk', os⟩) :
    codeAny (model prog w) A (.call (.builtin "object.__setattr__") ⟨[.ref x, .str name tk, v], []⟩) R ⟨hp, g, d, t, os⟩ := by
  refine osa_openX (s := ⟨hp, g, d, t, os⟩) (od := none) SF X ⟨hx, rfl, rfl, trivial⟩ ov ht fun b => ?_
  obtain ⟨cd, hc, hh⟩ := any_some hd
  have xs : x ≠ hp.objs.size := Nat.ne_of_lt (Heap.lt_size hx)
  refine wpAny_bind (wpAny_pure (wpAny_bind (instanceDict_exc (s := ⟨hp, g, d, t, os⟩) hx (looks_clsIn X hc) hh ?_)))
  show wpAny _ _ (storeInDict hp.objs.size (.str name tk) name v) _ _ _
  have old : ∀ c u, c ≠ x → hp.get? c = some u → ((hp.push (dictOf [] 0)).update x fun o => { o with dict := some hp.objs.size }).get? c = some u := fun c u hc e =>
    (Heap.get?_update_ne _ _ _ _ hc).trans (Heap.get?_push_of_some _ e)
  refine store_in_new ?_ fun h' tk' n' hs => hq h' tk' hp.objs.size (fun c u hc e => ?_) (Nat.le_refl _) xs.symm ?_ n'
  · refine ⟨_, #[], 0, (Heap.get?_update_ne _ _ _ _ xs.symm).trans (Heap.get?_push_at rfl rfl), rfl, fun e he => absurd he (by simp), fun _ => rfl⟩
  · exact (hs.2 c (Nat.ne_of_lt (Heap.lt_size e))).trans (old c u hc e)
  · exact (hs.2 x xs).trans (Heap.get?_update_self _ (Heap.get?_push_of_some _ hx) rfl)
/-- what is left of a new exception at x -/
structure XInit (h h' : Heap) (x C dx t1 : Addr) (f : Str) (v : Value) : Prop where
  keep : ∀ b o, b ≠ x → h.get? b = some o → h'.get? b = some o
  obj : h'.get? x = some { cls := .ref C, dict := some dx, data := .fields #[.ref t1, .none, .none, .none, .bool false, .none] }
  dbig : h.objs.size ≤ dx
  dne : dx ≠ x
  ns : h'.Ns1 dx (fun y => if y = f then some v else none)
structure XMade (h h' : Heap) (e C d : Addr) (f : Str) (v : Value) : Prop where
  keep : ∀ b o, h.get? b = some o → h'.get? b = some o
  new : h.objs.size ≤ e
  obj : ∃ oe vs, h'.get? e = some oe ∧ oe.cls = .ref C ∧ oe.dict = some d ∧ oe.data = .fields vs ∧ vs[1]? = some .none
  dbig : h.objs.size ≤ d
  dne : d ≠ e
  ns : h'.Ns1 d (fun y => if y = f then some v else none)
section
variable {prog : Program} {w : World} {A : Around} {E : Value → Shared → Prop} {R : Result → Shared → Prop} {s : Shared} {K : Frag} {n f : Str} {B newId initId : String} {bmB : List Value} {C fI : Addr} {q : Str}
theorem x_init (T : RaiseT K n f B newId initId bmB C fI q) {x t0 : Addr} {v : Value} (X : K.In s.heap) (hlim : s.heap.NoLimit) (hx : s.heap.get? x = some (excO C t0)) (hroom : A.depth < recursionLimit)
    (hq : ∀ h' tk dx, XInit s.heap h' x C dx t0 f v → R (.ok (.ret .none)) { s with heap := h', toks := tk }) :
    codeAny (model prog w) A (.call (.ref fI) ⟨[.ref x, v], []⟩) R s := by
  obtain ⟨oc, od, doc, pm, an, cdv, ct, osl, p1, p2, q1, q2, q3, q4, ho, hcd⟩ := T.fn
  have hf := T.hf
  simp only [List.mem_cons, List.not_mem_nil, or_false] at hf
  have body : ∀ (g : Str), g = f → (g == ("__debug__" : Str)) = false → (envOfC q (xS f) s.heap.objs.size fI cdv).kindOf g = some .local → (bindL (envOfC q (xS f) s.heap.objs.size fI cdv).kindOf [("self", .ref x), (f, v)] fun _ => none) g = some v →
      (bindL (envOfC q (xS f) s.heap.objs.size fI cdv).kindOf [("self", .ref x), (f, v)] fun _ => none) "self" = some (.ref x) →
      BindsTo s (fnOf "__init__" q (xA f p1 p2) (xB f q1 q2 q3 q4) (xS f) .none .none doc pm an cdv ct) ⟨[.ref x, v], []⟩ [("self", .ref x), (f, v)] →
      (([("self", .ref x), (f, v)] : List (Str × Value)).all fun y => (xS f).names.lookup y.1 == some .local || (xS f).names.lookup y.1 == some .cell) = true →
      codeAny (model prog w) A (.call (.ref fI) ⟨[.ref x, v], []⟩) R s := by
    rintro g rfl hdb hkd hv hself bd hall
    refine Att.call_fn (binds := [("self", .ref x), (g, v)]) X hlim ho hcd hroom bd hall (fun s₁ IC => ?_) rfl rfl rfl
    obtain ⟨h₁, tk₁, rfl⟩ := IC.toInCall.same
    have k : ∀ b o, s.heap.get? b = some o → h₁.get? b = some o := IC.toInCall.keep
    have hn := IC.toInCall.ns
    have hxL : s.heap.objs.size ≠ x := Nat.ne_of_gt (Heap.lt_size hx)
    have X₁ : K.In h₁ := X.keeps k
    have hx₁ := k _ _ hx
    show wpAny _ _ (execs _ _) _ _ _
    refine wpAny_execs_cons (plainObj_wpAny_Assign_Attribute ?_)
    refine ldX (v := v) hn hv (ldX (v := .ref x) hn hself ?_) rfl hkd hdb
    refine set_plain X₁ (ox := excO C t0) (od := none) ⟨hx₁, rfl, rfl, trivial⟩ T.sa ?_
    refine store_exc T.sf X₁ hx₁ T.ov T.tk T.hd (fun h₃ tk₃ dx k₃ dn dne hx₃ hn₃ => ?_)
    show wpAny _ _ (execs _ _) _ _ _
    have z : s.heap.objs.size < h₁.objs.size := hn.lt
    exact wpAny_execs_nil (hq h₃ tk₃ dx ⟨fun b o hb e => k₃ b o hb (k b o e), hx₃, Nat.le_of_lt (Nat.lt_of_lt_of_le z dn), dne, hn₃⟩)
  rcases hf with rfl | rfl | rfl | rfl | rfl | rfl <;> exact body _ rfl (by decide) rfl (by first | rfl | with_unfolding_all rfl) (by first | rfl | with_unfolding_all rfl) (BindsTo.of_eq (by first | rfl | with_unfolding_all rfl)) (by first | rfl | decide | with_unfolding_all rfl)
theorem x_made (T : RaiseT K n f B newId initId bmB C fI q) {v : Value} (X : K.In s.heap) (hlim : s.heap.NoLimit) (hroom : A.depth + 1 < recursionLimit)
    (hq : ∀ h' tk e d, XMade s.heap h' e C d f v → R (.ok (.ret (.ref e))) { s with heap := h', toks := tk }) :
    codeAny (model prog w) A (.call (.ref C) ⟨[v], []⟩) R s := by
  obtain ⟨nm, N', qn, bs, bm, hdct, sn, sub, ab, col, dd, k0, k1, k2, k3, k5, hC, hT⟩ := excInit_of X T.xi
  obtain ⟨hp, g, dr, tk, os⟩ := s
  have k : ∀ b o, hp.get? b = some o → ((hp.push (kdv_tup [v])).push (excO C hp.objs.size)).get? b = some o := fun b o e => Heap.get?_push_of_some _ (Heap.get?_push_of_some _ e)
  have hget : ((hp.push (kdv_tup [v])).push (excO C hp.objs.size)).get? (hp.objs.size + 1) = some (excO C hp.objs.size) := by heap_get
  refine HandSPX.call_own T.bf hT hC (looks_findIn X T.iC) (fun self => bind_fn X self T.tI) (one_line v) ?_
  refine x_init (s := ⟨(hp.push (kdv_tup [v])).push (excO C hp.objs.size), g, dr, tk, os⟩) T (X.keeps k) (hlim.keeps k) hget ?_ fun h' tk' dx M => ?_
  · show A.depth + 1 < recursionLimit
    exact hroom
  · have old : ∀ b o, hp.get? b = some o → h'.get? b = some o := fun b o e => M.keep b o (Nat.ne_of_lt (Nat.lt_succ_of_lt (Heap.lt_size e))) (k b o e)
    have z : hp.objs.size + 1 + 1 ≤ dx := by
      first
        | (simpa only [Heap.size_push] using M.dbig)
        | exact M.dbig
        | (have q := M.dbig; rw [Heap.size_push, Heap.size_push] at q; exact q)
    exact ⟨rfl, hq h' tk' (hp.objs.size + 1) dx ⟨old, Nat.le_succ _, ⟨_, _, M.obj, rfl, rfl, rfl, rfl⟩, Nat.le_trans (Nat.le_trans (Nat.le_succ _) (Nat.le_succ _)) z, M.dne, M.ns⟩⟩
end
section
variable {X : Cx} {n f : Str}
theorem relO_one {v : V} {v' : Value} (r : RelV v v') (g : Str) : RelO (List.lookup g [(f, v)]) (if g = f then some v' else none) := by
  by_cases hw : g = f
  · subst hw
    rw [if_pos rfl]
    have q : List.lookup g [(g, v)] = some v := by simp [List.lookup]
    rw [q]
    exact r
  · rw [if_neg hw]
    have qw : (g == f) = false := by simpa using hw
    have q2 : List.lookup g [(f, v)] = none := by simp [List.lookup, qw]
    rw [q2]
    trivial
/-- n(e) -/
def tMkX (K : Frag) (n f : Str) (ta : TA) : L2.St → Hp → XK → Prop := fun σ H Q => ta σ H fun vs H1 => ∃ v, vs = [v] ∧ ∀ C d, nsIn K mainGlobals n = some (some (.ref C)) → H1 d = none → Q (.ref C) (some d) (upd H1 d (.xd [(f, v)]))
theorem pmk_x {a : Expr} {ta : TA} {p pos : Pos} {k : Nat} (T : RaisesF X.K n f) (hr : Room k X.A) (ha : PA X [a] ta) (hg : Gl X n) (hdb : (n == ("__debug__" : Str)) = false := by decide)
    (he : starEach (a :: []) X.env = (false, eval a X.env) :: starEach [] X.env := by rfl) (hpl : (backTo pos (starEach [] X.env)).any (·.1) = false := by rfl) :
    PMk X (.Call (.Name n p) [a] [] pos) (tMkX X.K n f ta) := by
  intro pins s σ H Q I h
  obtain ⟨B, newId, initId, bmB, C, fI, q, T⟩ := T.ex
  refine wpAny_Call_Name_kw (ld_glob I hg (mg_of I.mod.kin I.mod.glob T.nm) ?_ hdb)
  refine PySem.W.callWith_K (h₀ := X.base) I.ok.mod.kin T.kC (thn (ha.run pos pins s σ H _ I h) fun us s1 hh => ?_) he hpl
  obtain ⟨vs, H1, I1, r1, v, ev, q1⟩ := hh
  subst ev
  refine ⟨I1.kIn, ?_⟩
  cases r1 with
  | cons rv rn =>
    rename_i v' us'
    cases rn
    show wpAny _ _ (call (.ref C) [v']) _ _ _
    have hlim := I1.nolimit
    obtain ⟨hp, g, dr, tk, os⟩ := s1
    refine wpAny_call (x_made T I1.kIn hlim (by have := hr.dp; omega) fun h' tk' e d M => ?_)
    show MkP X pins σ Q (.ref e) ⟨h', g, dr, tk', os⟩
    obtain ⟨oe, fv, hoe, hc, hd, hdat, h1⟩ := M.obj
    have hns := M.ns
    obtain ⟨G', g1, g2⟩ := restrict h' fun b => decide (b ≠ e)
    have gk : ∀ b, b ≠ e → G'.get? b = h'.get? b := fun b hb => g1 b (decide_eq_true hb)
    have ge : G'.get? e = none := g2 e (by simp)
    have old : ∀ b o, hp.get? b = some o → G'.get? b = some o := fun b o q => (gk b (Nat.ne_of_lt (Nat.lt_of_lt_of_le (Heap.lt_size q) M.new))).trans (M.keep b o q)
    have ob : ObjOk X.prog X.w (upd H1 d (.xd [(f, v)])) G' d (.xd [(f, v)]) := ⟨_, hns.at (fun o q => (gk d M.dne).trans q), fun g => relO_one rv g⟩
    have J : Inv X pins σ (upd H1 d (.xd [(f, v)])) ⟨G', g, dr, tk', os⟩ := I1.laid (t' := tk') old M.dbig ob
    refine ⟨e, oe, fv, ⟨G', g, dr, tk', os⟩, _, .ref C, some d, rfl, J, fun b o q => ?_, ge, hoe, ⟨hc, hd⟩, hdat, h1, ?_, rfl, I1.bare, raises_own T.exC T.tyC, q1 C d T.nm (I1.hok.fresh M.dbig)⟩
    · by_cases hb : b = e
      · have q' : G'.get? b = some o := q
        rw [hb, ge] at q'; cases q'
      · exact (gk b hb).symm.trans q
    · rw [upd_ne (Ne.symm M.dne)]
      exact I1.hok.fresh M.new
/-- a class without own __init__, over ValueError -/
structure Raises0 (K : Frag) (n : Str) : Prop where
  ex : ∃ C : Addr, nsIn K mainGlobals n = some (some (.ref C)) ∧ excIn K C [.type "ValueError", .type "Exception", .type "BaseException", .type "object"] "ValueError.__new__" = true ∧ keepIn K (.ref C) = true ∧ subIn K (.ref C) (.type "BaseException") = some true ∧ typeIn K (.ref C) = some (.type "type")
theorem pmk_x0 {p pos : Pos} (T : Raises0 X.K n) (hg : Gl X n) (hdb : (n == ("__debug__" : Str)) = false := by decide) :
    PMk X (.Call (.Name n p) [] [] pos) (fun _ H Q => ∀ C, nsIn X.K mainGlobals n = some (some (.ref C)) → Q (.ref C) none H) := by
  intro pins s σ H Q I h
  obtain ⟨C, hn, hx, kC, hb, ht⟩ := T.ex
  refine wpAny_Call_Name_kw (ld_glob I hg (mg_of I.mod.kin I.mod.glob hn) ?_ hdb)
  refine PySem.W.callWith_K0 I.kIn kC ?_
  show wpAny _ _ (call (.ref C) []) _ _ _
  obtain ⟨bm, N, nm, qn, bs, hdct, sn, sub, ab, col, dd, k0, k1, k2, k3, k5, mN, hC, hN, hni, T⟩ := exc_obj I.kIn hx
  refine wpAny_call_exc_subT F.excBase_ValueError T hC hN hni (fun h' e hm => ?_) (Nat.zero_le _)
  exact mk_of I hm (raises_own hb ht) (h C hn) (I.hok.gone hm.new)
end
section
variable {M : Ghost} {C : Ct M} {W W1 W2 W' : Wd M} {σ : L2.St} {ρ : DEnv} {e : Expr} {es : List Expr} {we : EW M} {pos p pos2 : Pos} {n f : Str}
@[simp] def wRaise (n f : Str) (we : EW M) (EX : Exn → DEnv → M.G → Prop) : SW M := fun _ ρ g => we ρ g fun d g' => EX ⟨n, [f], [d]⟩ ρ g'
theorem ds_raise {k : Nat} (T : RaisesF C.X.K n f) (hc : C.X.calm = true) (hr : Room k C.X.A) (tk : TakesD C) (he : DE C e we) (hg : Gl C.X n := by rfl) (hdb : (n == ("__debug__" : Str)) = false := by decide)
    (h1 : starEach (e :: []) C.X.env = (false, eval e C.X.env) :: starEach [] C.X.env := by rfl) (hpl : (backTo pos (starEach [] C.X.env)).any (·.1) = false := by rfl) :
    DS C (.Raise (some (.Call (.Name n p) [e] [] pos)) none pos2) (wRaise n f we C.EX) := ⟨fun σ ρ W k' E S l h =>
  tsOf_of (ps_raise hc tk (pmk_x T hr (pa_cons pe_tOf pa_nil h1) hg hdb h1 hpl)) (he.run σ ρ W _ _ S (fun v d W1 g1 k1 r1 q1 => by
    refine ⟨v, rfl, fun C' dx hn hd => ?_⟩
    have go := Go.lay (o := .xd [(f, v)]) k1 hd
    exact ⟨⟨n, [f], [d]⟩, ρ, W1.lay dx (.xd [(f, v)]), rfl, (S.step g1 k1).step go (k1.lay hd), ⟨hn, ⟨_, rfl⟩, .inr ⟨dx, [v], rfl, upd_same, rfl, .cons (r1.step go) .nil⟩⟩, q1⟩) h)⟩
@[simp] def wRaise0 (n : Str) (EX : Exn → DEnv → M.G → Prop) : SW M := fun _ ρ g => EX ⟨n, [], []⟩ ρ g
theorem ds_raise0 (T : Raises0 C.X.K n) (hc : C.X.calm = true) (tk : TakesD C) (hg : Gl C.X n := by rfl) (hdb : (n == ("__debug__" : Str)) = false := by decide) :
    DS C (.Raise (some (.Call (.Name n p) [] [] pos)) none pos2) (wRaise0 n C.EX) := ⟨fun σ ρ W k' E S l h =>
  tsOf_of (ps_raise hc tk (pmk_x0 T hg hdb)) (fun C' hn => ⟨⟨n, [], []⟩, ρ, W, rfl, S, ⟨hn, ⟨_, rfl⟩, .inl ⟨rfl, rfl, rfl⟩⟩, h⟩)⟩
end
end DL
set_option Elab.async false
set_option linter.all false
set_option maxRecDepth 100000
set_option maxHeartbeats 4000000
namespace DL
open PySem L2 PySem.W PySem.Calls PyProof.Rows
section
variable {X : Cx} {pins : List (Addr × Obj)} {σ : L2.St} {H : Hp} {s : Shared}
theorem flying_keeps {base : Heap} {l : List Env} {e : Addr} {Z : Obj → Prop} {h h' : Heap} (x : HandSPX.FlyingZ base l e Z h) (k : ∀ b o, h.get? b = some o → h'.get? b = some o) : HandSPX.FlyingZ base l e Z h' := by
  obtain ⟨f1, f2, f3, oe, vs, T, oT, ts, h1, h2, h3, h4, h5, h6, h7, h8, h9⟩ := x
  exact ⟨fun b o q => k b o (f1 b o q), f2, f3.of_keeps fun b o q _ => ⟨o, k b o q, rfl⟩, oe, vs, T, oT, ts, k _ _ h1, h2, h3, h4, h5, h6, k _ _ h7, h8, h9⟩
theorem upto_keeps {h h' : Heap} (k : ∀ b o, h.get? b = some o → h'.get? b = some o) : h.UpToSlots h' := fun b o q _ => ⟨o.slots, k b o q⟩
/-- into the suite's context, the exception not yet tracked -/
theorem Inv.into (I : Inv X pins σ H s) (a : Addr) : Inv (X.suite a (X.pn ++ pins)) [] σ H s :=
  ⟨I.ok.suite _ _, I.os, I.bare, I.base, I.loc, I.cell, I.free, I.freeC, fun p hp => I.pin p (by rw [List.append_nil] at hp; exact hp), I.hok, I.len⟩
theorem Inv.outOf {a : Addr} {pn' : List (Addr × Obj)} (I : Inv (X.suite a (X.pn ++ pins)) pn' σ H s) (ok : X.Ok) : Inv X pins σ H s :=
  ⟨ok, I.os, I.bare, I.base, I.loc, I.cell, I.free, I.freeC, fun p hp => I.pin p (List.mem_append_left _ hp), I.hok, I.len⟩
/-- an object that nobody tells of is tracked as it is -/
theorem Inv.track {a : Addr} {oe : Obj} {fv : Array Value} (I : Inv X pins σ H s) (he : s.heap.get? a = some oe) (hd : oe.data = .fields fv) (na : H a = none) (h0 : X.s_0.heap.get? a = none) (nL : a ≠ X.env.locals)
    (np : ∀ p ∈ X.pn ++ pins, p.1 ≠ a) : Inv X pins σ (upd H a (.frz oe exU)) s := by
  have n0 : ∀ {b : Addr} {o : Obj}, X.s_0.heap.get? b = some o → b ≠ a := fun {b o} e z => by rw [z, h0] at e; cases e
  refine ⟨I.ok, I.os, I.bare, ⟨I.base.keep, I.base.slot, fun b o e n hx => ?_, I.base.there, fun b xs e => ?_, fun b o u e => ?_, fun b ps e => ?_⟩, I.loc, I.cell, ?_, fun x c e => ?_, fun p hp => ?_, fun b u e => ?_, I.len⟩
  · rw [upd_ne (n0 e)]; exact I.base.free b o e n hx
  · have q := I.base.tups b xs e
    rw [upd_ne (ne_of_none q na)]; exact q
  · have q := I.base.frzs b o u e
    rw [upd_ne (ne_of_none q na)]; exact q
  · obtain ⟨more, q⟩ := I.base.tbls b ps e
    exact ⟨more, by rw [upd_ne (ne_of_none q na)]; exact q⟩
  · rw [upd_ne (Ne.symm nL)]; exact I.free
  · have hc : c ≠ a := fun z => by
      obtain ⟨v, o, ho, hv⟩ := I.cell x c e
      rw [z, he] at ho
      cases ho
      rw [hd] at hv
      cases hv
    rw [upd_ne hc]; exact I.freeC x c e
  · obtain ⟨h1, h2, h3⟩ := I.pin p hp
    exact ⟨h1, by rw [upd_ne (np p hp)]; exact h2, h3⟩
  · by_cases hb : b = a
    · subst hb
      rw [upd_same] at e
      cases e
      exact ⟨he, True.intro, ⟨_, he⟩, fun _ _ _ _ => True.intro⟩
    · rw [upd_ne hb] at e
      exact (I.hok b u e).stay (fun _ _ _ q => q) (fun c q => by rw [upd_ne (ne_of_none q na)]; exact q) fun c xs q => by rw [upd_ne (ne_of_none q na)]; exact q
end

/-- a clause's test -/
def CatchT (X : Cx) (e : Expr) (cat : Str → Bool → Prop) : Prop :=
  ∀ (a : Addr) (pn : List (Addr × Obj)) (pins : List (Addr × Obj)) (σ : L2.St) (H : Hp) (s : Shared) (n : Str) (C : Addr) (b : Bool) (Q : Bool → Shared → Prop) (E : Value → Shared → Prop), Inv (X.suite a pn) pins σ H s →
    Looks (model X.prog X.w) s.heap (typeOf (.ref a)) (.ref C) → nsIn X.K mainGlobals n = some (some (.ref C)) → cat n b →
    (∀ h' tk, (∀ b o, s.heap.get? b = some o → h'.get? b = some o) → Inv (X.suite a pn) pins σ H { s with heap := h', toks := tk } → Q b { s with heap := h', toks := tk }) →
    wpAny (model X.prog X.w) (X.A.mark (some (.ref a))) (eval e X.env) (fun c s1 => wpAny (model X.prog X.w) (X.A.mark (some (.ref a))) (excMatches (.ref a) c) Q E s1) E s
theorem catch_name {X : Cx} {x : Str} {p : Pos} {tab : List (Str × Bool)} (tb : ∀ p ∈ tab, SubT X.K p.1 x p.2) (hg : Gl X x := by rfl) (hd : (x == ("__debug__" : Str)) = false := by decide) : CatchT X (.Name x p) (fun n b => (n, b) ∈ tab) :=
  fun a pn pins σ H s n C b Q E I LT hn hc q => by
    obtain ⟨C', c, h1, h2, h3, h4, h5⟩ := (tb _ hc).ex
    rw [hn] at h1
    cases h1
    exact ld_cls (X := X.suite a pn) h2 hg hd I ((exm_one I.kIn LT h3).here (q s.heap s.toks (fun _ _ z => z) I))
/-- a tuple of two or three classes -/
theorem catch_tup {X : Cx} {ms : List Str} {ts : List Expr} {kk : Nat} {p : Pos} {tab : List (Str × Bool)} (tb : ∀ p ∈ tab, SubA X.K p.1 ms p.2) (hN : ClsEs X ms ts) (hl : ms.length = 2 ∨ ms.length = 3) : CatchT X (.Tuple ts kk p) (fun n b => (n, b) ∈ tab) :=
  fun a pn pins σ H s n C b Q E I LT hn hc q => by
    obtain ⟨C', cs, h1, h2, h3, h4, h5⟩ := (tb _ hc).ex
    rw [hn] at h1
    cases h1
    have fin : ∀ cs' : List Value, cs' = cs → Looks (model X.prog X.w) (s.heap.push { cls := .type "tuple", data := .seq cs'.toArray }) (excMatches (.ref a) (.ref s.heap.objs.size)) b →
        wpAny (model X.prog X.w) (X.A.mark (some (.ref a))) (excMatches (.ref a) (.ref s.heap.objs.size)) Q E { s with heap := s.heap.push { cls := .type "tuple", data := .seq cs'.toArray } } := fun cs' _ L =>
      L.here (q _ s.toks (fun _ _ z => Heap.get?_push_of_some _ z) (I.kept (t' := s.toks) fun _ _ z => Heap.get?_push_of_some _ z))
    have kp : ∀ (o : Obj) (b : Addr) (u : Obj), s.heap.get? b = some u → (s.heap.push o).get? b = some u := fun o _ _ z => Heap.get?_push_of_some _ z
    cases hN with
    | nil => simp at hl
    | cons g1 d1 s1 r1 =>
      cases r1 with
      | nil => simp at hl
      | cons g2 d2 s2 r2 =>
        cases h2 with
        | cons c1 t1 =>
          cases t1 with
          | cons c2 t2 =>
            cases r2 with
            | nil =>
              cases t2
              refine wpAny_Tuple (wpAny_items_cons (ld_cls (X := X.suite a pn) c1 g1 d1 I (wpAny_items_cons (ld_cls (X := X.suite a pn) c2 g2 d2 I (wpAny_items_nil ⟨by size_fits, ?_⟩)))))
              exact fin _ rfl (exm_tup2 (I.kIn.keeps (kp _)) (LT.keeps (kp _)) (Heap.get?_push_size s.heap rfl) h3)
            | cons g3 d3 s3 r3 =>
              cases r3 with
              | nil =>
                cases t2 with
                | cons c3 t3 =>
                  cases t3
                  refine wpAny_Tuple (wpAny_items_cons (ld_cls (X := X.suite a pn) c1 g1 d1 I (wpAny_items_cons (ld_cls (X := X.suite a pn) c2 g2 d2 I (wpAny_items_cons (ld_cls (X := X.suite a pn) c3 g3 d3 I (wpAny_items_nil ⟨by size_fits, ?_⟩)))))))
                  exact fin _ rfl (exm_tup3 (I.kIn.keeps (kp _)) (LT.keeps (kp _)) (Heap.get?_push_size s.heap rfl) h3)
              | cons => simp at hl
/-- behind the suite its name is gone -/
def unset (i : Nat) (D : Ends) : Ends := { nx := fun σ H => D.nx (σ.set i none) H, rt := D.rt, bk := fun σ H => D.bk (σ.set i none) H, ct := fun σ H => D.ct (σ.set i none) H }
abbrev Clause := (Str → Bool → Prop) × Nat × (Addr → TS)
def wHds (Wout : WX) (D : Ends) (n : Str) (cls : Value) (d : Option Addr) : List Clause → L2.St → Hp → Prop
  | [], σ, H => Wout cls d σ H
  | (cat, i, ts) :: r, σ, H => ∃ b, cat n b ∧ (b = true → ∀ a oe, H a = none → Zc cls d oe → (∃ fv, oe.data = .fields fv) → ts a (unset i D) (σ.set i (some (.ref a))) (upd H a (.frz oe exU))) ∧ (b = false → wHds Wout D n cls d r σ H)
def WH (K : Frag) (Wout : WX) (D : Ends) (l : List Clause) : WX := fun cls d σ H => ∃ (n : Str) (C : Addr), cls = .ref C ∧ nsIn K mainGlobals n = some (some (.ref C)) ∧ wHds Wout D n cls d l σ H
inductive HdsT (X : Cx) : List ExceptHandler → List Clause → Prop
  | nil : HdsT X [] []
  | cons {e : Expr} {nm : Str} {b₀ : Stmt} {suite : List Stmt} {pos' : Pos} {cat : Str → Bool → Prop} {i : Nat} {ts : Addr → TS} {hds : List ExceptHandler} {l : List Clause} (hi : X.N[i]? = some nm) (hln : X.env.kindOf nm = some .local) (hc : CatchT X e cat)
      (hsu : ∀ a pn, PSs (X.suite a pn) (b₀ :: suite) (ts a)) (r : HdsT X hds l) : HdsT X (.ExceptHandler (some e) (some nm) (b₀ :: suite) pos' :: hds) ((cat, i, ts) :: l)
theorem ps_tryD {X : Cx} {body : List Stmt} {h₀ : ExceptHandler} {hds : List ExceptHandler} {l : List Clause} {pos : Pos} {tb : WX → TS} {Wout : WX} (hs : X.stack = X.env :: X.outer) (hf : X.env.frame = some X.env.locals) (hex : X.ex = []) (hN : X.N.Nodup) (tk : Takes X Wout)
    (hb : ∀ (W : WX) (pn : List (Addr × Obj)) (xe : Value → Shared → Prop), Takes (X.tr pn xe) W → PassesOwn (model X.prog X.w) X.A X.env xe → PSs (X.tr pn xe) body (tb W))
    (hh : HdsT X (h₀ :: hds) l) : PS X (.Try body (h₀ :: hds) [] [] pos) (fun D σ H => tb (WH X.K Wout D l) D σ H) := ⟨fun pins s σ H D I h => by
  have ok := I.ok
  have hfr : X.A.frames = some (X.env :: X.outer) := by rw [ok.frames, hs]
  refine wpAny_Try_except ?_
  refine wpAny_mono ((hb (WH X.K Wout D l) (X.pn ++ pins) (fun e s₁ => wpAny (model X.prog X.w) X.A (noteFrame e X.env) (fun _ s₂ => wpAny (model X.prog X.w) X.A (setFlight e none) (fun _ s₃ =>
    wpAny (model X.prog X.w) X.A (handleBy e X.env (h₀ :: hds)) (SP X pins D) X.xe s₃) X.xe s₂) X.xe s₁) (fun u s' xx => ?_) PassesOwn.looking).run [] s σ H D (I.toTry _) h) (fun f s1 hsp => ?_) (fun e s1 he => he)
  · -- it is caught: where it stands, what is known of it
    obtain ⟨a, B, sI, pins', σ', H', cls, d, rfl, J', nb, up, sky, na, os, ag, n, C, rfl, hn, w⟩ := xx
    have J : Inv X pins σ' H' sI := J'.ofTry ok
    refine Sky.land Zc.steady hfr hf (by rw [← hs]; exact sky) fun h2 fl2 up2 => ?_
    have inS : a ∉ frs (X.env :: X.outer) := fun hm => by
      obtain ⟨oe, vs, he, _, hd⟩ := fl2.there
      obtain ⟨_, o', e', hnf⟩ := fl2.2.2.1.mem hm
      rw [he] at e'; cases e'
      exact hnf _ hd
    have nL : a ≠ X.env.locals := fun z => inS (List.mem_filterMap.mpr ⟨X.env, List.mem_cons_self, by rw [hf, z]⟩)
    have nI : sI.heap.get? a = none := by
      cases q : sI.heap.get? a with
      | none => rfl
      | some o =>
        have := nb a o q (by rw [hs]; exact inS)
        rw [fl2.2.1] at this
        cases this
    have n0 : X.s_0.heap.get? a = none := by
      cases q : X.s_0.heap.get? a with
      | none => rfl
      | some o =>
        obtain ⟨o', e⟩ := J.base.there a o q (by rw [hex]; simp)
        rw [nI] at e
        cases e
    have np : ∀ p ∈ X.pn ++ pins, p.1 ≠ a := fun p hp z => by
      have e := (J.pin p hp).1
      rw [z, nI] at e
      cases e
    -- clause by clause
    have go : ∀ {hs' : List ExceptHandler} {l' : List Clause}, HdsT X hs' l' → ∀ (h3 : Heap) (tk3 : Nat), HandSPX.FlyingZ B (X.env :: X.outer) a (Zc (.ref C) d) h3 → sI.heap.UpToSlots h3 → wHds Wout D n (.ref C) d l' σ' H' →
        wpAny (model X.prog X.w) X.A (handleBy (.ref a) X.env hs') (SP X pins D) X.xe { s' with heap := h3, toks := tk3 } := by
      intro hs' l' hk
      induction hk with
      | nil =>
        intro h3 tk3 fl3 up3 w
        refine wpAny_handleBy_nil ?_
        obtain ⟨k1, k2, k3, oe, vs, T, oT, ts', he, hz, hd, h1, hr⟩ := id fl3
        unfold PySem.passOn
        refine wpAny_bind (wpAny_field he hd h1 ?_)
        rw [if_neg (show ¬ ((Value.ref T == Value.none) = true) from by simp)]
        have J3 : Inv X pins σ' H' { s' with heap := h3, toks := tk3 } := J.landed (s' := { s' with heap := h3, toks := tk3 }) nb fl3.1 up3 os ag
        have out : wpAny (model X.prog X.w) X.A (setFlight (.ref a) X.env.frame) (fun _ s4 => wpAny (model X.prog X.w) X.A (throw (.ref a) : Sem Flow) (SP X pins D) X.xe s4) X.xe { s' with heap := h3, toks := tk3 } := by
          rw [hf]
          exact HandSPX.setFlight_upZ fl3 fun h4 hh4 up4 => wpAny_throw (tk _ _ ⟨a, B, sI, pins, σ', H', .ref C, d, rfl, J, nb, up3.trans up4, .inr (.inr (by rw [hs]; exact hh4)), na, os, ag, w⟩)
        first
          | exact wpAny_bind (wpAny_pure (wpAny_bind out))
          | exact wpAny_bind out
      | @cons e nm b₀ suite pos' cat i ts hds2 l2 hi hln hc hsu r ih =>
        intro h3 tk3 fl3 up3 w
        obtain ⟨b, hb1, hyes, hno⟩ := w
        have J3 : Inv X pins σ' H' { s' with heap := h3, toks := tk3 } := J.landed (s' := { s' with heap := h3, toks := tk3 }) nb fl3.1 up3 os ag
        obtain ⟨oe3, vs3, he3, hz3, hd3⟩ := fl3.there
        have LT : Looks (model X.prog X.w) h3 (typeOf (.ref a)) (.ref C) := fun A Q E s k q => wpAny_typeOf_ref (k _ _ he3) (by rw [hz3.1]; exact q)
        refine wpAny_handleBy_cons (codeAny_handlers_test ?_) (by intro q; cases q)
        refine hc a _ _ _ _ _ n C b _ _ (Inv.into J3 a) LT hn hb1 fun h4 tk4 kp I4 => ?_
        have fl4 := flying_keeps fl3 kp
        have up4 := up3.trans (upto_keeps kp)
        cases b with
        | false => exact ih h4 tk4 fl4 up4 (hno rfl)
        | true =>
          refine codeAny_handlers_suite_as ?_
          refine HandSPX.lands_againZ (s := { s' with heap := h4, toks := tk4 }) fl4 fun h5 fl5 up5 => ?_
          have J5 : Inv X pins σ' H' { s' with heap := h5, toks := tk4 } := J.landed (s' := { s' with heap := h5, toks := tk4 }) nb fl5.1 (up4.trans up5) os ag
          obtain ⟨oe5, vs5, he5, hz5, hd5⟩ := fl5.there
          have S5 := Inv.into (Inv.track J5 he5 hd5 na n0 nL np) a
          refine store_ok (X := X.suite a (X.pn ++ pins)) (v := .ref a) S5 hN hi (.inl hln) rfl (fun s6 S6 => ?_) (.inr hln)
          refine wpAny_mono ((hsu a (X.pn ++ pins)).run [] s6 _ _ _ S6 (hyes rfl a oe5 na hz5 ⟨_, hd5⟩)) (fun f s7 hsp => ?_) (fun _ _ z => False.elim z)
          have leave : ∀ {σ7 : L2.St} {H7 : Hp} {Q : Shared → Prop}, Inv (X.suite a (X.pn ++ pins)) [] σ7 H7 s7 → (∀ s8, Inv X pins (σ7.set i none) H7 s8 → Q s8) →
              wpAny (model X.prog X.w) X.A (do bindName X.env nm .none; unbindBehindTheSuite X.env nm pos') (fun _ s8 => Q s8) X.xe s7 := fun {σ7 H7 Q} S7 hq => gone_ok (Inv.outOf S7 ok) hN hi hln hq
          match f, hsp with
          | .next, ⟨σ7, H7, S7, q7⟩ => exact leave S7 fun s8 J8 => ⟨_, _, J8, q7⟩
          | .brk, ⟨σ7, H7, S7, q7⟩ => exact leave S7 fun s8 J8 => ⟨_, _, J8, q7⟩
          | .cont, ⟨σ7, H7, S7, q7⟩ => exact leave S7 fun s8 J8 => ⟨_, _, J8, q7⟩
          | .ret u, ⟨v7, σ7, H7, S7, r7, q7⟩ => exact leave S7 fun s8 J8 => ⟨_, _, _, J8, r7, q7⟩
    exact go hh h2 s'.toks fl2 (up.trans up2) w
  · match f, hsp with
    | .next, ⟨σ', H', J', q⟩ => exact wpAny_execs_nil ⟨σ', H', J'.ofTry ok, q⟩
    | .brk, ⟨σ', H', J', q⟩ => exact ⟨σ', H', J'.ofTry ok, q⟩
    | .cont, ⟨σ', H', J', q⟩ => exact ⟨σ', H', J'.ofTry ok, q⟩
    | .ret u, ⟨v, σ', H', J', r, q⟩ => exact ⟨v, σ', H', J'.ofTry ok, r, q⟩⟩
section
variable {M : Ghost} {C : Ct M} {W W1 W2 W' : Wd M} {σ : L2.St} {ρ : DEnv} {pos : Pos}
abbrev ClauseD (M : Ghost) := List (Str × Bool) × Nat × SW M
@[simp] def unsetK (i : Nat) (k : K3 M) : K3 M := { nx := fun ρ g => k.nx (ρ.set i .no) g, rt := k.rt, bk := fun ρ g => k.bk (ρ.set i .no) g, ct := fun ρ g => k.ct (ρ.set i .no) g }
@[simp] def wHs (EX : Exn → DEnv → M.G → Prop) (k : K3 M) (x : Exn) : List (ClauseD M) → DEnv → M.G → Prop
  | [], ρ, g => EX x ρ g
  | (tab, i, w) :: r, ρ, g => ∃ b, (x.cls, b) ∈ tab ∧ if b = true then w (unsetK i k) (ρ.set i (.im (.exn x.cls x.ns x.ds))) g else wHs EX k x r ρ g
@[simp] def wTry (wb : (Exn → DEnv → M.G → Prop) → SW M) (cl : List (ClauseD M)) (EX : Exn → DEnv → M.G → Prop) : SW M := fun k ρ g => wb (fun x ρ' g' => wHs EX k x cl ρ' g') k ρ g
inductive DHs (C : Ct M) : List ExceptHandler → List (ClauseD M) → Prop
  | nil : DHs C [] []
  | cons {e : Expr} {nm : Str} {b₀ : Stmt} {suite : List Stmt} {pos' : Pos} {tab : List (Str × Bool)} {i : Nat} {w : SW M} {hds : List ExceptHandler} {l : List (ClauseD M)} (hi : C.X.N[i]? = some nm) (hln : C.X.env.kindOf nm = some .local) (hc : CatchT C.X e fun n b => (n, b) ∈ tab)
      (hsu : ∀ a pn, DSs ⟨C.X.suite a pn, C.W0, xno, C.B⟩ (b₀ :: suite) w) (r : DHs C hds l) : DHs C (.ExceptHandler (some e) (some nm) (b₀ :: suite) pos' :: hds) ((tab, i, w) :: l)
theorem dhs_hds {hds : List ExceptHandler} {cl : List (ClauseD M)} (h : DHs C hds cl) : ∃ l', HdsT C.X hds l' ∧ ∀ (W : Wd M) (k : K3 M) (E : Ends), Lf C W k E → ∀ (x : Exn) (cls : Value) (d : Option Addr) (σ : L2.St) (ρ : DEnv) (W' : Wd M), Sat C σ ρ W' → Gs W W' → ExR C.X.K W' x cls d →
    wHs C.EX k x cl ρ W'.g → wHds (fun cls d σ H => EXs C σ cls d H) E x.cls cls d l' σ W'.H := by
  induction h with
  | nil => exact ⟨[], .nil, fun W k E l x cls d σ ρ W' S g hx h => ⟨x, ρ, W', rfl, S, hx, h⟩⟩
  | @cons e nm b₀ suite pos' tab i w hds cl hi hln hc hsu r ih =>
    obtain ⟨l', hl, ih⟩ := ih
    refine ⟨(fun n b => (n, b) ∈ tab, i, fun a D σ H => ∀ pn, tssOf (C.X.suite a pn) (b₀ :: suite) D σ H) :: l', .cons hi hln hc (fun a pn => ⟨fun pins s σ H D I h => h pn pins s I⟩) hl, fun W k E l x cls d σ ρ W' S g hx h => ?_⟩
    obtain ⟨b, hb, h⟩ := h
    refine ⟨b, hb, fun hb1 a oe na hz hf pn => ?_, fun hb0 => ?_⟩
    · subst hb1
      rw [if_pos rfl] at h
      have go := Go.lay (o := .frz oe exU) S.ok na
      have S2 := S.step go (S.ok.lay na)
      have rp : Rp C.X.K (upd W'.F a (.frz oe exU)) W'.R (.ref a) (.exn x.cls x.ns x.ds) := by
        obtain ⟨h1, ⟨Cc, rfl⟩, h3⟩ := hx
        rcases h3 with ⟨e1, e2, e3⟩ | ⟨dd, vs, e1, e2, e3, e4⟩
        · rw [e1, e2]
          rw [e3] at hz
          exact .exn0 h1 upd_same hz hf
        · rw [e1] at hz
          exact .exn h1 upd_same hz hf (go.sub _ _ e2) e3 (e4.step go)
      have S3 := S2.set (Go.refl _) S2.ok (s := .im (.exn x.cls x.ns x.ds)) (v := .ref a) rp i
      refine (hsu a pn).run _ _ (W'.lay a (.frz oe exU)) (unsetK i k) _ ⟨S3.ok, S3.go, S3.len, S3.sl, S3.dis, S3.gs⟩ ⟨fun σ' ρ' W2 g2 S' q => ?_, l.rt, fun σ' ρ' W2 g2 S' q => ?_, fun σ' ρ' W2 g2 S' q => ?_⟩ h
      · have S4 : Sat C σ' ρ' W2 := ⟨S'.ok, S'.go, S'.len, S'.sl, S'.dis, S'.gs⟩
        exact l.nx _ _ W2 ((g.trans go.s).trans g2) (S4.setNo i) q
      · have S4 : Sat C σ' ρ' W2 := ⟨S'.ok, S'.go, S'.len, S'.sl, S'.dis, S'.gs⟩
        exact l.bk _ _ W2 ((g.trans go.s).trans g2) (S4.setNo i) q
      · have S4 : Sat C σ' ρ' W2 := ⟨S'.ok, S'.go, S'.len, S'.sl, S'.dis, S'.gs⟩
        exact l.ct _ _ W2 ((g.trans go.s).trans g2) (S4.setNo i) q
    · subst hb0
      rw [if_neg (by simp)] at h
      exact ih W k E l x cls d σ ρ W' S g hx h
theorem ds_try {body : List Stmt} {h₀ : ExceptHandler} {hds : List ExceptHandler} {cl : List (ClauseD M)} {wb : (Exn → DEnv → M.G → Prop) → SW M} (hs : C.X.stack = C.X.env :: C.X.outer) (hf : C.X.env.frame = some C.X.env.locals) (hex : C.X.ex = []) (hN : C.X.N.Nodup) (tk : TakesD C)
    (hb : ∀ pn xe EX B, TakesD (M := M) ⟨C.X.tr pn xe, C.W0, EX, B⟩ → PassesOwn (model C.X.prog C.X.w) C.X.A C.X.env xe → DSs (M := M) ⟨C.X.tr pn xe, C.W0, EX, B⟩ body (wb EX)) (hh : DHs C (h₀ :: hds) cl) :
    DS C (.Try body (h₀ :: hds) [] [] pos) (wTry wb cl C.EX) := ⟨fun σ ρ W k E S l h => by
  obtain ⟨l', hl, chain⟩ := dhs_hds hh
  refine tsOf_of (ps_tryD (tb := fun Wx D σ H => ∀ pn xe, Takes (C.X.tr pn xe) Wx → PassesOwn (model C.X.prog C.X.w) C.X.A C.X.env xe → tssOf (C.X.tr pn xe) body D σ H) hs hf hex hN tk
    (fun Wx pn xe tk hp => ⟨fun pins s σ H D I h => h pn xe tk hp pins s I⟩) hl) (fun pn xe tk hp => ?_)
  have tk2 : TakesD (M := M) ⟨C.X.tr pn xe, C.W0, fun x ρ' g' => wHs C.EX k x cl ρ' g', W⟩ := tk.imp fun cls d σ' H' q => by
    obtain ⟨x, ρ', W', rfl, S', hx, q⟩ := q
    have S4 : Sat C σ' ρ' W' := ⟨S'.ok, S'.go, S'.len, S'.sl, S'.dis, ?_⟩
    · obtain ⟨h1, ⟨Cc, rfl⟩, h3⟩ := id hx
      exact ⟨x.cls, Cc, rfl, h1, chain W k E l x _ d σ' ρ' W' S4 S'.gs hx q⟩
    · exact S.gs.trans S'.gs
  exact (hb pn xe _ W tk2 hp).run σ ρ W k E ⟨S.ok, S.go, S.len, S.sl, S.dis, Gs.refl W⟩ ⟨fun σ' ρ' W' g S' q => l.nx σ' ρ' W' g ⟨S'.ok, S'.go, S'.len, S'.sl, S'.dis, S.gs.trans S'.gs⟩ q, l.rt, fun σ' ρ' W' g S' q => l.bk σ' ρ' W' g ⟨S'.ok, S'.go, S'.len, S'.sl, S'.dis, S.gs.trans S'.gs⟩ q,
    fun σ' ρ' W' g S' q => l.ct σ' ρ' W' g ⟨S'.ok, S'.go, S'.len, S'.sl, S'.dis, S.gs.trans S'.gs⟩ q⟩ h⟩
end
section
variable {K : Frag} {n x f : Str} {b d : Bool} {ms : List Str} {tab : List (Str × Bool)} {ns : List Str}
theorem tbS_nil : ∀ p ∈ ([] : List (Str × Bool)), SubT K p.1 x p.2 := fun _ h => by cases h
theorem tbS_cons (h : SubT K n x b) (r : ∀ p ∈ tab, SubT K p.1 x p.2) : ∀ p ∈ (n, b) :: tab, SubT K p.1 x p.2 := fun p hp => by
  rcases List.mem_cons.mp hp with rfl | hp
  · exact h
  · exact r p hp
theorem tbA_nil : ∀ p ∈ ([] : List (Str × Bool)), SubA K p.1 ms p.2 := fun _ h => by cases h
theorem tbA_cons (h : SubA K n ms b) (r : ∀ p ∈ tab, SubA K p.1 ms p.2) (e : b = d := by rfl) : ∀ p ∈ (n, d) :: tab, SubA K p.1 ms p.2 := fun p hp => by
  subst e
  rcases List.mem_cons.mp hp with rfl | hp
  · exact h
  · exact r p hp
theorem tbF_nil : ∀ n ∈ ([] : List Str), FldT K n f := fun _ h => by cases h
theorem tbF_cons (h : FldT K n f) (r : ∀ m ∈ ns, FldT K m f) : ∀ m ∈ n :: ns, FldT K m f := fun m hm => by
  rcases List.mem_cons.mp hm with rfl | hm
  · exact h
  · exact r m hm
end
section
variable {M : Ghost} {C : Ct M} {W W1 W2 W' : Wd M} {σ : L2.St} {ρ : DEnv} {pos : Pos}
theorem de_dic0 : DE C (.Dict [] [] pos) (wC (.dic [])) := ⟨fun σ ρ W Q q S hQ hw =>
  tOf_of pe_dnewK (fun d hd => hQ _ _ (W.lay d (.dK [])) (Go.lay S.ok hd) (S.ok.lay hd) (.dic upd_same .nil) hw)⟩
theorem de_dic1 (y : List Nat) {x : Str} {i : Int} {j j2 : Nat} {p1 p2 : Pos} (h : x.cps.toList = y := by decide) : DE C (.Dict [some (.Constant (.str x) j p1)] [.Constant (.int i) j2 p2] pos) (wC (.dic [(.inr (S y), .int i)])) := ⟨fun σ ρ W Q q S hQ hw =>
  tOf_of (pe_disp (pps_cons pe_str pe_int pps_nil) (by rfl) (by rfl) (fun z => by cases z) (by simp)) (fun d hd => ⟨upd_same, [(.inr x, .int i)], rfl, by simp, by
    subst h
    rw [upd_upd, S_of] at *
    exact hQ _ _ (W.lay d (.dK [(.inr x, .int i)])) (Go.lay S.ok hd) (S.ok.lay hd) (.dic upd_same (.cons (.int i) .nil)) (by rw [← S_of x] ; exact hw)⟩)⟩
end
end DL
set_option Elab.async false
set_option linter.all false
set_option maxRecDepth 100000
set_option maxHeartbeats 1000000
namespace DL
open PySem L2
section
variable {X : Cx}
/-- a list beside an empty one -/
def rNil (K : PySem.W.Frag) (f : Bool → Bool) : R2 := fun x y H Q => ∃ p q xs, x = .ref p ∧ y = .ref q ∧ SqL K H p xs ∧ SqL K H q [] ∧ Q (.bl (f xs.isEmpty)) H
theorem op_eqNil (hu : X.A.units < cLine) : OpR X (compareOp .Eq) (rNil X.K id) := by
  intro pins s σ H x y v u Q I rx ry h
  obtain ⟨p, q, xs, rfl, rfl, h1, h2, hq⟩ := h
  cases (show v = Value.ref p from rx)
  cases (show u = Value.ref q from ry)
  obtain ⟨its, rv, l1, _⟩ := I.list h1
  obtain ⟨it2, rw2, l2, _⟩ := I.list h2
  cases rw2
  cases rv with
  | nil => exact PySem.SeqAt.eq_listAt (e := fun _ => true) l1.isList l2.isList rfl hu (fun j h1 _ => absurd h1 (by simp)) ⟨.bl _, H, I, rfl, hq⟩
  | cons a t => exact PySem.SeqAt.eq_list_lengthsAt l1.isList l2.isList (by simp) hu ⟨.bl _, H, I, rfl, hq⟩
theorem op_neNil (hu : X.A.units < cLine) : OpR X (compareOp .NotEq) (rNil X.K not) := by
  intro pins s σ H x y v u Q I rx ry h
  obtain ⟨p, q, xs, rfl, rfl, h1, h2, hq⟩ := h
  cases (show v = Value.ref p from rx)
  cases (show u = Value.ref q from ry)
  obtain ⟨its, rv, l1, _⟩ := I.list h1
  obtain ⟨it2, rw2, l2, _⟩ := I.list h2
  cases rw2
  cases rv with
  | nil => exact PySem.SeqAt.RcNeAt.lists (e := fun _ => true) l1.isList l2.isList rfl hu (fun j h1 _ => absurd h1 (by simp)) X.prog X.w _ _ ⟨.bl _, H, I, rfl, hq⟩
  | cons a t => exact PySem.SeqAt.RcNeAt.lists_lengths l1.isList l2.isList (by simp) hu X.prog X.w _ _ ⟨.bl _, H, I, rfl, hq⟩
/-- a tuple beside () -/
def rNilT (K : PySem.W.Frag) (f : Bool → Bool) : R2 := fun x y H Q => ∃ p q xs, x = .ref p ∧ y = .ref q ∧ SqT K H p xs ∧ SqT K H q [] ∧ Q (.bl (f xs.isEmpty)) H
theorem nilT_b {vs : List V} {its : List Value} (r : Vals vs its) : ((List.range (min its.toArray.size (#[] : Array Value).size)).all (fun _ => true) && its.toArray.size == (#[] : Array Value).size) = vs.isEmpty := by
  cases r with
  | nil => rfl
  | cons a t => simp
theorem op_eqNilT (hu : X.A.units < cLine) : OpR X (compareOp .Eq) (rNilT X.K id) := by
  intro pins s σ H x y v u Q I rx ry h
  obtain ⟨p, q, xs, rfl, rfl, h1, h2, hq⟩ := h
  cases (show v = Value.ref p from rx)
  cases (show u = Value.ref q from ry)
  obtain ⟨its, rv, l1, _⟩ := I.tuple h1
  obtain ⟨it2, rw2, l2, _⟩ := I.tuple h2
  cases rw2
  refine PySem.SeqAt.eq_tupleAt (e := fun _ => true) (show s.heap.IsTuple p its.toArray from l1) (show s.heap.IsTuple q #[] from l2) hu (fun j _ h2 => absurd h2 (by simp)) ?_
  rw [nilT_b rv]
  exact ⟨.bl _, H, I, rfl, hq⟩
theorem op_neNilT (hu : X.A.units < cLine) : OpR X (compareOp .NotEq) (rNilT X.K not) := by
  intro pins s σ H x y v u Q I rx ry h
  obtain ⟨p, q, xs, rfl, rfl, h1, h2, hq⟩ := h
  cases (show v = Value.ref p from rx)
  cases (show u = Value.ref q from ry)
  obtain ⟨its, rv, l1, _⟩ := I.tuple h1
  obtain ⟨it2, rw2, l2, _⟩ := I.tuple h2
  cases rw2
  refine PySem.SeqAt.RcNeAt.tuples (e := fun _ => true) (show s.heap.IsTuple p its.toArray from l1) (show s.heap.IsTuple q #[] from l2) hu (fun j _ h2 => absurd h2 (by simp)) X.prog X.w _ _ ?_
  rw [nilT_b rv]
  exact ⟨.bl _, H, I, rfl, hq⟩
/-- xs.count(y), flat items -/
def rCntF (K : PySem.W.Frag) : V → List V → Hp → VK → Prop := fun x xs H Q => ∃ (a : Addr) (ys : List V) (y : V), x = V.ref a ∧ xs = [y] ∧ SqL K H a ys ∧ flatV y = true ∧ ys.all flatV = true ∧ Q (.int ((ys.countP fun z => eqV z y : Nat) : Int)) H
theorem countU {y : V} : ∀ {ys : List V} {us : List Value}, Vals ys us → ys.all flatV = true → us.countP (eqU y) = ys.countP fun z => eqV z y
  | _, _, .nil, _ => rfl
  | z :: ys, u :: us, .cons r t, f => by
    rw [List.all_cons, Bool.and_eq_true] at f
    rw [List.countP_cons, List.countP_cons, countU t f.2, eqU_of r f.1]
theorem mt_countF : MtR X "list.count" (rCntF X.K) := by
  intro pins s σ H x xs v us Q I rx rxs h
  obtain ⟨a, ys, y, rfl, rfl, hs, fy, fys, q⟩ := h
  cases rx
  cases rxs with
  | cons ry rt =>
    rename_i uy ut
    cases rt
    obtain ⟨its, rv, ⟨⟨cls, dd, data, sl⟩, n, ho, hc, hdn, hd⟩, hlen⟩ := I.list hs
    simp only at hc hd
    subst hc hd
    refine call_meets PySem.F.slot_list_count ⟨_, ho, rfl⟩ PySem.F.entry_list_count (PySem.F.args_list_count_2 _ _)
      (PySem.SeqAt.list_countAt a its.toArray n dd sl uy (eqU y)) ⟨ho, fun u' hu' => mem_eqAt ry fy rv fys u' (by simpa using hu'), ?_⟩
    have ec : its.toArray.toList.countP (eqU y) = ys.countP fun z => eqV z y := countU rv fys
    rw [ec]
    exact ⟨.int _, H, I.tok _, ⟨_, rfl⟩, q⟩
end
section
variable {M : Ghost} {C : Ct M} {W W1 W2 W' : Wd M} {σ : L2.St} {ρ : DEnv} {e o : Expr} {es : List Expr} {we wo : EW M} {pos apos : Pos} {wa : AW M}
def oNil (f : Bool → Bool) : D → D → (D → Prop) → Prop
  | .lst x, .lst [], q => q (.bl (f x.isEmpty))
  | _, _, _ => False
theorem opd_nil {f : Bool → Bool} {op : Value → Value → Sem Value} (h : OpR C.X op (rNil C.X.K f)) : OpD C op (oNil f) := by
  refine ⟨_, h, fun W x y d e Q q k r1 r2 hQ h => ?_⟩
  cases d with
  | lst a =>
    cases e with
    | lst b =>
      cases b with
      | nil =>
        obtain ⟨p, vs, rfl, hp, np, ra⟩ := r1.lst_inv k
        obtain ⟨p2, vs2, rfl, hp2, np2, rb⟩ := r2.lst_inv k
        cases rb
        refine ⟨p, p2, vs, rfl, rfl, .of hp, .of hp2, hQ _ _ W (Go.refl W) k rfl (.bl _) ?_⟩
        cases ra <;> exact h
      | cons => exact h.elim
    | _ => exact h.elim
  | _ => exact h.elim
def oNilT (f : Bool → Bool) : D → D → (D → Prop) → Prop
  | .tup x, .tup [], q => q (.bl (f x.isEmpty))
  | _, _, _ => False
theorem opd_nilT {f : Bool → Bool} {op : Value → Value → Sem Value} (h : OpR C.X op (rNilT C.X.K f)) : OpD C op (oNilT f) := by
  refine ⟨_, h, fun W x y d e Q q k r1 r2 hQ h => ?_⟩
  cases d with
  | tup a =>
    cases e with
    | tup b =>
      cases b with
      | nil =>
        obtain ⟨p, vs, rfl, hp, ra⟩ := r1.tup_inv
        obtain ⟨p2, vs2, rfl, hp2, rb⟩ := r2.tup_inv
        cases rb
        refine ⟨p, p2, vs, rfl, rfl, same_tup k.sub hp, same_tup k.sub hp2, hQ _ _ W (Go.refl W) k rfl (.bl _) ?_⟩
        cases ra <;> exact h
      | cons => exact h.elim
    | _ => exact h.elim
  | _ => exact h.elim
theorem opd_eqNilT (hu : C.X.A.units + 64 < cLine) : OpD C (compareOp .Eq) (oNilT id) := opd_nilT (op_eqNilT (by omega))
theorem opd_neNilT (hu : C.X.A.units + 64 < cLine) : OpD C (compareOp .NotEq) (oNilT not) := opd_nilT (op_neNilT (by omega))
@[simp] theorem sm_nilT {f : Bool → Bool} {ds : List D} {q : D → Prop} : oNilT f (.tup ds) (.tup []) q = q (.bl (f ds.isEmpty)) := rfl
theorem opd_eqNil (hu : C.X.A.units + 64 < cLine) : OpD C (compareOp .Eq) (oNil id) := opd_nil (op_eqNil (by omega))
theorem opd_neNil (hu : C.X.A.units + 64 < cLine) : OpD C (compareOp .NotEq) (oNil not) := opd_nil (op_neNil (by omega))
@[simp] theorem sm_nil {f : Bool → Bool} {ds : List D} {q : D → Prop} : oNil f (.lst ds) (.lst []) q = q (.bl (f ds.isEmpty)) := rfl
/-- the first place of an item -/
def ixD (y : D) (ds : List D) (q : D → Prop) : Prop := flatD y = true ∧ ds.all flatD = true ∧ ∃ j : Nat, (∃ z, ds[j]? = some z ∧ eqF z y = true) ∧ (∀ (m : Nat) z, m < j → ds[m]? = some z → eqF z y = false) ∧ q (.int j)
@[simp] def wIndex (wo we : EW M) : EW M := fun ρ g q => wo ρ g fun d g1 => ∃ ds, d = .lst ds ∧ we ρ g1 fun y g2 => ixD y ds fun r => q r g2
@[simp] def wCount (wo we : EW M) : EW M := fun ρ g q => wo ρ g fun d g1 => ∃ ds, d = .lst ds ∧ we ρ g1 fun y g2 => flatD y = true ∧ ds.all flatD = true ∧ q (.int ((ds.countP fun z => eqF z y : Nat) : Int)) g2
theorem rpa_eqF {K : PySem.W.Frag} {F : Hp} {R : List Addr} {u : V} {y : D} (r : Rp K F R u y) : ∀ {vs : List V} {ds : List D}, RpA K F R vs ds → (vs.countP fun z => eqV z u) = ds.countP fun z => eqF z y
  | _, _, .nil => rfl
  | _, _, .cons a t => by rw [List.countP_cons, List.countP_cons, rpa_eqF r t, rp_eqF a r]
theorem de_index (ho : DP C o wo) (he : DE C e we) (hbase : attributeBase o "index" C.X.env (eval o C.X.env) = eval o C.X.env := by rfl)
    (hfew : ((backTo pos (starEach [e] C.X.env)).all (fun x => !x.1) && (backToKw pos (keywordEach [] C.X.env)).all (fun x => x.1.isSome) && decide ([e].length + ([] : List Keyword).length + (if ([] : List Keyword).isEmpty then 0 else 1) < 30)) = true := by rfl)
    (hline : (apos.endLine == pos.line) = true := by rfl) (hs : starEach [e] C.X.env = [(false, eval e C.X.env)] := by rfl) (hpl : (backTo pos (starEach [] C.X.env)).any (·.1) = false := by rfl) :
    DE C (.Call (.Attribute o "index" apos) [e] [] pos) (wIndex wo we) := ⟨fun σ ρ W Q q S hQ hw =>
  tOf_of (pe_bm PySem.F.plainAttrs_list PySem.F.slot_list_index PySem.F.type_list_index mt_index pe_tOf (pa_cons pe_tOf pa_nil hs) hbase hfew hline hs hpl) (ho.run σ ρ W _ _ S (fun v d W1 g1 k1 r1 q1 => by
    cases d with
    | lst ds =>
      obtain ⟨p, vs, rfl, hp, np, ra⟩ := r1.lst_inv k1
      obtain ⟨ds', e1, q1⟩ := q1
      cases e1
      refine ⟨.inl ⟨rfl, _, .of hp⟩, he.run σ ρ W1 _ _ (S.step g1 k1) (fun u y W2 g2 k2 r2 q2 => ?_) q1⟩
      obtain ⟨h1, h2, j, ⟨z, hz, hzy⟩, hno, q2⟩ := q2
      have ra2 := ra.step g2
      have hp2 := g2.keep _ _ hp np
      obtain ⟨v', hv, rv⟩ := ra2.get' hz
      refine ⟨p, vs, u, j, v', rfl, rfl, .of hp2, (rp_flat r2).trans h1, (rpa_flat ra2).trans h2, hv, (rp_eqF rv r2).trans hzy, fun m z' hm hz' => ?_, hQ _ _ W2 (g1.trans g2) k2 (.int _) q2⟩
      obtain ⟨d', hd', rd⟩ := ra2.get hz'
      exact (rp_eqF rd r2).trans (hno m d' hm hd')
    | _ => obtain ⟨_, h, _⟩ := q1; cases h) hw)⟩
theorem de_count (ho : DP C o wo) (he : DE C e we) (hbase : attributeBase o "count" C.X.env (eval o C.X.env) = eval o C.X.env := by rfl)
    (hfew : ((backTo pos (starEach [e] C.X.env)).all (fun x => !x.1) && (backToKw pos (keywordEach [] C.X.env)).all (fun x => x.1.isSome) && decide ([e].length + ([] : List Keyword).length + (if ([] : List Keyword).isEmpty then 0 else 1) < 30)) = true := by rfl)
    (hline : (apos.endLine == pos.line) = true := by rfl) (hs : starEach [e] C.X.env = [(false, eval e C.X.env)] := by rfl) (hpl : (backTo pos (starEach [] C.X.env)).any (·.1) = false := by rfl) :
    DE C (.Call (.Attribute o "count" apos) [e] [] pos) (wCount wo we) := ⟨fun σ ρ W Q q S hQ hw =>
  tOf_of (pe_bm PySem.F.plainAttrs_list PySem.F.slot_list_count PySem.F.type_list_count mt_countF pe_tOf (pa_cons pe_tOf pa_nil hs) hbase hfew hline hs hpl) (ho.run σ ρ W _ _ S (fun v d W1 g1 k1 r1 q1 => by
    cases d with
    | lst ds =>
      obtain ⟨p, vs, rfl, hp, np, ra⟩ := r1.lst_inv k1
      obtain ⟨ds', e1, q1⟩ := q1
      cases e1
      refine ⟨.inl ⟨rfl, _, .of hp⟩, he.run σ ρ W1 _ _ (S.step g1 k1) (fun u y W2 g2 k2 r2 q2 => ?_) q1⟩
      obtain ⟨h1, h2, q2⟩ := q2
      have ra2 := ra.step g2
      have hp2 := g2.keep _ _ hp np
      refine ⟨p, vs, u, rfl, rfl, .of hp2, (rp_flat r2).trans h1, (rpa_flat ra2).trans h2, hQ _ _ W2 (g1.trans g2) k2 (.int _) ?_⟩
      rw [rpa_eqF r2 ra2]
      exact q2
    | _ => obtain ⟨_, h, _⟩ := q1; cases h) hw)⟩
end
end DL
set_option Elab.async false
set_option linter.all false
set_option maxRecDepth 100000
set_option maxHeartbeats 1000000
namespace DL
open PySem L2 PySem.W
section
variable {K : Frag}
theorem kit_of {t c : Value} {b : Bool} (h : kitCls K t c = some b) (hs : t = c → b = true) : kitOne K t c = some b := by
  unfold kitOne
  by_cases e : t = c
  · subst e
    rw [if_pos (beq_self_eq_true _), hs rfl]
  · rw [if_neg (by simpa using e)]
    exact h
theorem kitCls_ref {C : Addr} {t : Value} {b : Bool} (hdct : hasDictIn K C = true) (ht : typeIn K (.ref C) = some (.type "type")) (h4 : subIn K t (.ref C) = some b) : kitCls K t (.ref C) = some b := by
  obtain ⟨cd, hc, _⟩ := any_some hdct
  have e2 : ((clsIn K C).isSome && typeIn K (.ref C) == some (.type "type")) = true := by rw [hc, ht] <;> rfl
  show (if ((clsIn K C).isSome && typeIn K (.ref C) == some (.type "type")) = true then subIn K t (.ref C) else none) = some b
  rw [if_pos e2]
  exact h4
/-- both classes of the text -/
theorem subT_own {n m : Str} {b : Bool} {C C' : Addr} (h1 : nsIn K mainGlobals n = some (some (.ref C))) (h2 : nsIn K mainGlobals m = some (some (.ref C'))) (sb : subIn K (.ref C) (.ref C') = some b) (ss : subIn K (.ref C) (.ref C) = some true)
    (eb : subIn K (.ref C') (.type "BaseException") = some true) (hd : hasDictIn K C' = true) (ty : typeIn K (.ref C') = some (.type "type")) (h5 : ExcC K C) : SubT K n m b :=
  .mk' h1 (.own h2) (exm_ref eb hd ty sb) (kit_of (kitCls_ref hd ty sb) fun e => by cases e; rw [ss] at sb; cases sb; rfl) h5
/-- the other one built in -/
theorem subT_ty {n m : Str} {T : String} {b : Bool} {C : Addr} (h1 : nsIn K mainGlobals n = some (some (.ref C))) (h2 : nsIn K mainGlobals m = some none) (hb : bootBuiltins m = some (.type T)) (hm : m ≠ "__name__") (sb : subIn K (.ref C) (.type T) = some b)
    (se : subIn K (.type T) (.type "BaseException") = some true) (mt : kitMeta T = true) (h5 : ExcC K C) : SubT K n m b := by
  have hk : kitCls K (.ref C) (.type T) = some b := by
    show (if kitMeta T = true then subIn K (.ref C) (.type T) else none) = some b
    rw [if_pos mt]
    exact sb
  refine .mk' h1 (.ty h2 hb hm) ?_ (kit_of hk fun e => nomatch e) h5
  unfold exmOne
  rw [se]
  exact hk
theorem exInit_of {C N : Addr} {nm q : Str} {bs bm : List Value} {sn : List Str} {sub : List Value} {ab : Bool} {col : Option Bool} {dd : Option Addr} {m0 m1 m2 m3 m5 : Option Value} {bmB : List Value} {newId : String}
    (xL : K.lookup C = some (excClassObj nm q C N bs bm true sn sub ab col dd m0 m1 m2 m3 m5 newId)) (te : excTail bmB bm = true) : excInitIn K C bmB newId = true ∧ excOver K C bmB = true := by
  constructor
  · unfold excInitIn
    rw [xL]
    simp [excClassObj, te]
  · unfold excOver clsIn
    rw [xL]
    simp [excClassObj, te]
end
end DL
set_option Elab.async false
set_option linter.all false
set_option maxRecDepth 100000
set_option maxHeartbeats 1000000
namespace DL
open PySem L2 PySem.W
section
variable {X : Cx}
def rMinS (K : PySem.W.Frag) : List V → Hp → VK → Prop := fun vs H Q => ∃ (a : Addr) (xs : List Str), vs = [V.ref a] ∧ SqL K H a (xs.map V.str) ∧ xs ≠ [] ∧ ∀ m, m ∈ xs → (∀ y ∈ xs, ¬ y.cps.toList < m.cps.toList) → Q (.str m) H
theorem strs_reads {h : Heap} : ∀ {xs : List Str} {us : List Value}, Vals (xs.map V.str) us → ∃ as, ReadsAll h us (xs.map PyData.str) as
  | [], _, .nil => ⟨_, .nil⟩
  | x :: xs, _, .cons a t => by
    obtain ⟨tk, rfl⟩ := a
    obtain ⟨as, ih⟩ := strs_reads (h := h) t
    exact ⟨_, .cons (Reads.str x tk) ih⟩
theorem strs_depth : ∀ xs : List Str, PyData.depthAll (xs.map PyData.str) ≤ 1
  | [] => by decide
  | x :: xs => by
    have := strs_depth xs
    simp only [List.map_cons, PyData.depthAll, PyData.depth]
    omega
theorem minD_strs : ∀ (xs : List Str) (x : Str), ∃ m, m ∈ x :: xs ∧ minD (.str x) (xs.map PyData.str) = .str m ∧ ∀ y ∈ x :: xs, ¬ y.cps.toList < m.cps.toList
  | [], x => ⟨x, List.mem_cons_self, rfl, fun y hy => by rw [List.mem_singleton.mp hy]; exact List.lt_irrefl _⟩
  | z :: xs, x => by
    by_cases c : z.cps.toList < x.cps.toList
    · obtain ⟨m, hm, e, h⟩ := minD_strs xs z
      refine ⟨m, List.mem_cons_of_mem _ hm, ?_, fun y hy => ?_⟩
      · show minD (if dataLt (.str z) (.str x) = true then PyData.str z else PyData.str x) (xs.map PyData.str) = .str m
        rw [dataLt_str, if_pos (decide_eq_true c)]
        exact e
      · rcases List.mem_cons.mp hy with rfl | hy
        · exact fun z' => h z List.mem_cons_self (List.lt_trans c z')
        · exact h y hy
    · obtain ⟨m, hm, e, h⟩ := minD_strs xs x
      refine ⟨m, ?_, ?_, fun y hy => ?_⟩
      · rcases List.mem_cons.mp hm with rfl | hm
        · exact List.mem_cons_self
        · exact List.mem_cons_of_mem _ (List.mem_cons_of_mem _ hm)
      · show minD (if dataLt (.str z) (.str x) = true then PyData.str z else PyData.str x) (xs.map PyData.str) = .str m
        rw [dataLt_str, if_neg (by simpa using c)]
        exact e
      · rcases List.mem_cons.mp hy with rfl | hy
        · exact h _ List.mem_cons_self
        · rcases List.mem_cons.mp hy with rfl | hy
          · intro z'
            have h1 := h x List.mem_cons_self
            by_cases e : m.cps.toList < x.cps.toList
            · exact c (List.lt_trans z' e)
            · exact c ((List.le_antisymm (List.not_lt.mp h1) (List.not_lt.mp e)) ▸ z')
          · exact h y (List.mem_cons_of_mem _ hy)
theorem cr_minS (hc : X.calm = true) (hu : X.A.units + 64 < cLine) : CallR X (.builtin "min") (rMinS X.K) := by
  intro pins s σ H vs us Q I r h
  obtain ⟨a, xs, rfl, hs, hne, q⟩ := h
  obtain ⟨its, rv, hl, _⟩ := I.list hs
  rw [Vals.ref1 r]
  cases xs with
  | nil => exact absurd rfl hne
  | cons x xs =>
    obtain ⟨as, hr⟩ := strs_reads (h := s.heap) rv
    have hd := strs_depth (x :: xs)
    obtain ⟨m, hm, em, hmin⟩ := minD_strs xs x
    refine min_list_data (x := .str x) (xs := xs.map PyData.str) (I.ok.hd hc) hl.isList hr ⟨fun p hp p' hp' => ?_, fun p hp => ?_⟩ (by show X.A.units + 1 + PyData.depthAll ((x :: xs).map PyData.str) < cLine; omega) fun i v h' tk bs hv hr' hk => ?_
    · obtain ⟨y, _, rfl⟩ := List.mem_map.mp (show p ∈ (x :: xs).map PyData.str from hp)
      obtain ⟨y', _, rfl⟩ := List.mem_map.mp (show p' ∈ (x :: xs).map PyData.str from hp')
      rfl
    · obtain ⟨y, _, rfl⟩ := List.mem_map.mp (show p ∈ (x :: xs).map PyData.str from hp)
      exact fun e => nomatch e
    · rw [em] at hr'
      cases hr'
      exact ⟨.str m, H, I.kept hk, ⟨_, rfl⟩, q m hm hmin⟩
/-- min of a tuple of numbers -/
def rMinT (K : PySem.W.Frag) : List V → Hp → VK → Prop := fun vs H Q => ∃ (a : Addr) (n : Int) (ns : List Int), vs = [V.ref a] ∧ SqT K H a ((n :: ns).map V.int) ∧ Q (.int (ns.foldl min n)) H
theorem ints_reads {h : Heap} : ∀ {xs : List Int} {us : List Value}, Vals (xs.map V.int) us → ∃ as, ReadsAll h us (xs.map PyData.int) as
  | [], _, .nil => ⟨_, .nil⟩
  | x :: xs, _, .cons a t => by
    obtain ⟨tk, rfl⟩ := a
    obtain ⟨as, ih⟩ := ints_reads (h := h) t
    exact ⟨_, .cons (Reads.int x tk) ih⟩
theorem ints_depth : ∀ xs : List Int, PyData.depthAll (xs.map PyData.int) ≤ 1
  | [] => by decide
  | x :: xs => by
    have := ints_depth xs
    simp only [List.map_cons, PyData.depthAll, PyData.depth]
    omega
theorem cr_minT (hc : X.calm = true) (hu : X.A.units + 64 < cLine) : CallR X (.builtin "min") (rMinT X.K) := by
  intro pins s σ H vs us Q I r h
  obtain ⟨a, x, xs, rfl, hs, q⟩ := h
  obtain ⟨its, rv, hl, _⟩ := I.tuple hs
  rw [Vals.ref1 r]
  obtain ⟨as, hr⟩ := ints_reads (h := s.heap) rv
  have hd := ints_depth (x :: xs)
  refine min_tuple_data (x := .int x) (xs := xs.map PyData.int) (I.ok.hd hc) (show s.heap.IsTuple a its.toArray from hl) hr ⟨fun p hp p' hp' => ?_, fun p hp => ?_⟩ (by show X.A.units + 1 + PyData.depthAll ((x :: xs).map PyData.int) < cLine; omega) fun i v h' tk bs hv hr' hk => ?_
  · obtain ⟨y, _, rfl⟩ := List.mem_map.mp (show p ∈ (x :: xs).map PyData.int from hp)
    obtain ⟨y', _, rfl⟩ := List.mem_map.mp (show p' ∈ (x :: xs).map PyData.int from hp')
    rfl
  · obtain ⟨y, _, rfl⟩ := List.mem_map.mp (show p ∈ (x :: xs).map PyData.int from hp)
    exact fun e => nomatch e
  · rw [minD_ints] at hr'
    cases hr'
    exact ⟨.int _, H, I.kept hk, ⟨_, rfl⟩, q⟩
/-- list(text) -/
def rListS : List V → Hp → VK → Prop := fun xs H Q => ∃ z : Str, xs = [.str z] ∧ z.length ≤ sizeLine ∧ ∀ l, H l = none → Q (.ref l) (upd H l (.lst (z.cps.toList.map fun c => V.str ⟨#[c]⟩)))
theorem vals_signs {z : Str} : ∀ (n : Nat) (acc : List Value), acc.length = z.cps.toList.length - n → n ≤ z.cps.toList.length → (∀ j v, acc[j]? = some v → ∃ c u, z.cps.toList[n + j]? = some c ∧ v = .str ⟨#[c]⟩ u) → Vals ((z.cps.toList.drop n).map fun c => V.str ⟨#[c]⟩) acc
  | n, [], hl, hn, h => by
    rw [List.drop_of_length_le (by rw [List.length_nil] at hl; omega)]
    exact .nil
  | n, v :: acc, hl, hn, h => by
    have hlt : n < z.cps.toList.length := by rw [List.length_cons] at hl; omega
    rw [List.drop_eq_getElem_cons hlt, List.map_cons]
    obtain ⟨c, u, hc, rfl⟩ := h 0 v rfl
    rw [Nat.add_zero, List.getElem?_eq_getElem hlt] at hc
    cases hc
    refine .cons ⟨u, rfl⟩ (vals_signs (n + 1) acc (by rw [List.length_cons] at hl; omega) (by omega) fun j v hv => ?_)
    have := h (j + 1) v hv
    rwa [show n + (j + 1) = n + 1 + j by omega] at this
theorem call_list_strs (hc : X.calm = true) : CallR X (.type "list") rListS := by
  intro pins s σ H xs us Q I r h
  obtain ⟨z, rfl, hz, q⟩ := h
  obtain ⟨u, rfl, rx⟩ := vals1 r
  obtain ⟨t, rfl⟩ := rx
  refine call_list_str (I.ok.hd hc) z t (fun h' tk acc' c' kp e hacc => ?_) hz
  have rv : Vals (z.cps.toList.map fun c => V.str ⟨#[c]⟩) acc'.toList := by
    have := vals_signs (z := z) 0 acc'.toList (by have := hacc.1; simp at this ⊢; omega) (Nat.zero_le _) fun j v hv => by
      obtain ⟨c, u, e1, e2⟩ := hacc.2 j v (by simpa using hv)
      exact ⟨c, u, by simpa using e1, e2⟩
    simpa using this
  exact ⟨.ref s.heap.objs.size, _, I.laid (t' := tk) kp (Nat.le_refl _) (show ObjOk X.prog X.w _ h' _ (.lst (z.cps.toList.map fun c => V.str ⟨#[c]⟩)) from ⟨by rw [List.length_map, Array.length_toList]; exact hz, acc'.toList, c', rv, by simpa using e⟩), rfl, q _ (I.hok.fresh (Nat.le_refl _))⟩
end
section
variable {M : Ghost} {C : Ct M}
def cMinS (ds : List D) (q : D → Prop) : Prop := ∃ ts : List (List Nat), ds = [.lst (ts.map D.str)] ∧ ts ≠ [] ∧ ∀ m ∈ ts, (∀ y ∈ ts, ¬ y < m) → q (.str m)
theorem calld_minS (hc : C.X.calm = true) (hu : C.X.A.units + 64 < cLine) : CallD C (.builtin "min") cMinS := by
  refine ⟨_, cr_minS hc hu, fun W vs ds Q q k r hQ h => ?_⟩
  obtain ⟨ts, rfl, hne, h⟩ := h
  obtain ⟨v, rfl, r0⟩ := pair1 r
  obtain ⟨p, vs, rfl, hp, np, ra⟩ := r0.lst_inv k
  obtain ⟨zs, rfl, e⟩ := ra.strs
  refine ⟨p, zs, rfl, .of hp, fun z => hne (by rw [← e, z]; rfl), fun m hm hy => hQ _ _ W (Go.refl W) k rfl (rp_strS m rfl) (h _ (e ▸ List.mem_map_of_mem hm) fun y hy' => ?_)⟩
  rw [← e] at hy'
  obtain ⟨z, hz, rfl⟩ := List.mem_map.mp hy'
  exact hy z hz
def cMinT (ds : List D) (q : D → Prop) : Prop := ∃ (n : Int) (ns : List Int), ds = [.tup ((n :: ns).map D.int)] ∧ q (.int (ns.foldl min n))
theorem calld_minT (hc : C.X.calm = true) (hu : C.X.A.units + 64 < cLine) : CallD C (.builtin "min") cMinT := by
  refine ⟨_, cr_minT hc hu, fun W vs ds Q q k r hQ h => ?_⟩
  obtain ⟨n, ns, rfl, h⟩ := h
  obtain ⟨v, rfl, r0⟩ := pair1 r
  obtain ⟨p, vs, rfl, hp, ra⟩ := r0.tup_inv
  obtain rfl := ra.ints
  exact ⟨p, n, ns, rfl, same_tup k.sub hp, hQ _ _ W (Go.refl W) k rfl (.int _) h⟩
def cListX : List D → (List D → Prop) → Prop
  | [.lst ds], q => q ds
  | [.tup ds], q => q ds
  | [.str x], q => x.length ≤ sizeLine ∧ q (x.map fun c => .str [c])
  | _, _ => False
theorem rpa_signs {W : Wd M} {K : PySem.W.Frag} : ∀ {xs : List Nat}, RpA K W.F W.R (xs.map fun c => V.str ⟨#[c]⟩) (xs.map fun c => D.str [c])
  | [] => .nil
  | c :: xs => .cons (rp_strS _ rfl) rpa_signs
theorem calln_listX (hc : C.X.calm = true) : CallN C (.type "list") cListX := by
  refine ⟨_, call_list_of.or (call_list_strs hc), fun W vs ds Q q k r hQ h => ?_⟩
  have e : ∃ d, ds = [d] := by
    cases ds with
    | nil => exact h.elim
    | cons a t =>
      cases t with
      | nil => exact ⟨a, rfl⟩
      | cons b c => cases a <;> exact h.elim
  obtain ⟨d, rfl⟩ := e
  obtain ⟨v, rfl, r0⟩ := pair1 r
  cases d with
  | lst ds =>
    obtain ⟨p, vs, rfl, hp, np, ra⟩ := r0.lst_inv k
    exact .inl ⟨p, vs, rfl, .inl (.of hp), fun t ht => hQ t _ _ (W.new t (.lst vs)) (Go.new k ht) (k.new ht) rfl upd_same (k.noF ht) (k.noR ht) ht ra h⟩
  | tup ds =>
    obtain ⟨p, vs, rfl, hp, ra⟩ := r0.tup_inv
    exact .inl ⟨p, vs, rfl, .inr (same_tup k.sub hp), fun t ht => hQ t _ _ (W.new t (.lst vs)) (Go.new k ht) (k.new ht) rfl upd_same (k.noF ht) (k.noR ht) ht ra h⟩
  | str x =>
    obtain ⟨z, rfl, rfl⟩ := r0.str_inv
    exact .inr ⟨z, rfl, by rw [str_len]; exact h.1, fun t ht => hQ t _ _ (W.new t (.lst (z.cps.toList.map fun c => V.str ⟨#[c]⟩))) (Go.new k ht) (k.new ht) rfl upd_same (k.noF ht) (k.noR ht) ht rpa_signs h.2⟩
  | _ => exact h.elim
@[simp] theorem sm_listX1 {ds : List D} {qn : List D → Prop} : (cListX [.lst ds] qn) = (qn ds) := rfl
@[simp] theorem sm_listX2 {ds : List D} {qn : List D → Prop} : (cListX [.tup ds] qn) = (qn ds) := rfl
@[simp] theorem sm_listX3 {x : List Nat} {qn : List D → Prop} : (cListX [.str x] qn) = (x.length ≤ sizeLine ∧ qn (x.map fun c => .str [c])) := rfl
end
end DL
set_option Elab.async false
set_option linter.all false
set_option maxRecDepth 100000
set_option maxHeartbeats 1000000
namespace DL
open PySem L2
section
variable {M : Ghost} {C : Ct M} {W W1 W2 W' : Wd M} {σ : L2.St} {ρ : DEnv} {e : Expr} {we : EW M} {pos : Pos}
def forE (gw : GW) (wb : SW M) (e : DEnv → M.G → Prop) : List D → SW M
  | [], _ => e
  | d :: ds, k => fun ρ g => gw d ρ fun ρ' => wb { nx := forE gw wb e ds k, rt := k.rt, bk := k.nx, ct := forE gw wb e ds k } ρ' g
@[simp] def wForE (wi : IW M) (gw : GW) (wb wo : SW M) : SW M := fun k ρ g => wi ρ g fun ds g' => forE gw wb (wo k) ds k ρ g'
theorem ds_forE {tg iter : Expr} {body orelse : List Stmt} {is : List Nat} {wi : IW M} {gw : GW} {wb wo : SW M} (hp : PassesOwn (model C.X.prog C.X.w) C.X.A C.X.env C.X.xe) (hc : C.X.calm = true) (hi : DI C tg iter wi) (hg : DG C is tg gw) (hb : DSs C body wb) (ho : DSs C orelse wo)
    (hs : ∀ x, foldedSetIterable iter C.X.env x = pure x := by intro _; rfl) : DS C (.For tg iter body orelse pos) (wForE wi gw wb wo) := ⟨fun σ ρ W k E S l h => by
  refine tsOf_of (ps_forE hp hc pi_tOf pg_tOf pss_tOf pss_tOf hs) (hi.run σ ρ W _ _ S (fun J ds W1 g1 k1 wk q1 => ?_) h)
  refine ⟨fun i m σ H => ∃ (ρ : DEnv) (W2 : Wd M), W2.H = H ∧ Sat C σ ρ W2 ∧ Gs W1 W2 ∧ m = ds.length - i ∧ forE gw wb (wo k) (ds.drop i) k ρ W2.g, ⟨ds.length, ρ, W1, rfl, S.step g1 k1, Gs.refl _, rfl, q1⟩, ?_⟩
  rintro i m σ2 H2 ⟨ρ2, W2, rfl, S2, g2, rfl, q2⟩
  have up : ∀ W3, Gs W1 W3 → Gs W W3 := fun W3 g => g1.s.trans g
  cases hd : ds[i]? with
  | none =>
    have e : ds.drop i = [] := List.drop_eq_nil_of_le (List.getElem?_eq_none_iff.mp hd)
    rw [e] at q2
    refine .inl ⟨wk.stop i W2 g2 S2.ok hd, ho.run σ2 ρ2 W2 k E S2 ⟨fun σ' ρ' W' g S' q => l.nx σ' ρ' W' ((g1.s.trans g2).trans g) S' q, l.rt, fun σ' ρ' W' g S' q => l.bk σ' ρ' W' ((g1.s.trans g2).trans g) S' q, fun σ' ρ' W' g S' q => l.ct σ' ρ' W' ((g1.s.trans g2).trans g) S' q⟩ q2⟩
  | some d =>
    obtain ⟨hlt, hd'⟩ := List.getElem?_eq_some_iff.mp hd
    have e : ds.drop i = d :: ds.drop (i + 1) := by rw [List.drop_eq_getElem_cons hlt, hd']
    rw [e] at q2
    obtain ⟨go, yld⟩ := wk.go i W2 d g2 S2.ok hd
    refine .inr ⟨go, fun σ H => ∃ (ρ : DEnv) (W3 : Wd M), W3.H = H ∧ Sat C σ ρ W3 ∧ Gs W1 W3 ∧ forE gw wb (wo k) (ds.drop (i + 1)) k ρ W3.g, ?_, fun x H' y => ?_⟩
    · rintro σ' H' ⟨ρ3, W3, e3, S3, g3, q3⟩
      exact ⟨ds.length - (i + 1), by omega, ρ3, W3, e3, S3, g3, rfl, q3⟩
    · obtain ⟨W3, rfl, g3, k3, e3, r3⟩ := yld x H' y
      rw [← e3] at q2
      refine hg.run σ2 ρ2 W3 x d _ _ (S2.step g3 k3) r3 (fun σ4 ρ4 S4 _ _ q4 => ?_) q2
      have g13 : Gs W1 W3 := g2.trans g3.s
      have nx : ∀ σ' ρ' W', Gs W3 W' → Sat C σ' ρ' W' → forE gw wb (wo k) (ds.drop (i + 1)) k ρ' W'.g → ∃ (ρ : DEnv) (W4 : Wd M), W4.H = W'.H ∧ Sat C σ' ρ W4 ∧ Gs W1 W4 ∧ forE gw wb (wo k) (ds.drop (i + 1)) k ρ W4.g :=
        fun σ' ρ' W' g S' q => ⟨ρ', W', rfl, S', g13.trans g, q⟩
      exact hb.run σ4 ρ4 W3 { nx := forE gw wb (wo k) (ds.drop (i + 1)) k, rt := k.rt, bk := k.nx, ct := forE gw wb (wo k) (ds.drop (i + 1)) k } _ S4 ⟨nx, l.rt, fun σ' ρ' W' g S' q => l.nx σ' ρ' W' ((g1.s.trans g13).trans g) S' q, nx⟩ q4⟩
theorem forE_word {gw : GW} {wb : SW M} {e : DEnv → M.G → Prop} {k : K3 M} (I : Nat → DEnv → M.G → Prop) (ds : List D) {ρ : DEnv} {g : M.G} (h0 : I 0 ρ g) (hs : ∀ (i : Nat) d ρ g (K : DEnv → M.G → Prop), ds[i]? = some d → I i ρ g → (∀ ρ g, I (i + 1) ρ g → K ρ g) → gw d ρ fun ρ' => wb { nx := K, rt := k.rt, bk := k.nx, ct := K } ρ' g)
    (he : ∀ ρ g, I ds.length ρ g → e ρ g) : forE gw wb e ds k ρ g := by
  have key : ∀ (n i : Nat) (ρ : DEnv) (g : M.G), n = ds.length - i → i ≤ ds.length → I i ρ g → forE gw wb e (ds.drop i) k ρ g := by
    intro n
    induction n with
    | zero =>
      intro i ρ g h hle hI
      have : i = ds.length := by omega
      subst this
      rw [List.drop_length]
      exact he ρ g hI
    | succ n ih =>
      intro i ρ g h hle hI
      have hlt : i < ds.length := by omega
      rw [List.drop_eq_getElem_cons hlt]
      exact hs i _ ρ g _ (List.getElem?_eq_getElem hlt) hI fun ρ' g' hI' => ih (i + 1) ρ' g' (by omega) (by omega) hI'
  have := key ds.length 0 ρ g (by omega) (Nat.zero_le _) h0
  rwa [List.drop_zero] at this
end
end DL
set_option Elab.async false
set_option linter.all false
set_option maxRecDepth 100000
set_option maxHeartbeats 4000000
namespace L2
open PySem PySem.Spec PyProof.Rows
theorem tuple_mul1 (l : Addr) (items : Array Value) (n : Nat) (dd : Option Addr) (sl : Array (Option Value)) (u : Tok) :
    Meets (Builtin.«tuple.__mul__» ⟨[.ref l, .int 1 u], []⟩) (fun _ R s => s.heap.get? l = some { cls := .type "tuple", dict := dd, data := .seq items n, slots := sl } ∧ R (.ok (.ret (Value.ref l))) s) :=
  .of_wp fun prog w A R s h => by
    obtain ⟨hp, g, d, tk, os⟩ := s
    obtain ⟨hl, h⟩ := h
    have f1 := AutoSeq1.idx_int
    have c1 : (items.isEmpty || (1 : Int) == 1) = true := by simp
    wp_walk using wpAny_loadPart' hl
    exact ⟨_, rfl, h⟩
theorem tuple_mul0 (l : Addr) (items : Array Value) (n : Nat) (dd : Option Addr) (sl : Array (Option Value)) (u : Tok) (c1 : items.isEmpty = false) :
    Meets (Builtin.«tuple.__mul__» ⟨[.ref l, .int 0 u], []⟩) (fun _ R s => s.heap.get? l = some { cls := .type "tuple", dict := dd, data := .seq items n, slots := sl } ∧
      R (.ok (.ret (Value.ref s.heap.objs.size))) { s with heap := s.heap.push { cls := Value.type "tuple", data := Data.seq #[] }, toks := s.toks }) :=
  .of_wp fun prog w A R s h => by
    obtain ⟨hp, g, d, tk, os⟩ := s
    obtain ⟨hl, h⟩ := h
    have f1 := AutoSeq1.idx_int
    have c1' : ¬ (items.isEmpty || (0 : Int) == 1) = true := by rw [c1]; decide
    wp_walk using wpAny_loadPart' hl
    repeat (first
      | (refine wpAny_ite_false (decide_eq_false c1') ?_; wp_walk using wpAny_loadPart' hl))
    exact ⟨_, rfl, h⟩
def rMulT (K : PySem.W.Frag) : R2 := fun x y H Q => ∃ l k xs, x = .ref l ∧ y = .int k ∧ SqT K H l xs ∧ xs ≠ [] ∧ 0 ≤ k ∧ k ≤ 1000 ∧ xs.length ≤ 1000 ∧ (k = 1 → Q (.ref l) H) ∧ (k ≠ 1 → ∀ p, H p = none → Q (.ref p) (upd H p (.tup (List.replicate k.toNat xs).flatten)))
section
variable {X : Cx}
theorem op_mulT : OpR X (binaryOp .Mult) (rMulT X.K) := by
  intro pins s σ H x y v u Q I rx ry h
  obtain ⟨l, k, xs, rfl, rfl, hT, hne, h1, h2, hz, q1, q2⟩ := h
  by_cases c : 2 ≤ k
  · exact op_repT pins s σ H _ _ v u Q I rx ry ⟨l, k, xs, rfl, rfl, hT, hne, c, h2, hz, q2 (by omega)⟩
  · cases rx
    obtain ⟨t, rfl⟩ := ry
    obtain ⟨its, r, ⟨⟨cls, dd, data, sl⟩, ho, hc, n, hd⟩, hs⟩ := I.tuple hT
    simp only at hc hd
    subst hc hd
    have hle : its.length = xs.length := r.length.symm
    have hn : its ≠ [] := fun e => hne (by
      rw [e] at hle
      exact List.eq_nil_of_length_eq_zero hle.symm)
    have hi : its.toArray.isEmpty = false := by
      cases its with
      | nil => exact absurd rfl hn
      | cons a b => rfl
    by_cases c1 : k = 1
    · subst c1
      refine wpAny_binaryOp_repeat_ref (T := "tuple") (U := "int") (by decide) ⟨_, ho, rfl⟩ (fun s' => typeIs_int s' 1 t) noFill_tuple_mul F.fills_int_mul F.slot_int_rmul repeat_tuple F.slot_int_index.lookup
        (call_meets F.slot_int_rmul (typeIs_int s 1 t) F.entry_int_rmul (F.args_int_rmul_2 _ _) (int_rmul_tuple 1 t l its.toArray n dd sl)
          ⟨ho, rfl, ⟨_, ho, rfl⟩, call_meets F.slot_tuple_mul ⟨_, ho, rfl⟩ F.entry_tuple_mul (F.args_tuple_mul_2 _ _) (tuple_mul1 l its.toArray n dd sl t) ⟨ho, ?_⟩⟩)
      exact ⟨.ref l, H, I.tok _, rfl, q1 rfl⟩
    · have c0 : k = 0 := by omega
      subst c0
      refine wpAny_binaryOp_repeat_ref (T := "tuple") (U := "int") (by decide) ⟨_, ho, rfl⟩ (fun s' => typeIs_int s' 0 t) noFill_tuple_mul F.fills_int_mul F.slot_int_rmul repeat_tuple F.slot_int_index.lookup
        (call_meets F.slot_int_rmul (typeIs_int s 0 t) F.entry_int_rmul (F.args_int_rmul_2 _ _) (int_rmul_tuple 0 t l its.toArray n dd sl)
          ⟨ho, rfl, ⟨_, ho, rfl⟩, call_meets F.slot_tuple_mul ⟨_, ho, rfl⟩ F.entry_tuple_mul (F.args_tuple_mul_2 _ _) (tuple_mul0 l its.toArray n dd sl t hi) ⟨ho, ?_⟩⟩)
      refine ⟨.ref s.heap.objs.size, _, I.laid (t' := s.toks) (o := .tup []) (fun b ob q => Heap.get?_push_of_some _ q) (Nat.le_refl _) ?_, rfl, q2 c1 _ (I.hok.fresh (Nat.le_refl _))⟩
      exact ⟨Nat.zero_le _, [], .nil, IsTup.new _ _⟩
end
end L2
namespace DL
open PySem L2
section
variable {M : Ghost} {C : Ct M}
def oMulT : D → D → (D → Prop) → Prop
  | .tup x, .int j, q => x ≠ [] ∧ 0 ≤ j ∧ j ≤ 1000 ∧ x.length ≤ 1000 ∧ q (.tup (List.replicate j.toNat x).flatten)
  | _, _, _ => False
theorem opd_mulT : OpD C (binaryOp .Mult) oMulT := by
  refine ⟨_, op_mulT, fun W x y d e Q q k r1 r2 hQ h => ?_⟩
  cases d with
  | tup a =>
    cases e with
    | int j =>
      obtain ⟨h1, h2, h3, h4, h⟩ := h
      obtain ⟨p, vs, rfl, hs, ra⟩ := r1.tup_inv
      have hl := ra.length
      refine ⟨p, j, vs, rfl, r2.int_inv, same_tup k.sub hs, fun e => h1 (List.eq_nil_of_length_eq_zero (by rw [← hl, e]; rfl)), h2, h3, by omega, fun e => ?_, fun _ l hl => ?_⟩
      · subst e
        have : (List.replicate (1 : Int).toNat a).flatten = a := by simp
        rw [this] at h
        exact hQ _ _ W (Go.refl W) k rfl (.tup hs ra) h
      · exact hQ _ _ (W.lay l (.tup _)) (Go.lay k hl) (k.lay hl) rfl (.tup (.of upd_same) ((ra.flat _).mono (same_new (k.noF hl)) fun _ _ z => z)) h
    | _ => exact h.elim
  | _ => exact h.elim
@[simp] theorem sm_mulT {ds : List D} {j : Int} {q : D → Prop} : (oMulT (.tup ds) (.int j) q) = (ds ≠ [] ∧ 0 ≤ j ∧ j ≤ 1000 ∧ ds.length ≤ 1000 ∧ q (.tup (List.replicate j.toNat ds).flatten)) := rfl
end
end DL
set_option Elab.async false
set_option linter.all false
set_option maxRecDepth 100000
set_option maxHeartbeats 1000000
namespace DL
open PySem L2
section
variable {M : Ghost} {C : Ct M} {W W1 W2 W' : Wd M} {σ : L2.St} {ρ : DEnv} {e e1 e2 : Expr} {we w1 w2 wi : EW M} {pos p1 p2 s1 s2 apos cpos : Pos}
@[simp] def wSwp (i : Nat) (we w1 w2 : EW M) : SW M := fun k ρ g => ∃ ds, ρ[i]? = some (.own ds) ∧ we ρ g fun d g1 => ∃ a b, d = .tup [a, b] ∧ w1 ρ g1 fun x g2 => asI x fun j => ∃ m, ixN ds.length j = some m ∧
  w2 (ρ.set i (.own (ds.set m a))) g2 fun y g3 => asI y fun l => ∃ n, ixN ds.length l = some n ∧ k.nx (ρ.set i (.own ((ds.set m a).set n b))) g3
/-- x[e1], x[e2] = e, x a list of one's own -/
theorem ds_swp {i kt : Nat} {x : Str} {tpos : Pos} (hc : C.X.calm = true) (hv1 : PE C.X (.Name x p1) (tVar i)) (hv2 : PE C.X (.Name x p2) (tVar i)) (he : DE C e we) (hi1 : DE C e1 w1) (hi2 : DE C e2 w2)
    (ha1 : ∀ v, assign (.Subscript (.Name x p1) e1 s1) C.X.env v = (do
      let ov ← holding [v] (eval (.Name x p1) C.X.env)
      let iv ← holding [v, ov] (eval e1 C.X.env)
      standAt s1
      holding [v, ov, iv] (setItem ov iv v)
      release [v, ov, iv] []) := by intro _; rfl)
    (ha2 : ∀ v, assign (.Subscript (.Name x p2) e2 s2) C.X.env v = (do
      let ov ← holding [v] (eval (.Name x p2) C.X.env)
      let iv ← holding [v, ov] (eval e2 C.X.env)
      standAt s2
      holding [v, ov, iv] (setItem ov iv v)
      release [v, ov, iv] []) := by intro _; rfl)
    (hs : swapsWithSole [.Tuple [.Subscript (.Name x p1) e1 s1, .Subscript (.Name x p2) e2 s2] kt tpos] e pos.line C.X.env = pure false := by rfl) (hw : swappedStores [.Tuple [.Subscript (.Name x p1) e1 s1, .Subscript (.Name x p2) e2 s2] kt tpos] e C.X.env = pure none := by rfl)
    (h1 : (assignEach [.Tuple [.Subscript (.Name x p1) e1 s1, .Subscript (.Name x p2) e2 s2] kt tpos] C.X.env).map (·.2) = [assign (.Tuple [.Subscript (.Name x p1) e1 s1, .Subscript (.Name x p2) e2 s2] kt tpos) C.X.env] := by rfl) :
    DS C (.Assign [.Tuple [.Subscript (.Name x p1) e1 s1, .Subscript (.Name x p2) e2 s2] kt tpos] e pos) (wSwp i we w1 w2) := ⟨fun σ ρ W k E S l h => by
  obtain ⟨ds, e0, h⟩ := h
  obtain ⟨o, h1', p, vs, h2, h3, h4, h5, h6, r⟩ := S.sl i _ e0
  subst h2
  refine tsOf_of (ps_asg pe_tOf (pg_tup (n := 2) hc (pgs_cons (pg_sub hv1 pe_tOf set_list ha1) (pgs_cons (pg_sub hv2 pe_tOf set_list ha2) pgs_nil))) hs hw h1) ?_
  refine he.run σ ρ W _ _ S (fun v d W1 g1 k1 r1 q1 => ?_) h
  obtain ⟨da, db, rfl, q1⟩ := q1
  cases r1 with
  | tup ht ra =>
    rename_i at_ us
    cases ra with
    | cons ra rb =>
      cases rb with
      | cons rb rc =>
        cases rc
        rename_i va vb
        refine ⟨_, _, rfl, same_tup k1.sub ht, rfl, va, [vb], rfl, .ref p, h1', ?_⟩
        refine hi1.run σ ρ W1 _ _ (S.step g1 k1) (fun u x W2 g2 k2 r2 q2 => ?_) q1
        cases x with
        | int j =>
          obtain ⟨m, hm, q2⟩ := q2
          have S2 := S.step (g1.trans g2) k2
          obtain ⟨o2, a1, p2', vs2, a2, a3, a4, a5, a6, r3⟩ := S2.sl i _ e0
          subst a2
          rw [h1'] at a1
          cases a1
          obtain ⟨S3, g3⟩ := S2.write e0 h1' (r3.set (ra.step g2) m)
          refine ⟨p, vs2, j, m, rfl, by cases r2; rfl, a3, by rw [r3.length]; exact hm, vb, [], rfl, .ref p, h1', ?_⟩
          refine hi2.run σ _ _ _ _ S3 (fun u y W4 g4 k4 r4 q4 => ?_) q2
          cases y with
          | int l' =>
            obtain ⟨n, hn, q4⟩ := q4
            have S4 := S3.step g4 k4
            have e4 : (ρ.set i (.own (ds.set m da)))[i]? = some (.own (ds.set m da)) := List.getElem?_set_self (List.getElem?_eq_some_iff.mp e0).1
            obtain ⟨o5, b1, p5, vs5, b2, b3, b4, b5, b6, r5⟩ := S4.sl i _ e4
            subst b2
            rw [h1'] at b1
            cases b1
            obtain ⟨S5, g5⟩ := S4.write e4 h1' (r5.set (((rb.step g2).gs g3).step g4) n)
            rw [List.set_set] at S5
            refine ⟨p, vs5, l', n, rfl, by cases r4; rfl, b3, by rw [r5.length, List.length_set]; exact hn, rfl, l.nx _ _ _ ((((g1.trans g2).s.trans g3).trans g4.s).trans g5) S5 q4⟩
          | _ => exact q4.elim
        | _ => exact q2.elim⟩
@[simp] def wIns (i : Nat) (wi we : EW M) : SW M := fun k ρ g => ∃ ds, ρ[i]? = some (.own ds) ∧ wi ρ g fun x g1 => asI x fun j => we ρ g1 fun d g2 => ds.length < sizeLine ∧ 0 ≤ j ∧ j < 2 ^ 63 ∧ k.nx (ρ.set i (.own (ds.take j.toNat ++ [d] ++ ds.drop j.toNat))) g2
/-- x.insert(e1, e), x a list of one's own -/
theorem ds_insert {i : Nat} {x : Str} (hv : PE C.X (.Name x p1) (tVar i)) (hi : DE C e1 wi) (he : DE C e we) (hline : (apos.endLine == cpos.line) = true := by rfl)
    (hs : swapsWith (.Call (.Attribute (.Name x p1) "insert" apos) [e1, e] [] cpos) none pos.line C.X.env = pure false := by rfl)
    (hst : starEach [e1, e] C.X.env = (false, eval e1 C.X.env) :: starEach [e] C.X.env := by rfl) (hst2 : starEach [e] C.X.env = (false, eval e C.X.env) :: starEach [] C.X.env := by rfl) (hbase : attributeBase (.Name x p1) "insert" C.X.env (eval (.Name x p1) C.X.env) = eval (.Name x p1) C.X.env := by rfl)
    (hpl : (backTo cpos (starEach [e] C.X.env)).any (·.1) = false := by rfl)
    (hfew : ((backTo cpos (starEach [e1, e] C.X.env)).all (fun x => !x.1) && (backToKw cpos (keywordEach [] C.X.env)).all (fun x => x.1.isSome) && decide ([e1, e].length + ([] : List Keyword).length + (if ([] : List Keyword).isEmpty then 0 else 1) < 30)) = true := by rfl) :
    DS C (.Expr (.Call (.Attribute (.Name x p1) "insert" apos) [e1, e] [] cpos) pos) (wIns i wi we) := ⟨fun σ ρ W k E S l h => by
  obtain ⟨ds, e0, h⟩ := h
  obtain ⟨o, h1, p, vs, h2, h3, h4, h5, h6, r⟩ := S.sl i _ e0
  subst h2
  refine tsOf_of (ps_expr (pe_bm PySem.F.plainAttrs_list PySem.F.slot_list_insert PySem.F.type_list_insert mt_insert hv (pa_cons pe_tOf (pa_cons pe_tOf pa_nil hst2) hst) hbase hfew hline hst hpl) hs) ⟨.ref p, h1, .inl ⟨rfl, vs, .of h3⟩, ?_⟩
  refine hi.run σ ρ W _ _ S (fun u x W1 g1 k1 r1 q1 => ?_) h
  cases x with
  | int j =>
    refine he.run σ ρ W1 _ _ (S.step g1 k1) (fun v d W2 g2 k2 r2 q2 => ?_) q1
    obtain ⟨z1, z2, z3, q2⟩ := q2
    have S2 := S.step (g1.trans g2) k2
    obtain ⟨o2, a1, p2', vs2, a2, a3, a4, a5, a6, r3⟩ := S2.sl i _ e0
    subst a2
    rw [h1] at a1
    cases a1
    obtain ⟨S3, g3⟩ := S2.write e0 h1 (((r3.take j.toNat).append (.cons r2 .nil)).append (r3.drop j.toNat))
    exact ⟨p, vs2, j, v, rfl, by cases r1; rfl, a3, by rw [r3.length]; exact z1, z2, z3, l.nx _ _ _ ((g1.trans g2).s.trans g3) S3 q2⟩
  | _ => exact q1.elim⟩
end
end DL
set_option Elab.async false
set_option linter.all false
set_option maxRecDepth 100000
set_option maxHeartbeats 3200000
namespace DL
open PySem L2
def kyE (e : Int × Value) : Key := match e.2 with
  | .int i _ => .inl i
  | .str x _ => .inr x
  | _ => .inl 0
theorem kyE_is {k : Key} {e : Int × Value} (h : keyIs k e.2 = true) : kyE e = k := by
  obtain ⟨z, v⟩ := e
  rcases keyIs_shape h with ⟨i, u, rfl, rfl⟩ | ⟨x, u, rfl, rfl⟩ <;> rfl
/-- the set at an address, of these members -/
structure MSet (P : Program) (w : World) (h : Heap) (a : Addr) (o : Obj) (es : Array (Int × Value)) (ep : Nat) (tb : SetTable) (L : List Key) : Prop where
  at_ : h.get? a = some o
  ex : o.ExactSet
  dat : o.data = .set es ep tb
  el : ElemsOf (mixKind P w) es.toList
  ks : (es.toList.map kyE).Perm L
  nd : L.Nodup
  few : es.size < scanBound
  fit : tb.fits es.size = true
  ris : Ris tb.place.toList
  led : w.params.followText "set-order" = true ∨ tb.led = true
def IsM (P : Program) (w : World) (h : Heap) (a : Addr) (L : List Key) : Prop := ∃ o es ep tb, MSet P w h a o es ep tb L
section
variable {P : Program} {w : World} {A : Around} {E : Value → Shared → Prop} {s : Shared} {a : Addr} {L : List Key} {k : Key} {v : Value}
theorem MSet.size {h : Heap} {o : Obj} {es : Array (Int × Value)} {ep : Nat} {tb : SetTable} (M : MSet P w h a o es ep tb L) : es.size = L.length := by
  have := M.ks.length_eq
  rw [List.length_map, Array.length_toList] at this
  exact this
theorem MSet.mem {h : Heap} {o : Obj} {es : Array (Int × Value)} {ep : Nat} {tb : SetTable} (M : MSet P w h a o es ep tb L) (j : Key) : j ∈ L ↔ ∃ e ∈ es.toList, keyIs j e.2 = true := by
  rw [← M.ks.mem_iff, List.mem_map]
  constructor
  · rintro ⟨e, he, rfl⟩
    obtain ⟨⟨j, hj, _⟩, _⟩ := M.el e he
    exact ⟨e, he, by rw [kyE_is hj]; exact hj⟩
  · rintro ⟨e, he, hj⟩
    exact ⟨e, he, kyE_is hj⟩
theorem IsM.keep {h h' : Heap} (R : IsM P w h a L) (k : ∀ o, h.get? a = some o → h'.get? a = some o) : IsM P w h' a L := by
  obtain ⟨o, es, ep, tb, M⟩ := R
  exact ⟨o, es, ep, tb, k o M.at_, M.ex, M.dat, M.el, M.ks, M.nd, M.few, M.fit, M.ris, M.led⟩
theorem IsM.fresh (h : Heap) : IsM P w (h.push { cls := .type "set", dict := none, data := .set #[] 0 (.fresh 0 0 (!w.params.followText "set-order")) }) h.objs.size [] := by
  refine ⟨_, #[], 0, _, Heap.get?_push_size _ rfl, ⟨rfl, rfl, rfl⟩, rfl, fun e he => by simp at he, by simp, List.nodup_nil, by decide, by rfl, List.Pairwise.nil, ?_⟩
  cases z : w.params.followText "set-order"
  · exact .inr rfl
  · exact .inl rfl
/-- what stands behind a new member -/
theorem m_tail {gv : Bool → Sem Unit} (hgv : ∀ (b : Bool) (u : Shared) (Q : Unit → Shared → Prop), Q () u → wpAny (model P w) A (gv b) Q E u) {o : Obj} {es fs : Array (Int × Value)} {ep : Nat} {tb tc : SetTable}
    (h1 : s.heap.get? a = some o) (h2 : o.ExactSet) (h3 : o.data = .set es ep tb) (el : ElemsOf (mixKind P w) fs.toList) (ks : (fs.toList.map kyE).Perm L) (nd : L.Nodup) (few : fs.size < scanBound)
    (fit : tc.fits fs.size = true) (ris : Ris tc.place.toList) (led : w.params.followText "set-order" = true ∨ tc.led = true) {was : Bool} {R : Option Bool → Shared → Prop}
    (hR : ∀ g, Heap.SameBut a s.heap g → IsM P w g a L → R (some true) { s with heap := g }) :
    wpAny (model P w) A (do
      storeSet a fs tc
      if (!was && tc.tooFull) = true then do
          gv (relayAll tc fs (SetTable.grown fs.size)).2.2
          storeSet a (relayAll tc fs (SetTable.grown fs.size)).1 (relayAll tc fs (SetTable.grown fs.size)).2.1
          pure (some true)
        else pure (some true)) R E s := by
  apply wpAny_bind
  apply wpAny_storeSet_of h1 h3 (hz := fits_of_scanBound few)
  have p1 := store_at (es' := fs) (t' := tc) h1 h3
  have q1 := Heap.SameBut.update s.heap a (Obj.putSet fs tc)
  split
  · have r1 := relayAll_perm tc fs (SetTable.grown fs.size)
    have r2 := relayAll_fits tc fs (SetTable.grown fs.size)
    have r3 := relayAll_ris tc fs (SetTable.grown fs.size)
    have r4 := relayAll_led tc fs (SetTable.grown fs.size)
    generalize relayAll tc fs (SetTable.grown fs.size) = Y at r1 r2 r3 r4 ⊢
    obtain ⟨gs, td, gave⟩ := Y
    dsimp only at r1 r2 r3 r4 ⊢
    have few2 : gs.size < scanBound := by
      have := r1.length_eq
      rw [Array.length_toList, Array.length_toList] at this
      omega
    apply wpAny_bind
    apply hgv
    apply wpAny_bind
    apply wpAny_storeSet_of p1 rfl (hz := fits_of_scanBound few2)
    have p2 := store_at (es' := gs) (t' := td) p1 rfl
    exact wpAny_pure (hR _ (q1.trans (Heap.SameBut.update _ a _)) ⟨_, gs, _, td, p2, h2, rfl, el.perm r1, (r1.map kyE).trans ks, nd, few2, r2, r3, led.imp id fun z => by rw [r4]; exact z⟩)
  · exact wpAny_pure (hR _ q1 ⟨_, fs, _, tc, p1, h2, rfl, el, ks, nd, few, fit, ris, led⟩)
/-- one more member -/
theorem IsM.add {Q : Bool → Shared → Prop} (R : IsM P w s.heap a L) (hk : keyIs k v = true) (hs : v.scannable = true) (room : L.length + 1 < scanBound)
    (hQ : ∀ g b L', Heap.SameBut a s.heap g → IsM P w g a L' → (∀ j, j ∈ L' ↔ j ∈ L ∨ j = k) → L'.length ≤ L.length + 1 → Q b { s with heap := g }) :
    wpAny (model P w) A (setAddHashed a v ((mixKind P w).hash k)) Q E s := by
  obtain ⟨o, es, ep, tb, M⟩ := R
  have sz := M.size
  have hk' : (mixKind P w).is k v = true := hk
  unfold setAddHashed setAddHashedIn
  apply wpAny_holding
  apply wpAny_bind
  apply wpAny_setState_of M.at_ M.dat M.fit
  simp only [byScan_of hs M.few M.el, ↓reduceIte]
  unfold setAddByScan
  apply wpAny_bind
  apply wpAny_bind
  apply wpAny_rule
  apply wpAny_bind
  apply wpAny_setScan_of hk' M.at_ M.dat M.fit M.el
  cases fi : List.findIdx? (fun e => (mixKind P w).is k e.2) es.toList with
  | some j =>
    obtain ⟨j1, j2, _⟩ := List.findIdx?_eq_some_iff_getElem.mp fi
    have inL : k ∈ L := (M.mem k).mpr ⟨_, List.getElem_mem j1, j2⟩
    exact wpAny_pure (wpAny_pure (hQ s.heap false L (Heap.SameBut.refl a _) ⟨o, es, ep, tb, M⟩ (fun j => ⟨.inl, fun z => z.elim id fun e => e ▸ inL⟩) (Nat.le_succ _)))
  | none =>
    have notL : k ∉ L := fun z => by
      obtain ⟨e, he, q⟩ := (M.mem k).mp z
      have := List.findIdx?_eq_none_iff.mp fi e he
      rw [show (mixKind P w).is k e.2 = true from q] at this
      cases this
    dsimp only
    have gw : ∀ (b : Bool) (u : Shared) (Q' : Unit → Shared → Prop), Q' () u → wpAny (model P w) A (match b with | true => rule "set.scan.the-table-gave-way" | false => pure ()) Q' E u := fun b u Q' q => by
      cases b
      · exact wpAny_pure q
      · exact wpAny_rule q
    have l1 := layNew_perm tb es ((mixKind P w).hash k) v
    have l2 := layNew_fits tb es ((mixKind P w).hash k) v
    have l3 := layNew_ris tb es ((mixKind P w).hash k) v M.ris
    have l4 := layNew_led tb es ((mixKind P w).hash k) v
    generalize layNew tb es ((mixKind P w).hash k) v = Y at l1 l2 l3 l4 ⊢
    obtain ⟨fs, tc, was, gave⟩ := Y
    dsimp only at l1 l2 l3 l4 ⊢
    rw [Array.toList_push] at l1
    have el : ElemsOf (mixKind P w) fs.toList := (M.el.push hk' hs).perm l1
    have ks : (fs.toList.map kyE).Perm (k :: L) := by
      have z := l1.map kyE
      rw [List.map_append] at z
      refine z.trans ((List.perm_append_singleton _ _).trans ?_)
      rw [show kyE ((mixKind P w).hash k, v) = k from kyE_is hk]
      exact M.ks.cons k
    have nd : (k :: L).Nodup := List.nodup_cons.mpr ⟨notL, M.nd⟩
    have few : fs.size < scanBound := by
      have := l1.length_eq
      rw [List.length_append, Array.length_toList, Array.length_toList] at this
      simp at this
      omega
    have led : w.params.followText "set-order" = true ∨ tc.led = true := M.led.imp id fun z => by rw [l4]; exact z
    have fin : ∀ g, Heap.SameBut a s.heap g → IsM P w g a (k :: L) → Q true { s with heap := g } := fun g sb r =>
      hQ g true (k :: L) sb r (fun j => by rw [List.mem_cons]; exact Or.comm) (by simp)
    apply wpAny_bind
    refine gw _ _ _ ?_
    split
    · apply wpAny_bind
      rw [hashByValue_scannable 8 hs]
      apply wpAny_pure
      refine m_tail gw M.at_ M.ex M.dat el ks nd few ?_ ?_ ?_ fun g sb r => wpAny_pure (fin g sb r)
      · split
        · exact l2
        · exact SetTable.fits_plain_off l2
      · split <;> exact l3
      · split <;> exact led
    · apply wpAny_bind
      apply wpAny_pure
      simp only [↓reduceIte]
      exact m_tail gw M.at_ M.ex M.dat el ks nd few l2 l3 led fun g sb r => wpAny_pure (fin g sb r)
/-- members one by one -/
theorem m_update {I S : Addr} {fp wr : List Addr} {G : Array GenState → Array GenState → Prop} {n : Nat} {Pv : Nat → Value → Prop} {St : Nat → Shared → Prop} {R : Result → Shared → Prop}
    (Wk : WalksS P w A.in1 I fp wr G n Pv St) (away : S ∉ fp) {ks : List Key} (hn : n = ks.length) (hb : ks.length + 1 < scanBound) (hv : ∀ i v, Pv i v → ∃ k, ks[i]? = some k ∧ keyIs k v = true ∧ v.scannable = true) :
    ∀ (m i : Nat) (s : Shared), n - i = m → i ≤ n → St i s → (∃ L, IsM P w s.heap S L ∧ (∀ j, j ∈ L ↔ j ∈ ks.take i) ∧ L.length ≤ i) →
      (∀ s' L, Moved (S :: wr) G s s' → IsM P w s'.heap S L → (∀ j, j ∈ L ↔ j ∈ ks) → R (.ok (.ret .none)) s') → codeAny (model P w) A (.builtin "set.update.loop" ⟨[.ref S, .ref I], []⟩) R s := by
  have off : S ∉ wr := fun z => away (Wk.sub _ z)
  intro m
  induction m with
  | zero =>
    intro i s hm hi st ⟨L, hL, hj, _⟩ hR
    obtain rfl : i = n := by omega
    apply codeAny_builtin PyProof.Rows.F.entry_set_update_loop
    rw [Around.under_plainId PyProof.Rows.F.plain_set_update_loop _]
    show wpAny _ A.in1 (pyNext (.ref I) >>= _) _ _ s
    apply wpAny_bind
    refine Wk.done s _ _ st fun s' mv => ?_
    rw [show ks.take i = ks from List.take_of_length_le (by omega)] at hj
    exact wpAny_pure (hR s' L (mv.mono fun b hb => List.mem_cons_of_mem _ hb) (hL.keep fun o e => mv.heap S o off e) hj)
  | succ m ih =>
    intro i s hm hi st ⟨L, hL, hj, hl⟩ hR
    have hlt : i < n := by omega
    apply codeAny_builtin PyProof.Rows.F.entry_set_update_loop
    rw [Around.under_plainId PyProof.Rows.F.plain_set_update_loop _]
    show wpAny _ A.in1 (pyNext (.ref I) >>= _) _ _ s
    apply wpAny_bind
    refine Wk.item i s _ _ hlt st fun v s' pv st' mv => ?_
    obtain ⟨k, hk1, hk2, hk3⟩ := hv i v pv
    show wpAny _ A.in1 (holding [v] (setAdd S v) >>= _) _ _ s'
    apply wpAny_bind
    apply wpAny_holding
    unfold setAdd
    apply wpAny_holding
    apply wpAny_bind
    refine (mixKind P w).pyHash (k := k) hk2 ?_
    refine IsM.add (s := { s' with toks := s'.toks + 1 }) (hL.keep fun o e => mv.heap S o off e) hk2 hk3 (by omega) fun g b L' sb hL' hj' hl' => ?_
    refine wpAny_pure ⟨plainId_quiet PyProof.Rows.F.plain_set_update_loop _, ih (i + 1) _ (by omega) hlt (Wk.frame _ s' _ _ st' (Nat.le_succ _) fun b hb o e => ?_) ⟨L', hL', fun j => ?_, by omega⟩ fun s'' M mv2 hM hMj => ?_⟩
    · rw [sb.2 b fun z => away (z ▸ hb)]
      exact e
    · rw [hj', hj, List.take_add_one, hk1]
      simp
    · refine hR s'' M (Moved.trans Wk.gtrans ((mv.mono fun b hb => List.mem_cons_of_mem _ hb).then_heap (Nat.le_succ _) fun b o hb e => ?_) mv2) hM hMj
      rw [sb.2 b fun z => hb (z ▸ List.mem_cons_self)]
      exact e
/-- set(xs), xs a list of numbers and texts -/
theorem call_set_list {l : Addr} {items : Array Value} (ks : List Key) {Q : Value → Shared → Prop} (hh : A.handled = none) (hl : s.heap.IsList l items) (hz : items.size = ks.length) (hb : ks.length + 1 < scanBound)
    (hv : ∀ (i : Nat) v, items[i]? = some v → ∃ k, ks[i]? = some k ∧ keyIs k v = true ∧ v.scannable = true)
    (h : ∀ (g : Heap) (tk : Nat) (L : List Key), IsM P w g s.heap.objs.size L → (∀ j, j ∈ L ↔ j ∈ ks) → (∀ b o, s.heap.get? b = some o → g.get? b = some o) → Q (.ref s.heap.objs.size) { s with heap := g, toks := tk }) :
    wpAny (model P w) A (call (.type "set") [.ref l]) Q E s := by
  obtain ⟨c, tl, hmro⟩ := F.called_set.mro
  have hmade := F.called_set.made
  have hsub := F.called_set.sub
  apply wpAny_call
  apply codeAny_of_tree
  show wpAny _ _ (callAny (.type "set") _) _ _ _
  refine wpAny_pure ⟨Code.quiet_builtin _ (by decide +kernel), codeAny_builtin F.entry_type_call ?_⟩
  rw [Around.under_plain (weight_type_call_type "set" [.ref l] []) rfl]
  have h1 := F.called_set.notType
  have h2 := F.called_set.canCreate
  have hct := F.typeCall_set_1 (.ref l)
  repeat (any_goals (first | assumption | wp_step))
  let N : Obj := { cls := .type "set", dict := none, data := .set #[] 0 (.fresh 0 0 (!w.params.followText "set-order")) }
  refine codeAny_mono (code_set_led1 (.ref l) (E := E) (Q₁ := fun obj u => obj = .ref s.heap.objs.size ∧ u = { s with heap := s.heap.push N }) ⟨rfl, rfl⟩) fun r u hr => ?_
  cases r with
  | error e => exact hr
  | ok fl =>
    cases fl with
    | ret obj =>
      obtain ⟨rfl, rfl⟩ := hr
      have hS : (s.heap.push N).get? s.heap.objs.size = some N := Heap.get?_push_size _ rfl
      have hT : Shared.TypeIs { s with heap := s.heap.push N } (.ref s.heap.objs.size) "set" := ⟨_, hS, rfl⟩
      have hli := F.called_set.init.lookup
      have hbi := F.called_set.init.bind (.ref s.heap.objs.size)
      repeat (any_goals (first | assumption | wp_step))
      refine codeAny_mono (codeAny_call_builtin (R := wants (fun r u => r = .none ∧ ∃ g tk L, u = { s with heap := g, toks := tk } ∧ IsM P w g s.heap.objs.size L ∧ (∀ j, j ∈ L ↔ j ∈ ks) ∧ ∀ b o, s.heap.get? b = some o → g.get? b = some o) E)
        F.called_set.init.plain F.entry_set_init (check_set_init_1 hT ?_)) fun r u hr => ?_
      · have hl1 : (s.heap.push N).IsList l items := hl.push _
        have hlS : l < s.heap.objs.size := by
          obtain ⟨o, ho, _⟩ := hl
          exact Heap.lt_size ho
        have hsls := F.sub_list_set
        have hslf := F.sub_list_frozenset
        have hne : (Value.type "list" == Value.type "dict") = false := by decide
        obtain ⟨ol, hol, hcl, nl, hdl⟩ := id hl1
        have hTl : Shared.TypeIs { s with heap := s.heap.push N } (.ref l) "list" := ⟨ol, hol, hcl⟩
        unfold Builtin.«set.__init__» noKeywords Builtin.Frozenset.updateFrom
        generalize hPI : pyIter = PI
        wp_walk
        subst hPI
        have hneI : l ≠ (s.heap.push N).objs.size := by
          rw [Heap.size_push]
          exact Nat.ne_of_lt (Nat.lt_succ_of_lt hlS)
        have away : s.heap.objs.size ∉ [(s.heap.push N).objs.size, l] := by
          rw [Heap.size_push]
          intro z
          rcases List.mem_cons.mp z with z | z
          · exact Nat.ne_of_lt (Nat.lt_succ_self _) z
          · exact Nat.ne_of_gt hlS (List.mem_singleton.mp z)
        have hd : A.in1.in1.in1.handled = none := by simp [hh]
        refine wpAny_pyIter_list hl1 ?_
        apply wpAny_bind
        apply wpAny_runValue
        refine m_update ((Walks.list hd _ l hneI items).toS) away hz hb hv (items.size - 0) 0 _ (by omega) (Nat.zero_le _) ⟨⟨_, Heap.get?_push_size _ rfl, rfl, rfl⟩, hl1.push _⟩
          ⟨[], (IsM.fresh s.heap).keep fun o e => Heap.get?_push_of_some _ e, fun j => by simp, Nat.le_refl 0⟩ fun u L mv hL hj => ?_
        obtain ⟨g, gn, dr, tk, os⟩ := u
        obtain rfl : gn = s.gens := mv.gens
        obtain rfl : dr = s.drawn := mv.drawn
        obtain rfl : os = s.os := mv.os
        show wpAny _ _ _ _ _ _
        apply wpAny_pure
        show wpAny _ _ (ret Value.none) _ _ _
        refine wpAny_pure ⟨rfl, g, tk, L, rfl, hL, hj, fun b o e => ?_⟩
        have hb0 := Heap.lt_size e
        refine mv.heap b o (fun z => ?_) (Heap.get?_push_of_some _ (Heap.get?_push_of_some _ e))
        rw [Heap.size_push] at z
        rcases List.mem_cons.mp z with z | z
        · exact Nat.ne_of_lt hb0 z
        · exact Nat.ne_of_lt (Nat.lt_succ_of_lt hb0) (List.mem_singleton.mp z)
      · cases r with
        | error e => exact hr
        | ok fl =>
          cases fl with
          | ret r =>
            obtain ⟨rfl, g, tk, L, rfl, q1, q2, q3⟩ := hr
            repeat (any_goals (first | assumption | wp_step))
            exact h _ _ _ q1 q2 q3
          | _ => exact hr.elim
    | _ => exact hr.elim
end

def MO (P : Program) (w : World) (a : Addr) (L : List Key) : HO := .ext fun h => IsM P w h a L
theorem mo_ok {P : Program} {w : World} {H : Hp} {h : Heap} {a : Addr} {L : List Key} (R : IsM P w h a L) : ObjOk P w H h a (MO P w a L) := by
  have R' := R
  obtain ⟨o, es, ep, tb, M⟩ := R
  exact ⟨R', ⟨o, M.at_⟩, fun _ _ p k => IsM.keep p k⟩
theorem mo_is {X : Cx} {pins : List (Addr × Obj)} {σ : L2.St} {H : Hp} {s : Shared} {a : Addr} {L : List Key} (I : Inv X pins σ H s) (e : H a = some (MO X.prog X.w a L)) : IsM X.prog X.w s.heap a L := (I.hok a _ e).1
theorem key_val {k : Key} {u : Value} (r : RelV (kV k) u) : keyIs k u = true ∧ u.scannable = true := by
  cases k <;> (obtain ⟨t, rfl⟩ := r; exact ⟨by first | exact keyIs_int _ _ | exact keyIs_str _ _, rfl⟩)
def rSetM (K : PySem.W.Frag) (P : Program) (w : World) : List V → Hp → VK → Prop := fun xs H Q => ∃ (l : Addr) (ks : List Key), xs = [.ref l] ∧ SqL K H l (ks.map kV) ∧ ks.length + 1 < scanBound ∧ ∀ a L, H a = none → L.Nodup → (∀ j, j ∈ L ↔ j ∈ ks) → Q (.ref a) (upd H a (MO P w a L))
section
variable {X : Cx}
theorem cr_setM (hc : X.calm = true) : CallR X (.type "set") (rSetM X.K X.prog X.w) := by
  intro pins s σ H xs us Q I r h
  obtain ⟨l, ks, rfl, hl, hb, q⟩ := h
  rw [Vals.ref1 r]
  obtain ⟨its, rv, pl, _⟩ := I.list hl
  have len := rv.length
  rw [List.length_map] at len
  refine call_set_list (P := X.prog) (w := X.w) ks (I.ok.hd hc) pl.isList (by simp [len]) hb (fun i v e => ?_) fun g tk L R hj kp => ?_
  · have hi : i < ks.length := by
      have := (Array.getElem?_eq_some_iff.mp e).1
      simp at this
      omega
    obtain ⟨u, e2, ru⟩ := rv.get (i := i) (x := kV ks[i]) (by rw [List.getElem?_map, List.getElem?_eq_getElem hi]; rfl)
    have : u = v := by simpa [e2] using e
    subst this
    exact ⟨_, List.getElem?_eq_getElem hi, key_val ru⟩
  · have nd : L.Nodup := by
      obtain ⟨o, es, ep, tb, M⟩ := R
      exact M.nd
    exact ⟨.ref _, upd H s.heap.objs.size (MO X.prog X.w s.heap.objs.size L), I.laid (t' := tk) kp (Nat.le_refl _) (mo_ok R), rfl, q _ L (I.hok.fresh (Nat.le_refl _)) nd hj⟩
def rLenM (P : Program) (w : World) : List V → Hp → VK → Prop := fun xs H Q => ∃ (a : Addr) (L : List Key), xs = [.ref a] ∧ H a = some (MO P w a L) ∧ Q (.int L.length) H
theorem cr_lenM : CallR X (.builtin "len") (rLenM X.prog X.w) := by
  intro pins s σ H xs us Q I r h
  obtain ⟨a, L, rfl, ha, q⟩ := h
  rw [Vals.ref1 r]
  obtain ⟨o, es, ep, tb, M⟩ := mo_is I ha
  have sz := M.size
  have few : es.size < 4096 := M.few
  refine call_len_set M.at_ M.ex M.dat M.fit (by omega) ?_
  rw [← sz] at q
  exact ⟨.int (es.size : Nat), H, I.tok _, ⟨_, rfl⟩, q⟩
theorem le_of_rising : ∀ (xs : List Str) (x : Str), PyProof.Rows.risingS x xs = true → (x :: xs).Pairwise fun a b => ¬ b.cps.toList < a.cps.toList
  | [], x, _ => by simp
  | y :: xs, x, h => by
    have h' : (!PySem.Spec.ltCps y.cps.toList x.cps.toList && PyProof.Rows.risingS y xs) = true := h
    rw [Bool.and_eq_true, Bool.not_eq_true', PyProof.Rows.ltCps_eq, decide_eq_false_iff_not] at h'
    have ih := le_of_rising xs y h'.2
    refine List.pairwise_cons.mpr ⟨fun z hz => ?_, ih⟩
    rcases List.mem_cons.mp hz with rfl | hz
    · exact h'.1
    · have h2 := (List.pairwise_cons.mp ih).1 z hz
      exact fun c => h'.1 (by
        by_cases e : y.cps.toList < z.cps.toList
        · exact List.lt_trans e c
        · rw [List.le_antisymm (List.not_lt.mp e) (List.not_lt.mp h2)] at c
          exact c)
theorem le_of_sortedS {xs : List Str} (h : PyProof.Rows.sortedS xs = true) : xs.Pairwise fun a b => ¬ b.cps.toList < a.cps.toList := by
  cases xs with
  | nil => exact .nil
  | cons x xs => exact le_of_rising xs x h
/-- the members, in order -/
def rSrtM (P : Program) (w : World) : List V → Hp → VK → Prop := fun vs H Q => ∃ (a : Addr) (L : List Key), vs = [.ref a] ∧ H a = some (MO P w a L) ∧
  ((∃ ts : List Str, L = ts.map Sum.inr ∧ ∀ (ys : List Str) (p : Addr), ys.Perm ts → ys.Pairwise (fun a b => ¬ b.cps.toList < a.cps.toList) → H p = none → Q (.ref p) (upd H p (.lst (ys.map V.str)))) ∨
   (∃ ts : List Int, L = ts.map Sum.inl ∧ ∀ (ys : List Int) (p : Addr), ys.Perm ts → ys.Pairwise (· ≤ ·) → H p = none → Q (.ref p) (upd H p (.lst (ys.map V.int)))))
theorem strs_of_keys {ts : List Str} : ∀ {vs : List Value}, (∀ v ∈ vs, ∃ x t, v = Value.str x t) → PyProof.Rows.StrsAre vs (vs.map PyProof.Rows.strOf) := fun h => PyProof.Rows.strsAre_map _ h
theorem cr_srtM (hc : X.calm = true) : CallR X (.builtin "sorted") (rSrtM X.prog X.w) := by
  intro pins s σ H vs us Q I r h
  obtain ⟨a, L, rfl, ha, hq⟩ := h
  rw [Vals.ref1 r]
  obtain ⟨o, es, ep, tb, M⟩ := mo_is I ha
  have sz := M.size
  have few : es.size < 4096 := M.few
  refine Calls.call_function_entry PyProof.Rows.kind_sorted PyProof.Rows.plain_sorted PyProof.Rows.entry_sorted (PyProof.Rows.args_sorted1 _) ?_
  unfold Builtin.«sorted»
  refine wpAny_bind (m := checkCount "sorted" 1 1 _) (wpAny_pure ?_)
  apply wpAny_bind
  refine collect_set (A := X.A.in1) (I.ok.hd hc) ⟨o, M.at_, M.ex.1, M.dat⟩ M.fit M.few M.ris M.led fun u out kp hz hg ho pm => ?_
  have ol : out.length ≤ sizeLine := by
    rw [pm.length_eq, List.length_map, Array.length_toList, sizeLine_eq]
    omega
  apply wpAny_bind
  refine wpAny_newList ?_ ol
  have new : (u.heap.push (PyProof.Rows.seqObj "list" out.toArray 0)).get? u.heap.objs.size = some (PyProof.Rows.seqObj "list" out.toArray 0) := Heap.get?_push_size _ rfl
  -- the list in order stands in the heap
  have fin : ∀ (zs : Array Value) (ws : List V), zs.size = out.length → Vals ws zs.toList → (∀ p, H p = none → Q (.ref p) (upd H p (.lst ws))) →
      wpAny (model X.prog X.w) X.A.in1 (ret (.ref u.heap.objs.size)) (fun f s' => ∃ r, f = .done (.ret r) ∧ EP X pins σ Q r s') X.xe { u with heap := PyProof.Rows.sortedHeap (u.heap.push (PyProof.Rows.seqObj "list" out.toArray 0)) u.heap.objs.size out zs } := fun zs ws hl rv q => by
    obtain ⟨c, at_⟩ := PyProof.Rows.sortedHeap_at (vs := out) (out := zs) new
    have none_ : H u.heap.objs.size = none := I.hok.fresh hz
    have kp2 : ∀ b x, s.heap.get? b = some x → (PyProof.Rows.sortedHeap (u.heap.push (PyProof.Rows.seqObj "list" out.toArray 0)) u.heap.objs.size out zs).get? b = some x := fun b x e => by
      have e1 := kp b x e
      have lt := Heap.lt_size e1
      rw [PyProof.Rows.sortedHeap_old (Nat.ne_of_lt lt) (by rw [PyProof.Rows.size_push']; exact Nat.lt_succ_of_lt lt)]
      exact Heap.get?_push_of_some _ e1
    obtain ⟨g, gn, dr, tk, os⟩ := u
    obtain rfl : gn = s.gens := hg
    obtain rfl : os = s.os := ho
    have wl : ws.length ≤ sizeLine := by
      rw [rv.length, Array.length_toList, hl]
      exact ol
    refine wpAny_pure ⟨_, rfl, .ref g.objs.size, upd H g.objs.size (.lst ws), ?_, rfl, q _ none_⟩
    have J : Inv X pins σ (upd H g.objs.size (.lst ws)) { s with heap := PyProof.Rows.sortedHeap (g.push (PyProof.Rows.seqObj "list" out.toArray 0)) g.objs.size out zs, gens := s.gens, drawn := dr, toks := tk } :=
      I.call (ch := []) (Un.laid kp2 hz none_) (I.hok.laid kp2 hz ⟨wl, zs.toList, c, rv, at_⟩) I.bare fun _ z => nomatch z
    exact J
  apply wpAny_bind
  apply wpAny_holding
  refine wpAny_call_entry PyProof.Rows.slot_list_sort ⟨_, new, rfl⟩ PyProof.Rows.entry_list_sort ?_ (PyProof.Rows.args_list_sort _)
  rcases hq with ⟨ts, rfl, q⟩ | ⟨ts, rfl, q⟩
  · have shp : ∀ e ∈ es.toList, ∃ x t, e.2 = Value.str x t ∧ kyE e = .inr x := fun e he => by
      obtain ⟨⟨k, hk, _⟩, _⟩ := M.el e he
      have kk := kyE_is hk
      have inL : kyE e ∈ ts.map Sum.inr := M.ks.mem_iff.mp (List.mem_map_of_mem he)
      rcases keyIs_shape hk with ⟨i, t, rfl, ev⟩ | ⟨x, t, rfl, ev⟩
      · rw [kk] at inL
        obtain ⟨y, _, z⟩ := List.mem_map.mp inL
        cases z
      · exact ⟨x, t, ev, kk⟩
    have hS : PyProof.Rows.StrsAre out (out.map PyProof.Rows.strOf) := PyProof.Rows.strsAre_map _ fun v hv => by
      obtain ⟨e, he, rfl⟩ := List.mem_map.mp (pm.mem_iff.mp hv)
      obtain ⟨x, t, ev, _⟩ := shp e he
      exact ⟨x, t, ev⟩
    have hp : (out.map PyProof.Rows.strOf).Perm ts := by
      have p1 := pm.map PyProof.Rows.strOf
      rw [List.map_map] at p1
      let f : Key → Str := fun k => match k with
        | .inr x => x
        | .inl _ => ⟨#[]⟩
      have p2 := M.ks.map f
      rw [List.map_map, List.map_map] at p2
      have e1 : es.toList.map (f ∘ kyE) = es.toList.map (PyProof.Rows.strOf ∘ fun x => x.2) := List.map_congr_left fun e he => by
        obtain ⟨x, t, ev, ek⟩ := shp e he
        show f (kyE e) = PyProof.Rows.strOf e.2
        rw [ek, ev]
        rfl
      have e2 : ts.map (f ∘ Sum.inr) = ts := List.map_id ts
      rw [e1, e2] at p2
      exact p1.trans p2
    refine PyProof.Rows.list_sort_treeKAny PyProof.Rows.strKind_oneLt new hS.keysOf (fun v1 v2 rest e => PyProof.Rows.keyKind_strs (by rw [← e]; exact hS)) ol fun st h1 h2 => ⟨_, rfl, ?_⟩
    obtain ⟨ys, h3, h4, h5⟩ := PyProof.Rows.sorted_out_str hS h1 h2
    refine fin _ (ys.map V.str) ?_ (vals_of_strs h3) fun p hn => q ys p (h4.trans hp) (le_of_sortedS h5) hn
    rw [Array.size_map, h1.size_eq, PyProof.Rows.pairsOf_size]
  · have shp : ∀ e ∈ es.toList, ∃ x t, e.2 = Value.int x t ∧ kyE e = .inl x := fun e he => by
      obtain ⟨⟨k, hk, _⟩, _⟩ := M.el e he
      have kk := kyE_is hk
      have inL : kyE e ∈ ts.map Sum.inl := M.ks.mem_iff.mp (List.mem_map_of_mem he)
      rcases keyIs_shape hk with ⟨i, t, rfl, ev⟩ | ⟨x, t, rfl, ev⟩
      · exact ⟨i, t, ev, kk⟩
      · rw [kk] at inL
        obtain ⟨y, _, z⟩ := List.mem_map.mp inL
        cases z
    have hS : PyProof.Rows.IntsAre out (out.map SrtO.iv) := SrtO.ints_iv fun v hv => by
      obtain ⟨e, he, rfl⟩ := List.mem_map.mp (pm.mem_iff.mp hv)
      obtain ⟨x, t, ev, _⟩ := shp e he
      exact ⟨x, t, ev⟩
    have hp : (out.map SrtO.iv).Perm ts := by
      have p1 := pm.map SrtO.iv
      rw [List.map_map] at p1
      let f : Key → Int := fun k => match k with
        | .inl x => x
        | .inr _ => 0
      have p2 := M.ks.map f
      rw [List.map_map, List.map_map] at p2
      have e1 : es.toList.map (f ∘ kyE) = es.toList.map (SrtO.iv ∘ fun x => x.2) := List.map_congr_left fun e he => by
        obtain ⟨x, t, ev, ek⟩ := shp e he
        show f (kyE e) = SrtO.iv e.2
        rw [ek, ev]
        rfl
      have e2 : ts.map (f ∘ Sum.inl) = ts := List.map_id ts
      rw [e1, e2] at p2
      exact p1.trans p2
    refine SrtO.list_sort_ord SrtO.swo_int new ol (fun h2 => SrtO.ints_sortable hS h2) fun zs h1 h2 => ⟨_, rfl, ?_⟩
    obtain ⟨k1, k2, k3⟩ := SrtO.ints_out hS h1 h2
    refine fin zs.toArray ((zs.map SrtO.iv).map V.int) ?_ (vals_of_ints (by simpa using k1)) fun p hn => q _ p (k2.trans hp) k3 hn
    rw [List.size_toArray]
    exact h2.len
end

section
variable {M : Ghost} {C : Ct M} {e : Expr} {wA : AW M} {p p2 pos pos2 : Pos}
/-- what may be a member: texts or numbers, all of one sort -/
def setK (q1 : List (List Nat) → Prop) (q2 : List Int → Prop) (ds : List D) : Prop := (∃ xs : List (List Nat), ds = [.lst (xs.map D.str)] ∧ xs.length < 4000 ∧ q1 xs) ∨ (∃ xs : List Int, ds = [.lst (xs.map D.int)] ∧ xs.length < 4000 ∧ q2 xs)
def cSortedSet (ds : List D) (q : List D → Prop) : Prop :=
  setK (fun xs => ∀ ys : List (List Nat), ys.Pairwise (· < ·) → (∀ y, y ∈ ys ↔ y ∈ xs) → q (ys.map D.str)) (fun xs => ∀ ys : List Int, ys.Pairwise (· < ·) → (∀ y, y ∈ ys ↔ y ∈ xs) → q (ys.map D.int)) ds
def cLenSet (ds : List D) (q : D → Prop) : Prop :=
  setK (fun xs => ∀ ys : List (List Nat), ys.Nodup → (∀ y, y ∈ ys ↔ y ∈ xs) → q (.int (ys.length : Nat))) (fun xs => ∀ ys : List Int, ys.Nodup → (∀ y, y ∈ ys ↔ y ∈ xs) → q (.int (ys.length : Nat))) ds
theorem keys_inr {L : List Key} (h : ∀ k ∈ L, ∃ x : Str, k = .inr x) : ∃ ts : List Str, L = ts.map Sum.inr := by
  induction L with
  | nil => exact ⟨[], rfl⟩
  | cons k L ih =>
    obtain ⟨ts, e⟩ := ih fun j hj => h j (List.mem_cons_of_mem _ hj)
    obtain ⟨x, rfl⟩ := h k List.mem_cons_self
    exact ⟨x :: ts, by rw [e]; rfl⟩
theorem keys_inl {L : List Key} (h : ∀ k ∈ L, ∃ x : Int, k = .inl x) : ∃ ts : List Int, L = ts.map Sum.inl := by
  induction L with
  | nil => exact ⟨[], rfl⟩
  | cons k L ih =>
    obtain ⟨ts, e⟩ := ih fun j hj => h j (List.mem_cons_of_mem _ hj)
    obtain ⟨x, rfl⟩ := h k List.mem_cons_self
    exact ⟨x :: ts, by rw [e]; rfl⟩
theorem nodup_of_map {α β : Type} {f : α → β} {l : List α} (h : (l.map f).Nodup) : l.Nodup := by
  rw [List.Nodup, List.pairwise_map] at h
  exact h.imp fun z e => z (congrArg f e)
theorem nodup_map {α β : Type} {f : α → β} (hf : ∀ a b, f a = f b → a = b) {l : List α} (h : l.Nodup) : (l.map f).Nodup := by
  rw [List.Nodup, List.pairwise_map]
  exact h.imp fun z e => z (hf _ _ e)
theorem cps_inj (a b : Str) (h : a.cps.toList = b.cps.toList) : a = b := by
  obtain ⟨a⟩ := a
  obtain ⟨b⟩ := b
  have : a = b := Array.toList_inj.mp h
  rw [this]
theorem strict_of {α : Type} {R : α → α → Prop} {l : List α} (tot : ∀ a b, ¬ R b a → a ≠ b → R a b) (h : l.Pairwise fun a b => ¬ R b a) (nd : l.Nodup) : l.Pairwise R := by
  have := h.and nd
  exact this.imp fun {a b} z => tot a b z.1 z.2
theorem strs_rpa {K : PySem.W.Frag} {F : Hp} {R : List Addr} : ∀ ys : List Str, RpA K F R (ys.map V.str) ((ys.map fun y => y.cps.toList).map D.str)
  | [] => .nil
  | y :: ys => .cons (rp_str y) (strs_rpa ys)
theorem ints_rpa {K : PySem.W.Frag} {F : Hp} {R : List Addr} : ∀ ys : List Int, RpA K F R (ys.map V.int) (ys.map D.int)
  | [] => .nil
  | y :: ys => .cons (.int y) (ints_rpa ys)
/-- the set, then what asks of it -/
theorem set_run {x : Str} {id : String} {rr : List V → Hp → VK → Prop} (hc : C.X.calm = true) (cr : CallR C.X (.builtin id) rr) (hg : Gl C.X x) (hm : C.X.mg x = none) (hv : bootBuiltins x = some (.builtin id)) (hg2 : Gl C.X "set") (hm2 : C.X.mg "set" = none) (ha : DAP C [e] wA)
    (hn : x ≠ "__name__") (hdb : (x == ("__debug__" : Str)) = false) (he : starEach [e] C.X.env = (false, eval e C.X.env) :: starEach [] C.X.env := by rfl)
    (he2 : starEach [.Call (.Name "set" p2) [e] [] pos2] C.X.env = (false, eval (.Call (.Name "set" p2) [e] [] pos2) C.X.env) :: starEach [] C.X.env := by rfl)
    {σ : L2.St} {ρ : DEnv} {W : Wd M} {Q : VK} {q1 : List (List Nat) → M.G → Prop} {q2 : List Int → M.G → Prop} (S : Sat C σ ρ W)
    (h1 : ∀ (W1 : Wd M) (a : Addr) (xs : List (List Nat)) (ts : List Str), Go W W1 → Wok C.X.K W1 → ts.Nodup → (∀ t : Str, t ∈ ts ↔ t.cps.toList ∈ xs) → W1.H a = some (MO C.X.prog C.X.w a (ts.map Sum.inr)) → q1 xs W1.g → rr [.ref a] W1.H Q)
    (h2 : ∀ (W1 : Wd M) (a : Addr) (xs ts : List Int), Go W W1 → Wok C.X.K W1 → ts.Nodup → (∀ t, t ∈ ts ↔ t ∈ xs) → W1.H a = some (MO C.X.prog C.X.w a (ts.map Sum.inl)) → q2 xs W1.g → rr [.ref a] W1.H Q)
    (hw : wA ρ W.g fun ds g => setK (fun xs => q1 xs g) (fun xs => q2 xs g) ds) : tOf C.X (.Call (.Name x p) [.Call (.Name "set" p2) [e] [] pos2] [] pos) σ W.H Q := by
  refine tOf_of (pe_callB cr hg hm hv (pa_cons (pe_callTy (cr_setM hc) hg2 hm2 (by decide +kernel) pa_tOf (by decide) (by decide) he) pa_nil he2) hn hdb he2) ?_
  refine ha.run σ ρ W _ _ S (fun vs ds W1 g1 k1 r1 q => ?_) hw
  rcases q with ⟨xs, rfl, few, q⟩ | ⟨xs, rfl, few, q⟩
  · obtain ⟨v, rfl, r0⟩ := pair1 r1
    obtain ⟨l, vs, rfl, hp, np, ra⟩ := r0.lst_inv k1
    obtain ⟨zs, rfl, ez⟩ := ra.strs
    have zl : zs.length = xs.length := by rw [← ez, List.length_map]
    refine ⟨l, zs.map Sum.inr, rfl, .of (by rw [hp, List.map_map]; rfl), by rw [List.length_map, zl]; show xs.length + 1 < 4096; omega, fun a L hn nd hj => ?_⟩
    obtain ⟨ts, rfl⟩ := keys_inr (L := L) fun k hk => by
      obtain ⟨z, _, e⟩ := List.mem_map.mp ((hj k).mp hk)
      exact ⟨z, e.symm⟩
    refine h1 (W1.new a (MO C.X.prog C.X.w a (ts.map Sum.inr))) a xs ts (g1.trans (Go.new k1 hn)) (k1.new hn) (nodup_of_map nd) (fun t => ?_) upd_same q
    have := hj (.inr t)
    rw [List.mem_map, List.mem_map] at this
    rw [← ez, List.mem_map]
    constructor
    · intro ht
      obtain ⟨z, hz, e⟩ := this.mp ⟨t, ht, rfl⟩
      cases e
      exact ⟨_, hz, rfl⟩
    · rintro ⟨z, hz, e⟩
      obtain ⟨y, hy, e2⟩ := this.mpr ⟨z, hz, by rw [cps_inj _ _ e]⟩
      cases e2
      exact hy
  · obtain ⟨v, rfl, r0⟩ := pair1 r1
    obtain ⟨l, vs, rfl, hp, np, ra⟩ := r0.lst_inv k1
    obtain rfl := ra.ints
    refine ⟨l, xs.map Sum.inl, rfl, .of (by rw [hp, List.map_map]; rfl), by rw [List.length_map]; show xs.length + 1 < 4096; omega, fun a L hn nd hj => ?_⟩
    obtain ⟨ts, rfl⟩ := keys_inl (L := L) fun k hk => by
      obtain ⟨z, _, e⟩ := List.mem_map.mp ((hj k).mp hk)
      exact ⟨z, e.symm⟩
    refine h2 (W1.new a (MO C.X.prog C.X.w a (ts.map Sum.inl))) a xs ts (g1.trans (Go.new k1 hn)) (k1.new hn) (nodup_of_map nd) (fun t => ?_) upd_same q
    have := hj (.inl t)
    rw [List.mem_map, List.mem_map] at this
    constructor
    · intro ht
      obtain ⟨z, hz, e⟩ := this.mp ⟨t, ht, rfl⟩
      cases e
      exact hz
    · intro ht
      obtain ⟨y, hy, e2⟩ := this.mpr ⟨t, ht, rfl⟩
      cases e2
      exact hy
theorem dn_sortedSet (hc : C.X.calm = true) (hm : C.X.mg "sorted" = none) (hm2 : C.X.mg "set" = none) (ha : DAP C [e] wA) (hg : Gl C.X "sorted" := by rfl) (hg2 : Gl C.X "set" := by rfl)
    (he : starEach [e] C.X.env = (false, eval e C.X.env) :: starEach [] C.X.env := by rfl)
    (he2 : starEach [.Call (.Name "set" p2) [e] [] pos2] C.X.env = (false, eval (.Call (.Name "set" p2) [e] [] pos2) C.X.env) :: starEach [] C.X.env := by rfl) :
    DN C (.Call (.Name "sorted" p) [.Call (.Name "set" p2) [e] [] pos2] [] pos) (wCN cSortedSet wA) := ⟨fun σ ρ W Q q Sa hQ hw => by
  refine set_run (q1 := fun xs g => ∀ ys : List (List Nat), ys.Pairwise (· < ·) → (∀ y, y ∈ ys ↔ y ∈ xs) → q (ys.map D.str) g) (q2 := fun xs g => ∀ ys : List Int, ys.Pairwise (· < ·) → (∀ y, y ∈ ys ↔ y ∈ xs) → q (ys.map D.int) g)
    hc (cr_srtM hc) hg hm (by decide +kernel) hg2 hm2 ha (by decide) (by decide) he he2 Sa (fun W1 a xs ts g1 k1 nd hj hH hq => ?_) (fun W1 a xs ts g1 k1 nd hj hH hq => ?_) hw
  · refine ⟨a, _, rfl, hH, .inl ⟨ts, rfl, fun ys t pm pw ht => ?_⟩⟩
    have nd' := pm.nodup_iff.mpr nd
    have st : (ys.map fun y => y.cps.toList).Pairwise (· < ·) := strict_of (R := fun a b : List Nat => a < b) (fun a b h1 h2 => by
        by_cases c : a < b
        · exact c
        · exact absurd (List.le_antisymm (List.not_lt.mp h1) (List.not_lt.mp c)) h2) (by rw [List.pairwise_map]; exact pw) (nodup_map cps_inj nd')
    have go := hq _ st fun y => by
      rw [List.mem_map]
      constructor
      · rintro ⟨z, hz, rfl⟩
        exact (hj z).mp (pm.mem_iff.mp hz)
      · intro hy
        refine ⟨S y, pm.mem_iff.mpr ((hj _).mpr ?_), ?_⟩
        · rw [S_list]; exact hy
        · rw [S_list]
    exact hQ t _ _ (W1.new t (.lst (ys.map V.str))) (g1.trans (Go.new k1 ht)) (k1.new ht) upd_same (k1.noF ht) (k1.noR ht) (nofresh g1 ht) (strs_rpa ys) go
  · refine ⟨a, _, rfl, hH, .inr ⟨ts, rfl, fun ys t pm pw ht => ?_⟩⟩
    have nd' := pm.nodup_iff.mpr nd
    have st : ys.Pairwise (· < ·) := strict_of (R := fun a b : Int => a < b) (fun a b h1 h2 => by omega) (pw.imp fun h => by omega) nd'
    have go := hq _ st fun y => by rw [pm.mem_iff, hj]
    exact hQ t _ _ (W1.new t (.lst (ys.map V.int))) (g1.trans (Go.new k1 ht)) (k1.new ht) upd_same (k1.noF ht) (k1.noR ht) (nofresh g1 ht) (ints_rpa ys) go⟩
theorem de_lenSet (hc : C.X.calm = true) (hm : C.X.mg "len" = none) (hm2 : C.X.mg "set" = none) (ha : DAP C [e] wA) (hg : Gl C.X "len" := by rfl) (hg2 : Gl C.X "set" := by rfl)
    (he : starEach [e] C.X.env = (false, eval e C.X.env) :: starEach [] C.X.env := by rfl)
    (he2 : starEach [.Call (.Name "set" p2) [e] [] pos2] C.X.env = (false, eval (.Call (.Name "set" p2) [e] [] pos2) C.X.env) :: starEach [] C.X.env := by rfl) :
    DE C (.Call (.Name "len" p) [.Call (.Name "set" p2) [e] [] pos2] [] pos) (wCB cLenSet wA) := ⟨fun σ ρ W Q q Sa hQ hw => by
  refine set_run (q1 := fun xs g => ∀ ys : List (List Nat), ys.Nodup → (∀ y, y ∈ ys ↔ y ∈ xs) → q (.int (ys.length : Nat)) g) (q2 := fun xs g => ∀ ys : List Int, ys.Nodup → (∀ y, y ∈ ys ↔ y ∈ xs) → q (.int (ys.length : Nat)) g)
    hc cr_lenM hg hm (by decide +kernel) hg2 hm2 ha (by decide) (by decide) he he2 Sa (fun W1 a xs ts g1 k1 nd hj hH hq => ?_) (fun W1 a xs ts g1 k1 nd hj hH hq => ?_) hw
  · refine ⟨a, _, rfl, hH, ?_⟩
    have go := hq (ts.map fun y => y.cps.toList) (nodup_map cps_inj nd) fun y => by
      rw [List.mem_map]
      constructor
      · rintro ⟨z, hz, rfl⟩
        exact (hj z).mp hz
      · intro hy
        refine ⟨S y, (hj _).mpr ?_, ?_⟩
        · rw [S_list]; exact hy
        · rw [S_list]
    rw [List.length_map] at go ⊢
    exact hQ _ _ W1 g1 k1 (.int _) go
  · refine ⟨a, _, rfl, hH, ?_⟩
    have go := hq ts nd hj
    rw [List.length_map]
    exact hQ _ _ W1 g1 k1 (.int _) go⟩
end
end DL
set_option Elab.async false
set_option linter.all false
set_option maxRecDepth 100000
set_option maxHeartbeats 1000000
namespace DL
open PySem L2
section
variable {M : Ghost} {C : Ct M}
def oIsTB (f : Bool → Bool) : D → D → (D → Prop) → Prop
  | .bl a, .bl b, q => q (.bl (f (decide (a = b))))
  | _, _, _ => False
def oIsT := oIsTB id
def oNotT := oIsTB not
theorem opd_isT : OpD C (compareOp .Is) oIsT := by
  refine ⟨_, op_isBl, fun W x y d e Q q k r1 r2 hQ h => ?_⟩
  cases d with
  | bl a =>
    cases e with
    | bl b => exact ⟨a, b, r1.bl_inv, r2.bl_inv, hQ _ _ W (Go.refl W) k rfl (.bl _) h⟩
    | _ => exact h.elim
  | _ => exact h.elim
theorem opd_notT : OpD C (compareOp .IsNot) oNotT := by
  refine ⟨_, op_notBl, fun W x y d e Q q k r1 r2 hQ h => ?_⟩
  cases d with
  | bl a =>
    cases e with
    | bl b => exact ⟨a, b, r1.bl_inv, r2.bl_inv, hQ _ _ W (Go.refl W) k rfl (.bl _) h⟩
    | _ => exact h.elim
  | _ => exact h.elim
@[simp] theorem sm_isT {a b : Bool} {q : D → Prop} : (oIsT (.bl a) (.bl b) q) = (q (.bl (decide (a = b)))) := rfl
@[simp] theorem sm_notT {a b : Bool} {q : D → Prop} : (oNotT (.bl a) (.bl b) q) = (q (.bl (!decide (a = b)))) := rfl
end
end DL
set_option Elab.async false
set_option linter.all false
set_option maxRecDepth 100000
set_option maxHeartbeats 1000000
namespace DL
open PySem L2
section
variable {M : Ghost} {C : Ct M} {o e : Expr} {wo we : EW M} {apos pos : Pos}
/-- the first place of a text in a text -/
def ixS (x y : List Nat) (k : Nat) : Prop := ∃ rest, Builtin.Str.occurrences (S x) (S y) 0 (S x).length 1 = k :: rest
@[simp] def wIndexT (wo we : EW M) : EW M := fun ρ g q => wo ρ g fun d g1 => ∃ x, d = .str x ∧ we ρ g1 fun y g2 => ∃ z k, y = .str z ∧ ixS x z k ∧ q (.int (k : Nat)) g2
theorem eq_S {z : Str} {x : List Nat} (h : z.cps.toList = x) : z = S x := by
  subst h
  exact cps_inj _ _ rfl
theorem de_indexT (ho : DP C o wo) (he : DE C e we) (hbase : attributeBase o "index" C.X.env (eval o C.X.env) = eval o C.X.env := by rfl)
    (hfew : ((backTo pos (starEach [e] C.X.env)).all (fun x => !x.1) && (backToKw pos (keywordEach [] C.X.env)).all (fun x => x.1.isSome) && decide ([e].length + ([] : List Keyword).length + (if ([] : List Keyword).isEmpty then 0 else 1) < 30)) = true := by rfl)
    (hline : (apos.endLine == pos.line) = true := by rfl) (hs : starEach [e] C.X.env = [(false, eval e C.X.env)] := by rfl) (hpl : (backTo pos (starEach [] C.X.env)).any (·.1) = false := by rfl) :
    DE C (.Call (.Attribute o "index" apos) [e] [] pos) (wIndexT wo we) := ⟨fun σ ρ W Q q S hQ hw =>
  tOf_of (pe_bm PySem.F.plainAttrs_str PySem.F.slot_str_index PySem.F.type_str_index mt_sindex pe_tOf (pa_cons pe_tOf pa_nil hs) hbase hfew hline hs hpl) (ho.run σ ρ W _ _ S (fun v d W1 g1 k1 r1 q1 => by
    obtain ⟨x, e1, q1⟩ := q1
    cases e1
    obtain ⟨z, rfl, e2⟩ := r1.str_inv
    refine ⟨rfl, he.run σ ρ W1 _ _ (S.step g1 k1) (fun u y W2 g2 k2 r2 q2 => ?_) q1⟩
    obtain ⟨b, k, rfl, ⟨rest, e4⟩, q2⟩ := q2
    cases r2 with
    | str z2 x2 e5 => exact ⟨z, z2, k, rest, rfl, rfl, by rw [eq_S e2, eq_S e5]; exact e4, hQ _ _ W2 (g1.trans g2) k2 (.int _) q2⟩) hw)⟩
theorem ixS_abc : ∀ k : Nat, k < 26 → ixS [97, 98, 99, 100, 101, 102, 103, 104, 105, 106, 107, 108, 109, 110, 111, 112, 113, 114, 115, 116, 117, 118, 119, 120, 121, 122] [97 + k] k := by
  have h : ∀ k : Nat, k < 26 → Builtin.Str.occurrences (S [97, 98, 99, 100, 101, 102, 103, 104, 105, 106, 107, 108, 109, 110, 111, 112, 113, 114, 115, 116, 117, 118, 119, 120, 121, 122]) (S [97 + k]) 0 (S [97, 98, 99, 100, 101, 102, 103, 104, 105, 106, 107, 108, 109, 110, 111, 112, 113, 114, 115, 116, 117, 118, 119, 120, 121, 122]).length 1 = [k] := by decide +kernel
  exact fun k hk => ⟨[], h k hk⟩
end
end DL
set_option Elab.async false
set_option linter.all false
set_option maxRecDepth 100000
set_option maxHeartbeats 1000000
namespace DL
open PySem L2
def valD (kds : List (Key × D)) (k : Key) : Option D := (kds.find? fun kv => decide (kv.1 = k)).map (·.2)
def putD (kds : List (Key × D)) (k : Key) (d : D) : List (Key × D) :=
  if (kds.any fun kv => decide (kv.1 = k)) = true then kds.map (fun kv => if kv.1 = k then (kv.1, d) else kv) else kds ++ [(k, d)]
section
variable {K : PySem.W.Frag} {F : Hp} {R : List Addr}
theorem rpK_val {k : Key} {d : D} : ∀ {kvs : List (Key × V)} {kds : List (Key × D)}, RpK K F R kvs kds → valD kds k = some d → ∃ v, valV kvs k = some v ∧ Rp K F R v d
  | _, _, .nil, h => by cases h
  | (k1, v1) :: kvs, (_, d1) :: kds, .cons r t, h => by
    by_cases c : k1 = k
    · have h' : some d1 = some d := by
        unfold valD at h
        rw [List.find?_cons_of_pos (by simpa using c)] at h
        exact h
      cases h'
      exact ⟨v1, valV_pos c, r⟩
    · unfold valD at h
      rw [List.find?_cons_of_neg (by simpa using c)] at h
      obtain ⟨v, e, rv⟩ := rpK_val t h
      exact ⟨v, (valV_neg c).trans e, rv⟩
theorem rpK_any (k : Key) : ∀ {kvs : List (Key × V)} {kds : List (Key × D)}, RpK K F R kvs kds → (kvs.any fun kv => decide (kv.1 = k)) = kds.any fun kv => decide (kv.1 = k)
  | _, _, .nil => rfl
  | _, _, .cons r t => by rw [List.any_cons, List.any_cons, rpK_any k t]
theorem rpK_repl {k : Key} {v : V} {d : D} (rv : Rp K F R v d) : ∀ {kvs : List (Key × V)} {kds : List (Key × D)}, RpK K F R kvs kds → RpK K F R (kvs.map fun kv => if kv.1 = k then (kv.1, v) else kv) (kds.map fun kv => if kv.1 = k then (kv.1, d) else kv)
  | _, _, .nil => .nil
  | (k1, v1) :: kvs, (_, d1) :: kds, .cons r t => by
    rw [List.map_cons, List.map_cons]
    by_cases c : k1 = k
    · rw [if_pos c, if_pos c]
      exact .cons rv (rpK_repl rv t)
    · rw [if_neg c, if_neg c]
      exact .cons r (rpK_repl rv t)
theorem rpK_snoc {k : Key} {v : V} {d : D} (rv : Rp K F R v d) : ∀ {kvs : List (Key × V)} {kds : List (Key × D)}, RpK K F R kvs kds → RpK K F R (kvs ++ [(k, v)]) (kds ++ [(k, d)])
  | _, _, .nil => .cons rv .nil
  | _, _, .cons r t => .cons r (rpK_snoc rv t)
theorem rpK_put {k : Key} {v : V} {d : D} (rv : Rp K F R v d) {kvs : List (Key × V)} {kds : List (Key × D)} (r : RpK K F R kvs kds) : RpK K F R (putK kvs k v) (putD kds k d) := by
  unfold putK putD
  rw [rpK_any k r]
  by_cases c : (kds.any fun kv => decide (kv.1 = k)) = true
  · rw [if_pos c, if_pos c]
    exact rpK_repl rv r
  · rw [if_neg c, if_neg c]
    exact rpK_snoc rv r
theorem rpK_len : ∀ {kvs : List (Key × V)} {kds : List (Key × D)}, RpK K F R kvs kds → kvs.length = kds.length
  | _, _, .nil => rfl
  | _, _, .cons r t => by rw [List.length_cons, List.length_cons, rpK_len t]
end
theorem valD_put (k j : Key) (d : D) : ∀ kds : List (Key × D), valD (putD kds k d) j = if j = k then some d else valD kds j := by
  have nil_ : ∀ kds : List (Key × D), (kds.any fun kv => decide (kv.1 = k)) = false → valD kds k = none := fun kds h => by
    unfold valD
    rw [List.find?_eq_none.mpr fun kv hkv => by
      have := List.any_eq_false.mp h kv hkv
      simpa using this]
    rfl
  have rep_ : ∀ kds : List (Key × D), valD (kds.map fun kv => if kv.1 = k then (kv.1, d) else kv) j = if j = k then (valD kds k).map fun _ => d else valD kds j := fun kds => by
    induction kds with
    | nil => by_cases c : j = k <;> simp [valD, c]
    | cons a kds ih =>
      obtain ⟨k1, d1⟩ := a
      unfold valD at ih ⊢
      rw [List.map_cons]
      by_cases c1 : k1 = k
      · rw [if_pos c1]
        by_cases c : j = k
        · rw [if_pos c] at ih ⊢
          rw [List.find?_cons_of_pos (by simp [c1, c]), List.find?_cons_of_pos (by simp [c1])]
          rfl
        · rw [if_neg c] at ih ⊢
          rw [List.find?_cons_of_neg (by simpa [c1] using fun z => c z.symm), List.find?_cons_of_neg (by simpa [c1] using fun z => c z.symm)]
          exact ih
      · rw [if_neg c1]
        by_cases c2 : k1 = j
        · have c : ¬ j = k := fun z => c1 (c2.trans z)
          rw [if_neg c] at ih ⊢
          rw [List.find?_cons_of_pos (by simpa using c2), List.find?_cons_of_pos (by simpa using c2)]
        · rw [List.find?_cons_of_neg (by simpa using c2), ih]
          by_cases c : j = k
          · rw [if_pos c, if_pos c, List.find?_cons_of_neg (by simpa using c1)]
          · rw [if_neg c, if_neg c, List.find?_cons_of_neg (by simpa using c2)]
  intro kds
  unfold putD
  cases h : kds.any fun kv => decide (kv.1 = k) with
  | true =>
    rw [if_pos rfl, rep_]
    by_cases c : j = k
    · rw [if_pos c, if_pos c]
      obtain ⟨kv, h1, h2⟩ := List.any_eq_true.mp h
      cases hv : valD kds k with
      | some z => rfl
      | none =>
        unfold valD at hv
        rw [Option.map_eq_none_iff, List.find?_eq_none] at hv
        exact absurd h2 (hv kv h1)
    · rw [if_neg c, if_neg c]
  | false =>
    rw [if_neg (by decide)]
    unfold valD
    rw [List.find?_append]
    by_cases c : j = k
    · rw [if_pos c, c]
      have := nil_ kds h
      unfold valD at this
      rw [Option.map_eq_none_iff] at this
      rw [this, List.find?_cons_of_pos (by simp)]
      rfl
    · rw [if_neg c, List.find?_cons_of_neg (by simpa using fun z => c z.symm)]
      cases kds.find? fun kv => decide (kv.1 = j) <;> rfl
theorem putD_len (kds : List (Key × D)) (k : Key) (d : D) : (putD kds k d).length ≤ kds.length + 1 := by
  unfold putD
  split
  · rw [List.length_map]; omega
  · rw [List.length_append]; exact Nat.le_refl _
section
variable {M : Ghost} {C : Ct M} {e e2 ke ve : Expr} {we wi wk wv : EW M} {pos p1 : Pos}
@[simp] def wD0 : VW M := fun _ g q => q (.odt []) g
theorem dv_dict0 : DV C (.Dict [] [] pos) wD0 := ⟨fun σ ρ W Q q S hQ hw =>
  tOf_of pe_dnewK (fun d hd => hQ (.ref d) (.odt []) (W.new d (.dK [])) (Go.new S.ok hd) (Wok.new S.ok hd) ⟨d, [], rfl, upd_same, S.ok.noF hd, S.ok.noR hd, hd, .nil⟩ hw)⟩
@[simp] def wD1 (wk wv : EW M) : VW M := fun ρ g q => wk ρ g fun d g1 => asI d fun j => wv ρ g1 fun x g2 => q (.odt [(.inl j, x)]) g2
theorem dv_dict1 (hk : DE C ke wk) (hv : DE C ve wv) : DV C (.Dict [some ke] [ve] pos) (wD1 wk wv) := ⟨fun σ ρ W Q q S hQ hw =>
  tOf_of (pe_disp (pps_cons pe_tOf pe_tOf pps_nil) (by rfl) (by rfl) (fun z => by cases z) (by simp)) (fun p hp => by
    have g1 := Go.new (o := .dK []) S.ok hp
    have k1 := Wok.new (o := .dK []) S.ok hp
    refine hk.run σ ρ (W.new p (.dK [])) _ _ (S.step g1 k1) (fun x d W2 g2 k2 r2 q2 => ?_) hw
    cases d with
    | int j =>
      cases r2
      refine hv.run σ ρ W2 _ _ (S.step (g1.trans g2) k2) (fun y d W3 g3 k3 r3 q3 => ?_) q2
      have a1 : SlOk C (W.new p (.dK [])) (.odt []) (some (.ref p)) := slOk_fresh S g1 ⟨p, [], rfl, upd_same, S.ok.noF hp, S.ok.noR hp, hp, .nil⟩
      obtain ⟨p', kvs, b1, b2, b3, b4, b5, b6⟩ := (a1.step g2).step g3
      cases b1
      cases b6
      refine ⟨b2, [(.inl j, y)], rfl, by simp, ?_⟩
      exact hQ (.ref p) (.odt [(.inl j, d)]) (W3.put p (.dK [(.inl j, y)])) (((g1.trans g2).trans g3).put hp) (k3.put b3 b4) ⟨p, _, rfl, upd_same, b3, b4, hp, .cons r3 .nil⟩ q3
    | _ => exact False.elim q2)⟩
@[simp] def wDGet (i : Nat) (wi : EW M) : EW M := fun ρ g q => ∃ kds, ρ[i]? = some (.odt kds) ∧ wi ρ g fun x g1 => asI x fun j => ∃ d, valD kds (.inl j) = some d ∧ q d g1
theorem de_dget {i : Nat} {x : Str} (hu : C.X.A.units + 64 < cLine) (hv : PE C.X (.Name x p1) (tVar i)) (hi : DE C e2 wi) (hs : NoSl e2) : DE C (.Subscript (.Name x p1) e2 pos) (wDGet i wi) := ⟨fun σ ρ W Q q S hQ hw => by
  obtain ⟨kds, e0, h⟩ := hw
  obtain ⟨o, h1, h2⟩ := S.sl i _ e0
  obtain ⟨p, kvs, rfl, h3, h4, h5, h6, r⟩ := h2
  refine tOf_of (pe_dget (by omega) hv pe_tOf hs) ⟨.ref p, h1, ?_⟩
  refine hi.run σ ρ W _ _ S (fun y x W2 g2 k2 r2 q2 => ?_) h
  cases x with
  | int j =>
    cases r2
    obtain ⟨d, hd, q2⟩ := q2
    have r' := r.step g2
    obtain ⟨v, hv, rv⟩ := rpK_val r' hd
    have h3' := g2.keep _ _ h3 h5
    exact ⟨p, v, rfl, by have := DGet.k (k := .inl j) h3'; rw [hv] at this; exact this, hQ _ _ W2 g2 k2 rv q2⟩
  | _ => exact False.elim q2⟩
@[simp] def wDSet (i : Nat) (we wi : EW M) : SW M := fun k ρ g => ∃ kds, ρ[i]? = some (.odt kds) ∧ we ρ g fun d g1 => wi ρ g1 fun x g2 => asI x fun j => kds.length < sizeLine ∧ k.nx (ρ.set i (.odt (putD kds (.inl j) d))) g2
/-- x[e2] = e, x a dict of one's own -/
theorem ds_dset {i : Nat} {x : Str} {spos : Pos} (hu : C.X.A.units + 64 < cLine) (hv : PE C.X (.Name x p1) (tVar i)) (he : DE C e we) (hi : DE C e2 wi)
    (ha : ∀ v, assign (.Subscript (.Name x p1) e2 spos) C.X.env v = (do
      let ov ← holding [v] (eval (.Name x p1) C.X.env)
      let iv ← holding [v, ov] (eval e2 C.X.env)
      standAt spos
      holding [v, ov, iv] (setItem ov iv v)
      release [v, ov, iv] []) := by intro _; rfl)
    (hs : swapsWithSole [.Subscript (.Name x p1) e2 spos] e pos.line C.X.env = pure false := by rfl) (hw : swappedStores [.Subscript (.Name x p1) e2 spos] e C.X.env = pure none := by rfl)
    (h1 : (assignEach [.Subscript (.Name x p1) e2 spos] C.X.env).map (·.2) = [assign (.Subscript (.Name x p1) e2 spos) C.X.env] := by rfl) :
    DS C (.Assign [.Subscript (.Name x p1) e2 spos] e pos) (wDSet i we wi) := ⟨fun σ ρ W k E S l h => by
  obtain ⟨kds, e0, h⟩ := h
  obtain ⟨o, h1', p, kvs, h2, h3, h4, h5, h6, r⟩ := S.sl i _ e0
  subst h2
  refine tsOf_of (ps_asg pe_tOf (pg_sub hv pe_tOf (set_dict (by omega)) ha) hs hw h1) ?_
  refine he.run σ ρ W _ _ S (fun v d W1 g1 k1 r1 q1 => ⟨.ref p, h1', ?_⟩) h
  refine hi.run σ ρ W1 _ _ (S.step g1 k1) (fun u x W2 g2 k2 r2 q2 => ?_) q1
  cases x with
  | int j =>
    cases r2
    have S2 := S.step (g1.trans g2) k2
    obtain ⟨o2, a1, p2, kvs2, a2, a3, a4, a5, a6, r3⟩ := S2.sl i _ e0
    subst a2
    rw [h1'] at a1
    cases a1
    obtain ⟨S3, g3⟩ := S2.writeG (u := .dK (putK kvs2 (.inl j) v)) (s1 := .odt (putD kds (.inl j) d)) e0 rfl rfl h1' fun h4 h5 h6 => ⟨p, _, rfl, upd_same, h4, h5, h6, rpK_put (r1.step g2) r3⟩
    exact ⟨p, _, rfl, DPut.k (k := .inl j) a3 (by rw [rpK_len r3]; exact q2.1), l.nx _ _ _ ((g1.trans g2).s.trans g3) S3 q2.2⟩
  | _ => exact False.elim q2⟩
end
section
variable {M : Ghost} {C : Ct M} {W W1 W2 W3 : Wd M} {σ : L2.St} {ρ : DEnv} {pos : Pos}
theorem two_sat (S : Sat C σ ρ W) {i j : Nat} {v u : V} {s t : Sl} (g1 : Go W W1) (k1 : Wok C.X.K W1) (f1 : Fresh C.X.K W W1 v s) (g2 : Go W1 W2) (k2 : Wok C.X.K W2) (f2 : Fresh C.X.K W1 W2 u t) :
    Sat C ((σ.set i (some v)).set j (some u)) ((ρ.set i s).set j t) W2 := by
  have S2 := S.step (g1.trans g2) k2
  have T1 := S2.puts ((slOk_fresh S g1 f1).step g2) i fun p w1 e1 m t' w2 _ a1 a2 => own_live S w2 a1 a2 (fresh_dead f1 w1 e1)
  exact T1.puts (slOk_fresh (S.step g1 k1) g2 f2) j fun p w1 e1 m t' w2 _ a1 a2 => by
    have dead := fresh_dead f2 w1 e1
    by_cases hm : i = m
    · subst hm
      have hlt : i < ρ.length := by
        have := (List.getElem?_eq_some_iff.mp a1).1
        rwa [List.length_set] at this
      rw [List.getElem?_set_self hlt] at a1
      rw [List.getElem?_set_self (by rw [S.len]; exact hlt)] at a2
      cases a1
      cases a2
      exact fresh_live f1 w2 rfl dead
    · rw [List.getElem?_set_ne hm] at a1 a2
      exact g1.live _ (own_live S w2 a1 a2) dead
theorem three_sat (S : Sat C σ ρ W) {i j l : Nat} {v u w : V} {s t r : Sl} (g1 : Go W W1) (k1 : Wok C.X.K W1) (f1 : Fresh C.X.K W W1 v s) (g2 : Go W1 W2) (k2 : Wok C.X.K W2) (f2 : Fresh C.X.K W1 W2 u t) (g3 : Go W2 W3) (k3 : Wok C.X.K W3) (f3 : Fresh C.X.K W2 W3 w r) :
    Sat C (((σ.set i (some v)).set j (some u)).set l (some w)) (((ρ.set i s).set j t).set l r) W3 := by
  have T2 := (two_sat (i := i) (j := j) S g1 k1 f1 g2 k2 f2)
  exact (T2.step g3 k3).puts (slOk_fresh (S.step (g1.trans g2) k2) g3 f3) l fun p w1 e1 m t' w2 _ a1 a2 => own_live T2 w2 a1 a2 (fresh_dead f3 w1 e1)
theorem ds_asgV2 {i j : Nat} {x y : Str} {a b : Expr} {wx wy : VW M} {px py pt : Pos} {kt k2 : Nat} {pt2 : Pos} (hc : C.X.calm = true) (gx : PG C.X (.Name x px) (gName i)) (gy : PG C.X (.Name y py) (gName j)) (ha : DV C a wx) (hb : DV C b wy)
    (hw : swappedStores [.Tuple [.Name x px, .Name y py] kt pt] (.Tuple [a, b] k2 pt2) C.X.env = pure none := by rfl) (hs : swapsWithSole [.Tuple [.Name x px, .Name y py] kt pt] (.Tuple [a, b] k2 pt2) pos.line C.X.env = pure false := by rfl)
    (h1 : starEach [a, b] C.X.env = (false, eval a C.X.env) :: starEach [b] C.X.env := by rfl) (h2 : starEach [b] C.X.env = (false, eval b C.X.env) :: starEach [] C.X.env := by rfl)
    (hA : (assignEach [.Tuple [.Name x px, .Name y py] kt pt] C.X.env).map (·.2) = [assign (.Tuple [.Name x px, .Name y py] kt pt) C.X.env] := by rfl)
    (hn : (assignEach [.Name x px, .Name y py] C.X.env).length = 2 := by rfl) (hst : (assignEach [.Name x px, .Name y py] C.X.env).findIdx? (·.1) = none := by rfl)
    (hx : (assignEach [.Name x px, .Name y py] C.X.env).map (·.2) = assign (.Name x px) C.X.env :: (assignEach [.Name y py] C.X.env).map (·.2) := by rfl) (hy : (assignEach [.Name y py] C.X.env).map (·.2) = assign (.Name y py) C.X.env :: (assignEach [] C.X.env).map (·.2) := by rfl) :
    DS C (.Assign [.Tuple [.Name x px, .Name y py] kt pt] (.Tuple [a, b] k2 pt2) pos) (wPar i j wx wy) := ⟨fun σ ρ W k E S lf h => by
  refine tsOf_of (ps_asg (pe_tup (pa_cons pe_tOf (pa_cons pe_tOf pa_nil h2) h1)) (pg_tup hc (pgs_cons gx (pgs_cons gy pgs_nil hy) hx) hn hst) hs hw hA) ?_
  refine ha.run σ ρ W _ _ S (fun v s W1 g1 k1 f1 q1 => ?_) h
  refine hb.run σ ρ W1 _ _ (S.step g1 k1) (fun u t W2 g2 k2 f2 q2 => ?_) q1
  refine ⟨by show 2 ≤ sizeLine; rw [sizeLine_eq]; decide, fun p hp => ⟨p, [v, u], rfl, .of upd_same, rfl, v, [u], rfl, u, [], rfl, rfl, ?_⟩⟩
  have gn := Go.new (o := .tup [v, u]) k2 hp
  exact lf.nx _ _ (W2.new p (.tup [v, u])) ((g1.trans g2).trans gn).s ((two_sat S g1 k1 f1 g2 k2 f2).step gn (Wok.new k2 hp)) q2⟩
theorem ds_asgV3 {i j l : Nat} {x y z : Str} {a b c : Expr} {wx wy wz : VW M} {px py pz pt : Pos} {kt k2 : Nat} {pt2 : Pos} (hc : C.X.calm = true) (gx : PG C.X (.Name x px) (gName i)) (gy : PG C.X (.Name y py) (gName j)) (gz : PG C.X (.Name z pz) (gName l)) (ha : DV C a wx) (hb : DV C b wy) (hcc : DV C c wz)
    (hw : swappedStores [.Tuple [.Name x px, .Name y py, .Name z pz] kt pt] (.Tuple [a, b, c] k2 pt2) C.X.env = pure none := by rfl) (hs : swapsWithSole [.Tuple [.Name x px, .Name y py, .Name z pz] kt pt] (.Tuple [a, b, c] k2 pt2) pos.line C.X.env = pure false := by rfl)
    (h1 : starEach [a, b, c] C.X.env = (false, eval a C.X.env) :: starEach [b, c] C.X.env := by rfl) (h2 : starEach [b, c] C.X.env = (false, eval b C.X.env) :: starEach [c] C.X.env := by rfl) (h3 : starEach [c] C.X.env = (false, eval c C.X.env) :: starEach [] C.X.env := by rfl)
    (hA : (assignEach [.Tuple [.Name x px, .Name y py, .Name z pz] kt pt] C.X.env).map (·.2) = [assign (.Tuple [.Name x px, .Name y py, .Name z pz] kt pt) C.X.env] := by rfl)
    (hn : (assignEach [.Name x px, .Name y py, .Name z pz] C.X.env).length = 3 := by rfl) (hst : (assignEach [.Name x px, .Name y py, .Name z pz] C.X.env).findIdx? (·.1) = none := by rfl)
    (hx : (assignEach [.Name x px, .Name y py, .Name z pz] C.X.env).map (·.2) = assign (.Name x px) C.X.env :: (assignEach [.Name y py, .Name z pz] C.X.env).map (·.2) := by rfl) (hy : (assignEach [.Name y py, .Name z pz] C.X.env).map (·.2) = assign (.Name y py) C.X.env :: (assignEach [.Name z pz] C.X.env).map (·.2) := by rfl)
    (hz : (assignEach [.Name z pz] C.X.env).map (·.2) = assign (.Name z pz) C.X.env :: (assignEach [] C.X.env).map (·.2) := by rfl) :
    DS C (.Assign [.Tuple [.Name x px, .Name y py, .Name z pz] kt pt] (.Tuple [a, b, c] k2 pt2) pos) (wPar3 i j l wx wy wz) := ⟨fun σ ρ W k E S lf h => by
  refine tsOf_of (ps_asg (pe_tup (pa_cons pe_tOf (pa_cons pe_tOf (pa_cons pe_tOf pa_nil h3) h2) h1)) (pg_tup hc (pgs_cons gx (pgs_cons gy (pgs_cons gz pgs_nil hz) hy) hx) hn hst) hs hw hA) ?_
  refine ha.run σ ρ W _ _ S (fun v s W1 g1 k1 f1 q1 => ?_) h
  refine hb.run σ ρ W1 _ _ (S.step g1 k1) (fun u t W2 g2 k2 f2 q2 => ?_) q1
  refine hcc.run σ ρ W2 _ _ (S.step (g1.trans g2) k2) (fun w r W3 g3 k3 f3 q3 => ?_) q2
  refine ⟨by show 3 ≤ sizeLine; rw [sizeLine_eq]; decide, fun p hp => ⟨p, [v, u, w], rfl, .of upd_same, rfl, v, [u, w], rfl, u, [w], rfl, w, [], rfl, rfl, ?_⟩⟩
  have gn := Go.new (o := .tup [v, u, w]) k3 hp
  exact lf.nx _ _ (W3.new p (.tup [v, u, w])) (((g1.trans g2).trans g3).trans gn).s ((three_sat S g1 k1 f1 g2 k2 f2 g3 k3 f3).step gn (Wok.new k3 hp)) q3⟩
end
section
variable {M : Ghost} {C : Ct M} {e : Expr}
@[simp] def wDead : EW M := fun _ _ _ => False
theorem de_dead : DE C e wDead := ⟨fun σ ρ W Q q S hQ hw => hw.elim⟩
end
end DL
set_option Elab.async false
set_option linter.all false
set_option maxRecDepth 100000
set_option maxHeartbeats 1000000
namespace DL
open PySem L2
section
variable {K : PySem.W.Frag} {F : Hp} {R : List Addr}
theorem rpa_erase : ∀ (m : Nat) {vs : List V} {ds : List D}, RpA K F R vs ds → RpA K F R (vs.eraseIdx m) (ds.eraseIdx m)
  | _, _, _, .nil => .nil
  | 0, _, _, .cons _ t => t
  | m + 1, _, _, .cons r t => .cons r (rpa_erase m t)
end
theorem seqIndex_nat {m n : Nat} (h : m < n) : seqIndex? (m : Int) n = some m := by
  unfold seqIndex?
  simp
  omega
section
variable {M : Ghost} {C : Ct M} {e : Expr} {we : EW M} {pos p1 p2 apos bpos cpos dpos : Pos}
@[simp] def wAppPop (i j : Nat) (we : EW M) : SW M := fun k ρ g => ∃ ds es, ρ[i]? = some (.own ds) ∧ ρ[j]? = some (.own es) ∧ we ρ g fun d g' => ∃ (m : Nat) (y : D), d = .int m ∧ m < 1000000 ∧ es[m]? = some y ∧ ds.length < sizeLine ∧ k.nx ((ρ.set j (.own (es.eraseIdx m))).set i (.own (ds ++ [y]))) g'
theorem ds_appPop {i j : Nat} {x y : Str} (hij : i ≠ j) (hv : PE C.X (.Name x p1) (tVar i)) (hv2 : PE C.X (.Name y p2) (tVar j)) (he : DE C e we) (hline : (apos.endLine == cpos.line) = true := by rfl) (hline2 : (bpos.endLine == dpos.line) = true := by rfl)
    (hs : swapsWith (.Call (.Attribute (.Name x p1) "append" apos) [.Call (.Attribute (.Name y p2) "pop" bpos) [e] [] dpos] [] cpos) none pos.line C.X.env = pure false := by rfl)
    (hst : starEach [.Call (.Attribute (.Name y p2) "pop" bpos) [e] [] dpos] C.X.env = (false, eval (.Call (.Attribute (.Name y p2) "pop" bpos) [e] [] dpos) C.X.env) :: starEach [] C.X.env := by rfl) (hst2 : starEach [e] C.X.env = (false, eval e C.X.env) :: starEach [] C.X.env := by rfl)
    (hbase : attributeBase (.Name x p1) "append" C.X.env (eval (.Name x p1) C.X.env) = eval (.Name x p1) C.X.env := by rfl) (hbase2 : attributeBase (.Name y p2) "pop" C.X.env (eval (.Name y p2) C.X.env) = eval (.Name y p2) C.X.env := by rfl)
    (hpl : (backTo cpos (starEach [] C.X.env)).any (·.1) = false := by rfl) (hpl2 : (backTo dpos (starEach [] C.X.env)).any (·.1) = false := by rfl)
    (hfew : ((backTo cpos (starEach [.Call (.Attribute (.Name y p2) "pop" bpos) [e] [] dpos] C.X.env)).all (fun x => !x.1) && (backToKw cpos (keywordEach [] C.X.env)).all (fun x => x.1.isSome) && decide ([Expr.Call (.Attribute (.Name y p2) "pop" bpos) [e] [] dpos].length + ([] : List Keyword).length + (if ([] : List Keyword).isEmpty then 0 else 1) < 30)) = true := by rfl)
    (hfew2 : ((backTo dpos (starEach [e] C.X.env)).all (fun x => !x.1) && (backToKw dpos (keywordEach [] C.X.env)).all (fun x => x.1.isSome) && decide ([e].length + ([] : List Keyword).length + (if ([] : List Keyword).isEmpty then 0 else 1) < 30)) = true := by rfl) :
    DS C (.Expr (.Call (.Attribute (.Name x p1) "append" apos) [.Call (.Attribute (.Name y p2) "pop" bpos) [e] [] dpos] [] cpos) pos) (wAppPop i j we) := ⟨fun σ ρ W k E S l h => by
  obtain ⟨ds, es, e0, e1, h⟩ := h
  obtain ⟨o, h1, p, vs, h2, h3, h4, h5, h6, r⟩ := S.sl i _ e0
  subst h2
  obtain ⟨o', h1', p', vs', h2', h3', h4', h5', h6', r'⟩ := S.sl j _ e1
  subst h2'
  have hne : p ≠ p' := fun z => hij (S.dis i j _ _ p e0 e1 rfl rfl h1 (by rw [z]; exact h1'))
  refine tsOf_of (ps_expr (pe_bm PySem.F.plainAttrs_list PySem.F.slot_list_append PySem.F.type_list_append mt_append hv (pa_cons (pe_bm PySem.F.plainAttrs_list PySem.F.slot_list_pop PySem.F.type_list_pop mt_popAt hv2 (pa_cons pe_tOf pa_nil hst2) hbase2 hfew2 hline2 hst2 hpl2) pa_nil hst) hbase hfew hline hst hpl) hs) ⟨.ref p, h1, .inl ⟨rfl, vs, .of h3⟩, ?_⟩
  refine ⟨.ref p', h1', .inl ⟨rfl, vs', .of h3'⟩, ?_⟩
  refine he.run σ ρ W _ _ S (fun v d W1 g1 k1 r1 q1 => ?_) h
  obtain ⟨m, yd, rfl, hm, hy, hlen, q2⟩ := q1
  cases r1
  have S1 := S.step g1 k1
  obtain ⟨o2, a1, q, ws, a2, a3, a4, a5, a6, ra⟩ := S1.sl i _ e0
  subst a2
  rw [h1] at a1
  cases a1
  obtain ⟨o3, b1, q', ws', b2, b3, b4, b5, b6, rb⟩ := S1.sl j _ e1
  subst b2
  rw [h1'] at b1
  cases b1
  obtain ⟨yv, hyv, ry⟩ := rb.get' hy
  have hml : m < ws'.length := (List.getElem?_eq_some_iff.mp hyv).1
  obtain ⟨S2, g2⟩ := S1.write e1 h1' (rpa_erase m rb)
  have e2 : (ρ.set j (.own (es.eraseIdx m)))[i]? = some (.own ds) := by rw [List.getElem?_set_ne (fun z => hij z.symm)]; exact e0
  obtain ⟨S3, g3⟩ := S2.write (es := ds ++ [yd]) (ws := ws ++ [yv]) e2 h1 (ra.append (.cons ry .nil))
  refine ⟨p', ws', (m : Int), m, yv, rfl, rfl, b3, by omega, by omega, seqIndex_nat hml, hyv, ?_⟩
  refine ⟨p, ws, yv, rfl, rfl, ?_, by rw [ra.length]; exact hlen, l.nx _ _ _ ((g1.s.trans g2).trans g3) S3 q2⟩
  show upd W1.H p' _ p = _
  rw [upd_ne hne]
  exact a3⟩
end
end DL
set_option Elab.async false
set_option linter.all false
set_option maxRecDepth 100000
set_option maxHeartbeats 1000000
namespace DL
open PySem L2
theorem starts_eq (a b : Str) : Txt.startswith a b = decide (a.cps.toList.take b.cps.toList.length = b.cps.toList) := by
  have la : a.cps.toList.length = a.length := Array.length_toList
  have lb : b.cps.toList.length = b.length := Array.length_toList
  unfold Txt.startswith
  rw [StrLaws.subAt_eq, List.drop_zero, lb]
  by_cases h : a.cps.toList.take b.length = b.cps.toList
  · have : b.length ≤ a.length := by
      have := congrArg List.length h
      rw [List.length_take] at this
      omega
    rw [decide_eq_true h, h, beq_self_eq_true, Bool.and_true]
    exact decide_eq_true (by omega)
  · rw [decide_eq_false h, show (a.cps.toList.take b.length == b.cps.toList) = false from beq_eq_false_iff_ne.mpr h, Bool.and_false]
section
variable {M : Ghost} {C : Ct M} {o e : Expr} {wo we : EW M} {apos pos : Pos}
@[simp] def wStarts (wo we : EW M) : EW M := fun ρ g q => wo ρ g fun d g1 => ∃ x, d = .str x ∧ we ρ g1 fun y g2 => ∃ z, y = .str z ∧ q (.bl (decide (x.take z.length = z))) g2
theorem de_starts (ho : DP C o wo) (he : DE C e we) (hbase : attributeBase o "startswith" C.X.env (eval o C.X.env) = eval o C.X.env := by rfl)
    (hfew : ((backTo pos (starEach [e] C.X.env)).all (fun x => !x.1) && (backToKw pos (keywordEach [] C.X.env)).all (fun x => x.1.isSome) && decide ([e].length + ([] : List Keyword).length + (if ([] : List Keyword).isEmpty then 0 else 1) < 30)) = true := by rfl)
    (hline : (apos.endLine == pos.line) = true := by rfl) (hs : starEach [e] C.X.env = [(false, eval e C.X.env)] := by rfl) (hpl : (backTo pos (starEach [] C.X.env)).any (·.1) = false := by rfl) :
    DE C (.Call (.Attribute o "startswith" apos) [e] [] pos) (wStarts wo we) := ⟨fun σ ρ W Q q S hQ hw =>
  tOf_of (pe_bm PySem.F.plainAttrs_str PySem.F.slot_str_startswith PySem.F.type_str_startswith mt_startswith pe_tOf (pa_cons pe_tOf pa_nil hs) hbase hfew hline hs hpl) (ho.run σ ρ W _ _ S (fun v d W1 g1 k1 r1 q1 => by
    obtain ⟨x, e1, q1⟩ := q1
    cases e1
    obtain ⟨z, rfl, e2⟩ := r1.str_inv
    refine ⟨rfl, he.run σ ρ W1 _ _ (S.step g1 k1) (fun u y W2 g2 k2 r2 q2 => ?_) q1⟩
    obtain ⟨b, rfl, q2⟩ := q2
    cases r2 with
    | str z2 x2 e5 =>
      refine ⟨z, z2, rfl, rfl, ?_⟩
      rw [starts_eq, e2, e5]
      exact hQ _ _ W2 (g1.trans g2) k2 (.bl _) q2) hw)⟩
end
end DL
set_option Elab.async false
set_option linter.all false
set_option maxRecDepth 100000
set_option maxHeartbeats 1000000
namespace DL
open PySem L2
section
variable {X : Cx}
def rSrtT (K : PySem.W.Frag) : List V → Hp → VK → Prop := fun vs H Q => ∃ (a : Addr) (ts : List Str), vs = [.ref a] ∧ SqT K H a (ts.map V.str) ∧
  ∀ (ys : List Str) (p : Addr), ys.Perm ts → ys.Pairwise (fun a b => ¬ b.cps.toList < a.cps.toList) → H p = none → Q (.ref p) (upd H p (.lst (ys.map V.str)))
theorem cr_srtT : CallR X (.builtin "sorted") (rSrtT X.K) := by
  intro pins s σ H vs us Q I r h
  obtain ⟨a, ts, rfl, ha, hq⟩ := h
  rw [Vals.ref1 r]
  obtain ⟨its, rv, ⟨o, e, c, n, d⟩, hz⟩ := I.tuple ha
  have ol : its.length ≤ sizeLine := by
    rw [← rv.length]
    exact hz
  have hS : PyProof.Rows.StrsAre its ts := rv.strs
  refine Calls.call_function_entry PyProof.Rows.kind_sorted PyProof.Rows.plain_sorted PyProof.Rows.entry_sorted (PyProof.Rows.args_sorted1 _) ?_
  unfold Builtin.«sorted»
  refine wpAny_bind (m := checkCount "sorted" 1 1 _) (wpAny_pure ?_)
  apply wpAny_bind
  refine wpAny_collect_seq a (.inr rfl) e c d (fun h' kp => ?_) (by rw [List.size_toArray]; exact ol)
  have J : Inv X pins σ H { s with heap := h' } := I.kept (t' := s.toks) kp
  have eo : its.toArray.toList = its := List.toList_toArray
  rw [eo]
  apply wpAny_bind
  refine wpAny_newList ?_ ol
  have new : (h'.push (PyProof.Rows.seqObj "list" its.toArray 0)).get? h'.objs.size = some (PyProof.Rows.seqObj "list" its.toArray 0) := Heap.get?_push_size _ rfl
  apply wpAny_bind
  apply wpAny_holding
  refine wpAny_call_entry PyProof.Rows.slot_list_sort ⟨_, new, rfl⟩ PyProof.Rows.entry_list_sort ?_ (PyProof.Rows.args_list_sort _)
  refine PyProof.Rows.list_sort_treeKAny PyProof.Rows.strKind_oneLt new hS.keysOf (fun v1 v2 rest e => PyProof.Rows.keyKind_strs (by rw [← e]; exact hS)) ol fun st h1 h2 => ⟨_, rfl, ?_⟩
  obtain ⟨ys, h3, h4, h5⟩ := PyProof.Rows.sorted_out_str hS h1 h2
  generalize ha' : Array.map (fun x => x.snd) (PyProof.Rows.arrOf st) = arr at h3
  obtain ⟨k, at_⟩ := PyProof.Rows.sortedHeap_at (vs := its) (out := arr) new
  have kp2 : ∀ b x, h'.get? b = some x → (PyProof.Rows.sortedHeap (h'.push (PyProof.Rows.seqObj "list" its.toArray 0)) h'.objs.size its arr).get? b = some x := fun b x e => by
    have lt := Heap.lt_size e
    rw [PyProof.Rows.sortedHeap_old (Nat.ne_of_lt lt) (by rw [PyProof.Rows.size_push']; exact Nat.lt_succ_of_lt lt)]
    exact Heap.get?_push_of_some _ e
  have wl : (ys.map V.str).length ≤ sizeLine := by
    rw [List.length_map, h4.length_eq]
    rw [List.length_map] at hz
    exact hz
  refine wpAny_pure ⟨_, rfl, .ref h'.objs.size, upd H h'.objs.size (.lst (ys.map V.str)), ?_, rfl, hq ys _ h4 (le_of_sortedS h5) (J.hok.fresh (Nat.le_refl _))⟩
  exact J.laid (t' := s.toks) kp2 (Nat.le_refl _) ⟨wl, arr.toList, k, vals_of_strs h3, at_⟩
end
section
variable {M : Ghost} {C : Ct M}
/-- a tuple of texts, sorted -/
def cSortedT (ds : List D) (q : List D → Prop) : Prop := ∃ xs : List (List Nat), ds = [.tup (xs.map D.str)] ∧ ∀ ys : List (List Nat), ys.Perm xs → ys.Pairwise (fun a b => ¬ b < a) → q (ys.map D.str)
theorem calln_sortedT : CallN C (.builtin "sorted") cSortedT := by
  refine ⟨_, cr_srtT, fun W vs ds Q q k r hQ h => ?_⟩
  obtain ⟨xs, rfl, h⟩ := h
  obtain ⟨v, rfl, r0⟩ := pair1 r
  obtain ⟨p, vs, rfl, hp, ra⟩ := r0.tup_inv
  obtain ⟨zs, rfl, rfl⟩ := ra.strs
  refine ⟨p, zs, rfl, same_tup k.sub hp, fun ys t hperm srt ht => ?_⟩
  refine hQ t _ _ (W.new t (.lst _)) (Go.new k ht) (k.new ht) rfl upd_same (k.noF ht) (k.noR ht) ht (strs_rpa ys) (h (ys.map fun y => y.cps.toList) (hperm.map _) ?_)
  rw [List.pairwise_map]
  exact srt
end
end DL
set_option Elab.async false
set_option linter.all false
set_option maxRecDepth 100000
set_option maxHeartbeats 1000000
namespace DL
open PySem L2
section
variable {M : Ghost} {C : Ct M} {o : Expr} {wo : EW M} {apos pos : Pos}
@[simp] def wUpper (wo : EW M) : EW M := fun ρ g q => wo ρ g fun d g1 => ∃ x : List Nat, d = .str x ∧ x.all (· < 128) = true ∧ x.length ≤ 1000000 ∧ q (.str (x.map PyProof.Rows.up1)) g1
theorem de_upper (ho : DE C o wo) (hbase : attributeBase o "upper" C.X.env (eval o C.X.env) = eval o C.X.env := by rfl) (hline : (apos.endLine == pos.line) = true := by rfl) :
    DE C (.Call (.Attribute o "upper" apos) [] [] pos) (wUpper wo) := ⟨fun σ ρ W Q q Sa hQ hw =>
  tOf_of (pe_upper pe_tOf hbase hline) (ho.run σ ρ W _ _ Sa (fun v d W1 g1 k1 r1 q1 => by
    obtain ⟨x, rfl, hx, hl, q1⟩ := q1
    cases r1 with
    | str z _ e2 =>
      have ez := eq_S e2
      have lz : z.length = x.length := by rw [← e2]; exact Array.length_toList.symm
      refine ⟨⟨z, rfl⟩, z, rfl, rfl, by omega, ?_⟩
      have eu : Txt.upper z = S (x.map PyProof.Rows.up1) := by rw [ez]; exact _root_.SX.upper_S hx
      rw [eu]
      exact hQ _ _ W1 g1 k1 (.str _ _ rfl) q1) hw)⟩
end
end DL
set_option Elab.async false
set_option linter.all false
set_option maxRecDepth 100000
set_option maxHeartbeats 1000000
namespace DL
open PySem L2 PySem.W
section
variable {prog : Program} {w : World} {A : Around} {E : Value → Shared → Prop} {s : Shared}
theorem code_tuple_strs {Q1 : Value → Shared → Prop} (hh : A.handled = none) (x : Str) (t : Tok) (hz : x.cps.size ≤ sizeLine)
    (h : ∀ (h' : Heap) (tk : Nat) (acc : Array Value), (∀ b o, s.heap.get? b = some o → h'.get? b = some o) → ItemsOf (SignAt x) acc x.cps.size → Q1 (.ref h'.objs.size) { s with heap := h'.push { cls := .type "tuple", data := .seq acc }, toks := tk }) :
    codeAny (model prog w) A (.call (.builtin "tuple.__new__") ⟨[.type "tuple", .str x t], []⟩) (wants Q1 E) s := by
  refine codeAny_of_tree ?_
  show wpAny _ A.in1 (do checkBuiltinCall "tuple.__new__" ⟨[.type "tuple", .str x t], []⟩; again (.builtin "tuple.__new__" ⟨[.type "tuple", .str x t], []⟩)) _ _ s
  refine wpAny_bind (wpAny_of_eq (F.newCall_tuple_1 _) (wpAny_pure ⟨plainId_quiet F.plain_tuple_new _, codeAny_builtin F.entry_tuple_new ?_⟩))
  rw [Around.under_plainId F.plain_tuple_new _]
  have hsub := sub_tuple_self
  have hinit := init_tuple_lookup
  have hmh := madeHere_tuple
  have hTI : s.TypeIs (.str x t) "str" := rfl
  have hh1 : A.in1.handled = none := hh
  wp_walk using wpAny_typeOf hTI, wpAny_collect_str (A := A.in1) (hn := hz) hh1 x t
  intro s' acc hk e1 e2 e3 hacc
  obtain ⟨hp, g, d, tk, os⟩ := s'
  obtain ⟨hp0, g0, d0, tk0, os0⟩ := s
  obtain rfl : g = g0 := e1
  obtain rfl : d = d0 := e2
  obtain rfl : os = os0 := e3
  show wpAny _ _ (Builtin.Tuple.tupleExact acc.toList.toArray >>= fun v => ret v) _ _ _
  unfold Builtin.Tuple.tupleExact
  refine wpAny_bind (wpAny_newObj_type ?_ (by show acc.toList.toArray.size ≤ sizeLine; simp only [Array.toArray_toList]; rw [hacc.1]; exact hz))
  refine wpAny_pure ?_
  have e : acc.toList.toArray = acc := by simp
  rw [e]
  exact h hp tk acc hk hacc
theorem callT_strs {Q : Value → Shared → Prop} (hh : A.handled = none) (x : Str) (t : Tok) (hz : x.cps.size ≤ sizeLine)
    (hQ : ∀ (h' : Heap) (tk : Nat) (acc : Array Value), (∀ b o, s.heap.get? b = some o → h'.get? b = some o) → ItemsOf (SignAt x) acc x.cps.size → Q (.ref h'.objs.size) { s with heap := h'.push { cls := .type "tuple", data := .seq acc }, toks := tk }) :
    wpAny (model prog w) A (call (.type "tuple") [.str x t]) Q E s := by
  refine callType_codes (Q₁ := fun obj s1 => s1.TypeIs obj "tuple" ∧ Q obj s1) F.called_tuple (F.typeCall_tuple_1 _) F.entry_object_init
    (code_tuple_strs (A := A.in1) hh x t hz fun h' tk acc hk hacc => ⟨⟨_, Heap.get?_push_size _ rfl, rfl⟩, hQ h' tk acc hk hacc⟩) fun obj s1 h1 => ?_
  exact ⟨h1.1, F.args_object_init_2 obj _, object_init_meets F.called_tuple.init.lookup F.called_tuple.made (by decide) prog w A.in1 _ s1 ⟨h1.1, rfl, h1.2⟩⟩
end
section
variable {X : Cx}
def rTupS : List V → Hp → VK → Prop := fun xs H Q => ∃ z : Str, xs = [.str z] ∧ z.length ≤ sizeLine ∧ ∀ l, H l = none → Q (.ref l) (upd H l (.tup (z.cps.toList.map fun c => V.str ⟨#[c]⟩)))
theorem call_tuple_strs (hc : X.calm = true) : CallR X (.type "tuple") rTupS := by
  intro pins s σ H xs us Q I r h
  obtain ⟨z, rfl, hz, q⟩ := h
  obtain ⟨u, rfl, rx⟩ := vals1 r
  obtain ⟨t, rfl⟩ := rx
  refine callT_strs (I.ok.hd hc) z t hz (fun h' tk acc' kp hacc => ?_)
  have rv : Vals (z.cps.toList.map fun c => V.str ⟨#[c]⟩) acc'.toList := by
    have := vals_signs (z := z) 0 acc'.toList (by have := hacc.1; simp at this ⊢; omega) (Nat.zero_le _) fun j v hv => by
      obtain ⟨c, u, e1, e2⟩ := hacc.2 j v (by simpa using hv)
      exact ⟨c, u, by simpa using e1, e2⟩
    simpa using this
  have I1 : Inv X pins σ H { s with heap := h', toks := tk } := I.kept (t' := tk) kp
  have I2 : Inv X pins σ (upd H h'.objs.size (.tup (z.cps.toList.map fun c => V.str ⟨#[c]⟩))) { s with heap := h'.push { cls := .type "tuple", data := .seq acc' }, toks := tk } :=
    I1.laid (t' := tk) (fun b o e => Heap.get?_push_of_some _ e) (Nat.le_refl _) (show ObjOk X.prog X.w _ _ _ (.tup (z.cps.toList.map fun c => V.str ⟨#[c]⟩)) from ⟨by rw [List.length_map, Array.length_toList]; exact hz, acc'.toList, rv, by simpa using PyProof.Rows.IsTup.new h' acc'⟩)
  exact ⟨.ref h'.objs.size, _, I2, rfl, q _ (I1.hok.fresh (Nat.le_refl _))⟩
end
section
variable {M : Ghost} {C : Ct M}
def cTupleX : List D → (D → Prop) → Prop
  | [.lst ds], q => q (.tup ds)
  | [.tup ds], q => q (.tup ds)
  | [.str x], q => x.length ≤ sizeLine ∧ q (.tup (x.map fun c => .str [c]))
  | _, _ => False
theorem calld_tupleX (hc : C.X.calm = true) : CallD C (.type "tuple") cTupleX := by
  refine ⟨_, call_tuple_of.or (call_tuple_strs hc), fun W vs ds Q q k r hQ h => ?_⟩
  obtain ⟨d, rfl⟩ := one_of h (fun _ h => h) (fun a _ _ _ h => by cases a <;> exact h)
  obtain ⟨v, rfl, r0⟩ := pair1 r
  cases d with
  | lst ds =>
    obtain ⟨p, vs, rfl, hp, np, ra⟩ := r0.lst_inv k
    exact .inl ⟨p, vs, rfl, .inl ⟨.of hp, fun t ht => hQ _ _ (W.lay t (.tup vs)) (Go.lay k ht) (k.lay ht) rfl (.tup (.of upd_same) (ra.mono (same_new (k.noF ht)) fun _ _ z => z)) h⟩⟩
  | tup ds =>
    obtain ⟨p, vs, rfl, hp, ra⟩ := r0.tup_inv
    exact .inl ⟨p, vs, rfl, .inr ⟨same_tup k.sub hp, hQ _ _ W (Go.refl W) k rfl (.tup hp ra) h⟩⟩
  | str x =>
    obtain ⟨z, rfl, rfl⟩ := r0.str_inv
    exact .inr ⟨z, rfl, by rw [str_len]; exact h.1, fun t ht => hQ _ _ (W.lay t (.tup (z.cps.toList.map fun c => V.str ⟨#[c]⟩))) (Go.lay k ht) (k.lay ht) rfl (.tup (.of upd_same) rpa_signs) h.2⟩
  | _ => exact h.elim
@[simp] theorem sm_tupleX1 {ds : List D} {q : D → Prop} : (cTupleX [.lst ds] q) = (q (.tup ds)) := rfl
@[simp] theorem sm_tupleX2 {ds : List D} {q : D → Prop} : (cTupleX [.tup ds] q) = (q (.tup ds)) := rfl
@[simp] theorem sm_tupleX3 {x : List Nat} {q : D → Prop} : (cTupleX [.str x] q) = (x.length ≤ sizeLine ∧ q (.tup (x.map fun c => .str [c]))) := rfl
end
end DL
set_option Elab.async false
set_option linter.all false
set_option maxRecDepth 100000
set_option maxHeartbeats 1000000
namespace DL
open PySem PySem.Spec PyProof.Rows L2
theorem picked_rev (n : Nat) : PySem.Builtin.Str.strSliceIndices none none (-1) n = (List.range n).reverse := by
  show sliceRange ((n : Int) - 1) (-1) (-1) = _
  rw [PySem.W.krv_sliceRange, PySem.W.krv_range]
theorem made_rev (x : Str) (uk : Tok) : Txt.sliceBy x none none (-1, uk) = ⟨x.cps.toList.reverse.toArray⟩ := by
  unfold Txt.sliceBy slicePicked
  rw [if_neg (by simp)]
  have : (List.range x.cps.size).filterMap (x.cps[·]?) = x.cps.toList := PySem.W.krv_all x.cps
  show Str.mk ((PySem.Builtin.Str.strSliceIndices none none (-1) x.length).filterMap (x.cps[·]?)).toArray = _
  rw [picked_rev, List.filterMap_reverse]
  show Str.mk (((List.range x.cps.size).filterMap (x.cps[·]?)).reverse).toArray = _
  rw [this]
def tRevS (te : TE) : TE := fun σ H Q => te σ H fun x H1 => ∃ z : Str, x = .str z ∧ z.length ≤ sizeLine ∧ Q (.str ⟨z.cps.toList.reverse.toArray⟩) H1
theorem pe_revS {X : Cx} {e : Expr} {te : TE} {k : Nat} {p1 p2 p3 pos : Pos} (he : PE X e te) : PE X (.Subscript e (.Slice none none (some (.UnaryOp .USub (.Constant (.int 1) k p1) p2)) p3) pos) (tRevS te) := by
  refine ⟨fun pins s σ H Q I h => ?_⟩
  refine Subscript_ (thn (he.run pins s σ H _ I h) fun v s1 ⟨x, H1, I1, r1, q1⟩ => ?_)
  obtain ⟨z, ex, hz, q⟩ := q1
  subst ex
  obtain ⟨t, rfl⟩ := r1
  have hst : PO X (some (.UnaryOp .USub (.Constant (.int 1) k p1) p2)) (tPart (tUn (rU fun i => .int (-i)) (tC (.int 1)))) := po_some (pe_un un_neg pe_int)
  refine wpAny_Slice (thn (po_none.run pins s1 σ H1 (fun o H2 => o = none ∧ H2 = H1) I1 ⟨rfl, rfl⟩) fun vl s2 ⟨l, H2, I2, pl, el, e2⟩ => ?_)
  subst el e2
  refine thn (po_none.run pins s2 σ H2 (fun o H3 => o = none ∧ H3 = H2) I2 ⟨rfl, rfl⟩) fun vu s3 ⟨u, H3, I3, pu, eu, e3⟩ => ?_
  subst eu e3
  refine thn (hst.run pins s3 σ H3 (fun o H4 => o = some (-1) ∧ H4 = H3) I3 ⟨1, rfl, -1, rfl, rfl, rfl⟩) fun vs s4 ⟨o, H4, I4, ps, eo, e4⟩ => ?_
  subst eo e4
  have I5 : Inv X pins σ H4 { s4 with heap := s4.heap.push { cls := .type "slice", data := .fields #[vl, vu, vs] } } := I4.kept (t' := s4.toks) fun b ob q => Heap.get?_push_of_some _ q
  show wpAny (model X.prog X.w) X.A (subscriptTail e (.Slice none none (some (.UnaryOp .USub (.Constant (.int 1) k p1) p2)) p3) (.str z t) (.ref s4.heap.objs.size)) (EP X pins σ Q) X.xe { s4 with heap := s4.heap.push { cls := .type "slice", data := .fields #[vl, vu, vs] } }
  cases pl
  cases pu
  obtain ⟨uk, rfl⟩ : ∃ uk, vs = .int (-1) uk := by
    cases ps with
    | _ => exact ⟨_, rfl⟩
  refine tail_any (ops := [.str z t, .ref s4.heap.objs.size]) (T := "str") (typeIs_str _ _ _) (F.slot_str_getitem.lookup) ?_ (by with_unfolding_all rfl)
  refine wpAny_getItem_str_slice (l := none) (u := none) (st := some (-1, uk)) ⟨_, Heap.get?_push_size _ rfl, rfl, rfl⟩ rfl (post_val_or_str ⟨?_, fun t' c => ?_⟩)
  · have e := made_rev z uk
    show (Txt.sliceBy z none none (-1, uk)).length ≤ sizeLine
    rw [e]
    show (z.cps.toList.reverse.toArray).size ≤ sizeLine
    have hz2 : z.cps.size ≤ sizeLine := hz
    simpa using hz2
  · have e := made_rev z uk
    show EP X pins σ Q (.str (Txt.sliceBy z none none (-1, uk)) t') _
    rw [e]
    exact ⟨.str ⟨z.cps.toList.reverse.toArray⟩, H4, I5.kept (t' := c) fun b ob q => q, ⟨_, rfl⟩, q⟩
section
variable {M : Ghost} {C : Ct M} {e : Expr} {we : EW M} {pos : Pos} {k1 : Nat} {p1 p2 p3 : Pos}
@[simp] def wRevS (we : EW M) : EW M := fun ρ g q => we ρ g fun d g' => ∃ x : List Nat, d = .str x ∧ x.length ≤ sizeLine ∧ q (.str x.reverse) g'
theorem de_revS (he : DE C e we) : DE C (.Subscript e (.Slice none none (some (.UnaryOp .USub (.Constant (.int 1) k1 p1) p2)) p3) pos) (wRevS we) := ⟨fun σ ρ W Q q S hQ hw =>
  tOf_of (pe_revS pe_tOf) (he.run σ ρ W _ _ S (fun v d W1 g1 k1 r1 q1 => by
    obtain ⟨x, rfl, hx, q1⟩ := q1
    cases r1 with
    | str z _ ez =>
      exact ⟨z, rfl, by rw [str_len, ez]; exact hx, hQ _ _ W1 g1 k1 (.str _ _ (by rw [← ez])) q1⟩) hw)⟩
end
/-- whether a text stands somewhere in another -/
def subB (x z : List Nat) : Bool := (List.range (z.length + 1)).any fun p => decide ((z.drop p).take x.length = x)
theorem found_sub (x z : Str) : (!(PySem.Builtin.Str.occurrences z x 0 z.length 1).isEmpty) = subB x.cps.toList z.cps.toList := by
  have la : z.cps.toList.length = z.length := Array.length_toList
  have lb : x.cps.toList.length = x.length := Array.length_toList
  rw [Bool.eq_iff_iff, StrLaws.found_iff]
  unfold subB
  rw [List.any_eq_true]
  constructor
  · rintro ⟨i, h1, h2⟩
    rw [StrLaws.subAt_eq] at h2
    refine ⟨i, List.mem_range.mpr (by omega), decide_eq_true ?_⟩
    rw [lb]
    exact eq_of_beq h2
  · rintro ⟨i, h1, h2⟩
    have h1 := List.mem_range.mp h1
    have h2 := of_decide_eq_true h2
    have h3 := congrArg List.length h2
    rw [List.length_take, List.length_drop] at h3
    refine ⟨i, by omega, ?_⟩
    rw [StrLaws.subAt_eq, ← lb]
    exact beq_iff_eq.mpr h2
section
variable {M : Ghost} {C : Ct M} {W W1 W2 W' : Wd M} {σ : L2.St} {ρ : DEnv} {e : Expr} {es : List Expr} {we : EW M} {pos : Pos}
def oInT (d e : D) (q : D → Prop) : Prop := ∃ x z : List Nat, d = .str x ∧ e = .str z ∧ q (.bl (subB x z))
def oNotInT (d e : D) (q : D → Prop) : Prop := ∃ x z : List Nat, d = .str x ∧ e = .str z ∧ q (.bl (!subB x z))
theorem opd_inT : OpD C (compareOp .In) oInT := by
  refine ⟨_, op_in_str, fun W x y d e Q q k r1 r2 hQ h => ?_⟩
  obtain ⟨a, b, rfl, rfl, h⟩ := h
  obtain ⟨z, rfl, e1⟩ := r1.str_inv
  obtain ⟨z2, rfl, e2⟩ := r2.str_inv
  refine ⟨z, z2, rfl, rfl, ?_⟩
  rw [found_sub, e1, e2]
  exact hQ _ _ W (Go.refl W) k rfl (.bl _) h
theorem opd_notInT : OpD C (compareOp .NotIn) oNotInT := by
  refine ⟨_, op_notin_str, fun W x y d e Q q k r1 r2 hQ h => ?_⟩
  obtain ⟨a, b, rfl, rfl, h⟩ := h
  obtain ⟨z, rfl, e1⟩ := r1.str_inv
  obtain ⟨z2, rfl, e2⟩ := r2.str_inv
  refine ⟨z, z2, rfl, rfl, ?_⟩
  rw [found_sub, e1, e2]
  exact hQ _ _ W (Go.refl W) k rfl (.bl _) h
@[simp] theorem sm_inT {x z : List Nat} {q : D → Prop} : (oInT (.str x) (.str z) q) = (q (.bl (subB x z))) := by
  refine propext ⟨?_, fun h => ⟨x, z, rfl, rfl, h⟩⟩
  rintro ⟨a, b, e1, e2, h⟩
  cases e1; cases e2; exact h
@[simp] theorem sm_notInT {x z : List Nat} {q : D → Prop} : (oNotInT (.str x) (.str z) q) = (q (.bl (!subB x z))) := by
  refine propext ⟨?_, fun h => ⟨x, z, rfl, rfl, h⟩⟩
  rintro ⟨a, b, e1, e2, h⟩
  cases e1; cases e2; exact h
end
end DL
set_option Elab.async false
set_option linter.all false
set_option maxRecDepth 100000
set_option maxHeartbeats 1000000
namespace DL
open PySem L2
theorem fnB_no {M : Ghost} {P : Program} {w : World} {K : PySem.W.Frag} {mg : Str → Option Value} {base : Heap} {x qual : Str} {st : Stmt} {f : Addr} {fd : FuncData} {k n : Nat} {ps : List Str} {sp : DSp M} (F : Fun K x qual st f fd) (g : mg x = some (.ref f)) (b : Binds K fd ps [])
    (h : ∀ ds g q ex, ¬ sp ds g q ex) : FnB P w K mg base k x ps (liftSp K mg n sp) :=
  ⟨f, fd, ⟨fun xs H Q E z => by
    obtain ⟨W, ds, q, ex, _, _, _, _, hsp, _⟩ := z
    exact (h _ _ _ _ hsp).elim, fun A fr s H as us xs Q E _ _ _ _ _ z => by
    obtain ⟨W, ds, q, ex, _, _, _, _, hsp, _⟩ := z
    exact (h _ _ _ _ hsp).elim⟩, g, F.kp, b⟩
end DL
set_option Elab.async false
set_option linter.all false
set_option maxRecDepth 100000
set_option maxHeartbeats 1000000
namespace DL
open PySem L2 PySem.W PySem.SeqAt
/-- a text and a number, by the text first -/
def ltTI (a : List Nat) (i : Int) (c : List Nat) (j : Int) : Bool := if a = c then decide (i < j) else decide (a < c)
theorem dataLt_ti (a c : Str) (i j : Int) : dataLt (.tuple [.str a, .int i]) (.tuple [.str c, .int j]) = ltTI a.cps.toList i c.cps.toList j := by
  rw [dataLt_tuple, ← firstLt_toks [.str a, .int i] [.str c, .int j] rfl]
  show firstLt _ _ _ [0, 1] = _
  unfold ltTI
  by_cases e : a = c
  · subst e
    rw [firstLt_yes (show pairEq [PyData.str a, .int i] [.str a, .int j] 0 = true by simp [pairEq, PyData.eqv]), if_pos rfl]
    by_cases h : i = j
    · subst h
      rw [firstLt_yes (show pairEq [PyData.str a, .int i] [.str a, .int i] 1 = true by simp [pairEq, PyData.eqv])]
      simp [firstLt]
    · rw [firstLt_no (show pairEq [PyData.str a, .int i] [.str a, .int j] 1 = false by simp [pairEq, PyData.eqv, h])]
      exact dataLt_int i j
  · rw [firstLt_no (show pairEq [PyData.str a, .int i] [.str c, .int j] 0 = false by simp [pairEq, PyData.eqv, e]), if_neg (fun z => e (by cases a; cases c; congr 1; exact Array.toList_inj.mp z))]
    exact dataLt_str a c
section
variable {X : Cx}
def rLtTI (K : PySem.W.Frag) : R2 := fun x y H Q => ∃ p q a i c j, x = .ref p ∧ y = .ref q ∧ SqT K H p [.str a, .int i] ∧ SqT K H q [.str c, .int j] ∧ Q (.bl (ltTI a.cps.toList i c.cps.toList j)) H
theorem ti_reads {h : Heap} {p : Addr} {its : Array Value} {a : Str} {i : Int} (ht : PyProof.Rows.IsTup h p its) (r : Vals [.str a, .int i] its.toList) : ∃ as, Reads h (.ref p) (.tuple [.str a, .int i]) as := by
  obtain ⟨o, e, hc, n, hd⟩ := ht
  match hl : its.toList, r with
  | [u, v], .cons ⟨t1, e1⟩ (.cons ⟨t2, e2⟩ .nil) =>
    have q := ReadsAll.cons (Reads.str (h := h) a t1) (ReadsAll.cons (Reads.int (h := h) i t2) ReadsAll.nil)
    have hl2 : its.toList = [.str a t1, .int i t2] := by rw [hl, e1, e2]
    exact ⟨_, Reads.tuple e hc hd (by rw [hl2]; exact q)⟩
theorem op_ltTI (hu : X.A.units + 64 < cLine) : OpR X (compareOp .Lt) (rLtTI X.K) := by
  intro pins s σ H x y v u Q I rx ry h
  obtain ⟨p, q, a, i, c, j, rfl, rfl, h1, h2, hq⟩ := h
  cases rx
  cases ry
  obtain ⟨its, r1, p1, _⟩ := I.tuple h1
  obtain ⟨its2, r2, p2, _⟩ := I.tuple h2
  obtain ⟨as, ra⟩ := ti_reads p1 r1
  obtain ⟨bs, rb⟩ := ti_reads p2 r2
  refine lt_data ra rb rfl (fun z => nomatch z) ?_ ?_
  · show X.A.units + min (PyData.depth (.tuple [.str a, .int i])) _ < cLine
    simp only [PyData.depth, PyData.depthAll]
    omega
  · rw [dataLt_ti]
    exact ⟨.bl _, H, I, rfl, hq⟩
end
section
variable {M : Ghost} {C : Ct M}
def oLtTI : D → D → (D → Prop) → Prop := fun d e q => ∃ a i c j, d = .tup [.str a, .int i] ∧ e = .tup [.str c, .int j] ∧ q (.bl (ltTI a i c j))
theorem ti_inv {K : PySem.W.Frag} {W : Wd M} {x : V} {a : List Nat} {i : Int} (r : RdP K W x (.tup [.str a, .int i])) : ∃ p z, x = .ref p ∧ SqT K W.F p [.str z, .int i] ∧ z.cps.toList = a := by
  obtain ⟨p, vs, rfl, hp, ra⟩ := r.tup_inv
  cases ra with
  | cons r1 t =>
    cases t with
    | cons r2 t =>
      cases t
      cases r1 with
      | str z _ hz =>
        cases r2
        exact ⟨p, z, rfl, hp, hz⟩
theorem opd_ltTI (hu : C.X.A.units + 64 < cLine) : OpD C (compareOp .Lt) oLtTI := by
  refine ⟨_, op_ltTI hu, fun W x y d e Q q k r1 r2 hQ h => ?_⟩
  obtain ⟨a, i, c, j, rfl, rfl, hq⟩ := h
  obtain ⟨p, z1, rfl, h1, rfl⟩ := ti_inv r1
  obtain ⟨p2, z2, rfl, h2, rfl⟩ := ti_inv r2
  exact ⟨p, p2, z1, i, z2, j, rfl, rfl, same_tup k.sub h1, same_tup k.sub h2, hQ _ _ W (Go.refl W) k rfl (.bl _) hq⟩
@[simp] theorem sm_ltTI {a c : List Nat} {i j : Int} {q : D → Prop} : oLtTI (.tup [.str a, .int i]) (.tup [.str c, .int j]) q = q (.bl (ltTI a i c j)) := by
  refine propext ⟨fun h => ?_, fun h => ⟨a, i, c, j, rfl, rfl, h⟩⟩
  obtain ⟨_, _, _, _, e1, e2, h⟩ := h
  cases e1; cases e2; exact h
/-- divmod -/
def cDivmod (ds : List D) (q : D → Prop) : Prop := ∃ i j : Int, ds = [.int i, .int j] ∧ CDiv i j ∧ q (.tup [.int (i / j), .int (i % j)])
theorem calld_divmod : CallD C (.builtin "divmod") cDivmod := by
  refine ⟨_, call_divmod, fun W vs ds Q q k r hQ h => ?_⟩
  obtain ⟨i, j, rfl, hc, h⟩ := h
  obtain ⟨v, v', rfl, r1, r2⟩ := pair2 r
  refine ⟨i, j, by rw [r1.int_inv, r2.int_inv], hc, fun t ht => hQ _ _ (W.lay t (.tup [.int (i / j), .int (i % j)])) (Go.lay k ht) (k.lay ht) rfl (.tup (.of upd_same) (.cons (.int _) (.cons (.int _) .nil))) h⟩
@[simp] theorem sm_divmod {i j : Int} {q : D → Prop} : cDivmod [.int i, .int j] q = (CDiv i j ∧ q (.tup [.int (i / j), .int (i % j)])) := by
  refine propext ⟨fun h => ?_, fun h => ⟨i, j, rfl, h.1, h.2⟩⟩
  obtain ⟨_, _, e, h1, h2⟩ := h
  cases e
  exact ⟨h1, h2⟩
/-- a, b = a list -/
def gwTL (n : Nat) (w : GWs) : GW := fun d ρ q => match d with
  | .lst ds => ds.length = n ∧ w ds ρ q
  | _ => False
theorem dg_lst {is : List Nat} {ts : List Expr} {kk n : Nat} {gs : GWs} {pos : Pos} (hc : C.X.calm = true) (h : DGs C is ts gs) (hn : (assignEach ts C.X.env).length = n := by rfl) (hst : (assignEach ts C.X.env).findIdx? (·.1) = none := by rfl) :
    DG C is (.Tuple ts kk pos) (gwTL n gs) := ⟨fun σ ρ W v d Q q S r hQ hw => by
  cases d with
  | lst ds =>
    cases r with
    | lst hs r2 => exact tgOf_of (pg_unl hc pgs_tOf hn hst) ⟨_, _, rfl, .of (S.ok.sub _ _ hs), by rw [r2.length]; exact hw.1, h.run σ ρ W _ ds _ _ S r2 hQ hw.2⟩
  | _ => exact hw.elim⟩
end
end DL
set_option Elab.async false
set_option linter.all false
set_option maxRecDepth 100000
set_option maxHeartbeats 1000000
namespace DL
open PySem L2
section
variable {P : Program} {w : World} {K : PySem.W.Frag} {mg : Str → Option Value} {base : Heap}
/-- its promise, by all that is given -/
def FnGR (P : Program) (w : World) (K : PySem.W.Frag) (mg : Str → Option Value) (base : Heap) (k : Nat) (f : Addr) (sp : Sp) : Prop :=
  ∀ (A : Around) (fr : List Env) (s : Shared) (H : Hp) (us : List Value) (xs : List V) (Q : VK) (E : XK), Room k A → A.guards = some [] →
    Env0 P w K mg base A fr s H → Vals xs us → sp xs H Q E → codeAny (model P w) A (.call (.ref f) ⟨us, []⟩) (CR (L2.CX P w) fr P w H s Q E) s
def liftSt {M : Ghost} (K : PySem.W.Frag) (sp : DSp M) : Sp := fun vs H Q E => ∃ (W : Wd M) (ds : List D) (q : D → M.G → Prop) (ex : Exn → M.G → Prop), W.H = H ∧ Wok K W ∧ RpA K W.F W.R vs ds ∧ ds.length ≤ sizeLine ∧ sp ds W.g q ex ∧
  (∀ v d W', Go W W' → Wok K W' → Rp K W'.F W'.R v d → q d W'.g → Q v W'.H) ∧ ∀ cls d H', EXk K W ex cls d H' → E cls d H'
structure FnSB (P : Program) (w : World) (K : PySem.W.Frag) (mg : Str → Option Value) (base : Heap) (k : Nat) (x : Str) (sp : Sp) : Prop where
  ex : ∃ f : Addr, FnGR P w K mg base k f sp ∧ mg x = some (.ref f) ∧ PySem.W.keepIn K (.ref f) = true
theorem fnSB_of {x qual : Str} {st : Stmt} {f : Addr} {fd : FuncData} {k : Nat} {sp : Sp} (F : Fun K x qual st f fd) (g : mg x = some (.ref f)) (G : FnGR P w K mg base k f sp) : FnSB P w K mg base k x sp := ⟨f, G, g, F.kp⟩
theorem star_binds {x qual pv : Str} {st : Stmt} {f : Addr} {fd : FuncData} (F : Fun K x qual st f fd)
    (h0 : ∀ (kV doc pm : Value) (an : Option Addr) (cdv ct : Value), bindArgs (PySem.W.fnOf x qual (defArgs st) (defBody st) (defScope st) .none kV doc pm an cdv ct) ⟨[], []⟩ = (newTuple [] >>= fun t => pure [(pv, t)]))
    (h1 : ∀ (kV doc pm : Value) (an : Option Addr) (cdv ct : Value) (u : Value) (us : List Value), bindArgs (PySem.W.fnOf x qual (defArgs st) (defBody st) (defScope st) .none kV doc pm an cdv ct) ⟨u :: us, []⟩ = (newTuple (u :: us) >>= fun t => pure [(pv, t)])) (us : List Value) :
    bindArgs fd ⟨us, []⟩ = (newTuple us >>= fun t => pure [(pv, t)]) := by
  obtain ⟨_, _, kV, doc, pm, an, cdv, ct, _, rfl, _, _⟩ := F.ex
  match us with
  | [] => exact h0 kV doc pm an cdv ct
  | u :: us => exact h1 kV doc pm an cdv ct u us
theorem fnS_star {x qual pv : Str} {st : Stmt} {f : Addr} {fd : FuncData} {N : List Str} {k : Nat} {sp : DSp stg} {wb : (Exn → stg.G → Prop) → SW stg} (F : Fun K x qual st f fd) (Sc : FnScope N [pv] (defScope st))
    (hb : ∀ us : List Value, bindArgs fd ⟨us, []⟩ = (newTuple us >>= fun t => pure [(pv, t)]))
    (hbody : ∀ (cdv : Value) (A : Around) (outer : List Env) (s : Shared) (H : Hp) (E : XK) (W0 : Wd stg) (EX : Exn → stg.G → Prop), Room k (A.deeper (PyProof.Rows.envOfC qual (defScope st) s.heap.objs.size f cdv)) → A.guards = some [] →
      TakesD (M := stg) ⟨cxOf (L2.CX P w) P w K mg base N qual (defScope st) f cdv A outer s H E, W0, xk EX, W0⟩ → DSs (M := stg) ⟨cxOf (L2.CX P w) P w K mg base N qual (defScope st) f cdv A outer s H E, W0, xk EX, W0⟩ (defBody st) (wb EX))
    (hpure : ∀ (ds : List D) (g : Nat) (q : D → Nat → Prop) (ex : Exn → Nat → Prop), ds.length ≤ sizeLine → sp ds g q ex → wb ex (kEndS q) (startD N [.tup ds]) g) :
    FnGR P w K mg base (k + 1) f (liftSt K sp) := by
  obtain ⟨oc, od, kV, doc, pm, an, cdv, ct, osl, rfl, lk, hcd⟩ := F.ex
  intro A outer s H us vs Q E hr hgd e0 rv hsp
  obtain ⟨W, ds, q, ex, rfl, ok, rp, hl, hsp, hQ, hE⟩ := hsp
  have hn : W.H s.heap.objs.size = none := e0.hok.fresh (Nat.le_refl _)
  have l1 := rv.length
  have l2 := rp.length
  refine StX.run_bnd (ps := [pv]) (G := fun xs H2 => ∃ p, W.H p = none ∧ xs = [V.ref p] ∧ H2 = upd W.H p (.tup vs)) lk hcd Sc hr e0 (fun A' Ex Q' z => ?_) fun s2 H2 xs hx hr' => ?_
  · rw [hb us]
    refine wpAny_bind (wpAny_newTuple (wpAny_pure ?_) (by omega))
    have nw : ObjOk P w (upd W.H s.heap.objs.size (.tup vs))
        (s.heap.push ({ cls := .type "tuple", data := .seq us.toArray } : Obj)) s.heap.objs.size (.tup vs) :=
      ⟨by omega, us, rv, ⟨_, Heap.get?_push_size _ rfl, rfl, _, rfl⟩⟩
    have un := StX.un_laid (fs := frs outer) (s := s)
      (o := ({ cls := .type "tuple", data := .seq us.toArray } : Obj)) (u := .tup vs) hn
    exact z _ _ [V.ref _] [Value.ref _] (StX.env0_laid e0 nw) un rfl (fun e s' => StX.cxUp outer s _ _ _ E e s' un (fun b o h => Heap.get?_push_of_some _ h) rfl) (.cons rfl .nil) rfl ⟨_, hn, rfl, rfl⟩
  · obtain ⟨p, hp, rfl, rfl⟩ := hx
    have g1 : Go W (W.lay p (.tup vs)) := Go.lay ok hp
    have k1 := ok.lay (o := .tup vs) hp
    have tk : TakesD (M := stg) ⟨cxOf (L2.CX P w) P w K mg base N qual (defScope st) f cdv A outer s2 (upd W.H p (.tup vs)) E, W.lay p (.tup vs), xk ex, W.lay p (.tup vs)⟩ := fun u s' x =>
      takes_of (X := cxOf (L2.CX P w) P w K mg base N qual (defScope st) f cdv A outer s2 (upd W.H p (.tup vs)) E) rfl rfl rfl rfl u s' (by
        obtain ⟨a, B, sI, pins, σ, H, cls, d, e, I, nb, up, sky, na, os, ag, x, ρ, W', z1, z2, z3, z4⟩ := x
        exact ⟨a, B, sI, pins, σ, H, cls, d, e, I, nb, up, sky, na, os, ag, hE _ _ _ ⟨x, W', z1, g1.trans z2.go, z2.ok, z3, z4⟩⟩)
    refine ⟨_, pss_tOf, ?_⟩
    refine (hbody cdv A outer s2 _ E (W.lay p (.tup vs)) ex hr' hgd tk).run _ _ (W.lay p (.tup vs)) (kEndS q) _ (sat_start k1 rfl rfl (.cons (.tup (.of upd_same) (rp.mono (same_new (ok.noF hp)) fun _ _ z => z)) .nil)) ⟨fun σ' ρ' W' g S' h => ?_, fun v d W' g k r h => ?_, fun _ _ _ _ _ h => h.elim, fun _ _ _ _ _ h => h.elim⟩ (hpure ds W.g q ex (by omega) hsp)
    · obtain ⟨n, hn, h⟩ := h
      exact hQ .non .non ({ W' with g := n } : Wd stg) ((g1.trans S'.go).trans (go_more (n := n))) (wok_more S'.ok hn) .non h
    · obtain ⟨n, hn, h⟩ := h
      exact hQ v d ({ W' with g := n } : Wd stg) ((g1.trans g).trans (go_more (n := n))) (wok_more k hn) r h
end
section
variable {X : Cx} {k : Nat} {f : Addr} {sp : Sp} {E : L2.St → XK} {x : Str} {p pos : Pos} {e : Expr} {es : List Expr} {t : TA}
theorem run_fngr {pins : List (Addr × Obj)} {σ : L2.St} {H : Hp} {s : Shared} {Q : VK} {us : List Value} {xs : List V} (F : FnGR X.prog X.w X.K X.mg X.base k f sp) (gd : X.A.guards = some []) (room : Room k X.A)
    (hx : ∀ σ, PassesAt (L2.CX X.prog X.w) X σ (E σ)) (I : Inv X pins σ H s) (rel : Vals xs us) (want : sp xs H Q (E σ)) : wpAny (model X.prog X.w) X.A (call (.ref f) us) (EP X pins σ Q) X.xe s := by
  refine wpAny_call (codeAny_mono (F X.A X.stack s H us xs Q (E σ) room gd I.env0 rel want) fun r s2 hq => ?_)
  match r, hq with
  | .error er, hq => exact hx σ pins H s er s2 I hq
  | .ok (.ret u), hq => exact I.after hq
  | .ok .next, hq => exact False.elim hq
  | .ok .brk, hq => exact False.elim hq
  | .ok .cont, hq => exact False.elim hq
theorem pe_callGR (F : FnGR X.prog X.w X.K X.mg X.base k f sp) (gd : X.A.guards = some []) (room : Room k X.A) (hg : Gl X x) (hm : X.mg x = some (.ref f)) (hk : PySem.W.keepIn X.K (.ref f) = true) (hx : ∀ σ, PassesAt (L2.CX X.prog X.w) X σ (E σ))
    (ha : PA X (e :: es) t) (hdb : (x == ("__debug__" : Str)) = false := by decide) (he : starEach (e :: es) X.env = (false, eval e X.env) :: starEach es X.env := by rfl) (hpl : (backTo pos (starEach es X.env)).any (·.1) = false := by rfl) :
    PE X (.Call (.Name x p) (e :: es) [] pos) (tCallG sp E t) := ⟨fun pins s σ H Q I h =>
  wpAny_Call_Name_kw (ld_glob I hg hm (PySem.W.callWith_K (h₀ := X.base) I.ok.mod.kin hk (thn (ha.run pos pins s σ H _ I h) fun us s1 ⟨xs, H1, I1, rel, want⟩ => ⟨I1.kIn, run_fngr F gd room hx I1 rel want⟩) he hpl) hdb)⟩
theorem pe_callGR0 (F : FnGR X.prog X.w X.K X.mg X.base k f sp) (gd : X.A.guards = some []) (room : Room k X.A) (hg : Gl X x) (hm : X.mg x = some (.ref f)) (hk : PySem.W.keepIn X.K (.ref f) = true) (hx : ∀ σ, PassesAt (L2.CX X.prog X.w) X σ (E σ))
    (hdb : (x == ("__debug__" : Str)) = false := by decide) : PE X (.Call (.Name x p) [] [] pos) (fun σ H Q => sp [] H Q (E σ)) := ⟨fun pins s σ H Q I h =>
  wpAny_Call_Name_kw (ld_glob I hg hm (PySem.W.callWith_K0 I.kIn hk (run_fngr (us := []) F gd room hx I .nil h)) hdb)⟩
end
section
variable {M : Ghost} {C : Ct M} {W W1 W2 W' : Wd M} {σ : L2.St} {ρ : DEnv} {e : Expr} {es : List Expr} {we : EW M} {pos p : Pos} {wa : AW M}
@[simp] def wCallS (sp : DSp M) (wa : AW M) (EX : Exn → DEnv → M.G → Prop) : EW M := fun ρ g q => wa ρ g fun ds g' => ds.length ≤ sizeLine ∧ sp ds g' q fun x g2 => EX x ρ g2
theorem de_callS {k : Nat} {sp : DSp M} {x : Str} (F : FnSB C.X.prog C.X.w C.X.K C.X.mg C.X.base k x (liftSt C.X.K sp)) (hgd : C.X.A.guards = some []) (hr : Room k C.X.A) (tk : TakesD C) (ha : DA C (e :: es) wa)
    (hg : Gl C.X x := by rfl) (hdb : (x == ("__debug__" : Str)) = false := by decide) (he : starEach (e :: es) C.X.env = (false, eval e C.X.env) :: starEach es C.X.env := by rfl) (hpl : (backTo pos (starEach es C.X.env)).any (·.1) = false := by rfl) :
    DE C (.Call (.Name x p) (e :: es) [] pos) (wCallS sp wa C.EX) := ⟨fun σ ρ W Q q S hQ hw => by
  obtain ⟨f, F, hm, hk⟩ := F.ex
  exact tOf_of (pe_callGR (E := fun σ => EXs C σ) F hgd hr hg hm hk (fun σ => passAt tk σ) pa_tOf hdb he hpl) (ha.run σ ρ W _ _ S (fun vs ds W1 g1 k1 r1 q1 =>
    ⟨W1, ds, q, fun x g => C.EX x ρ g, rfl, k1, r1, q1.1, q1.2, fun v d W2 g2 k2 r2 q2 => hQ v d W2 (g1.trans g2) k2 r2 q2, fun cls d H' h => exs_of (S.step g1 k1) (fun _ _ z => z) h⟩) hw)⟩
theorem de_callS0 {k : Nat} {sp : DSp M} {x : Str} (F : FnSB C.X.prog C.X.w C.X.K C.X.mg C.X.base k x (liftSt C.X.K sp)) (hgd : C.X.A.guards = some []) (hr : Room k C.X.A) (tk : TakesD C)
    (hg : Gl C.X x := by rfl) (hdb : (x == ("__debug__" : Str)) = false := by decide) :
    DE C (.Call (.Name x p) [] [] pos) (wCallS sp wANil C.EX) := ⟨fun σ ρ W Q q S hQ hw => by
  obtain ⟨f, F, hm, hk⟩ := F.ex
  exact tOf_of (pe_callGR0 (E := fun σ => EXs C σ) F hgd hr hg hm hk (fun σ => passAt tk σ) hdb)
    ⟨W, [], q, fun x g => C.EX x ρ g, rfl, S.ok, .nil, hw.1, hw.2, fun v d W2 g2 k2 r2 q2 => hQ v d W2 g2 k2 r2 q2, fun cls d H' h => exs_of S (fun _ _ z => z) h⟩⟩
end

section
variable {X : Cx} {pos : Pos}
theorem pgs_star {e : Expr} {es : List Expr} {t : TG} {u : TGs} {sp : Pos} (h1 : PG X e t) (h2 : PGs X es u) : PGs X (.Starred e sp :: es) (gCons t u) := by
  refine ⟨fun pins s σ H vs us Q I r h => ?_⟩
  obtain ⟨v, vr, rfl, h⟩ := h
  cases r with
  | cons r rr =>
    show wpAny _ _ (assignInOrder (assign e X.env :: (assignEach es X.env).map (·.2)) _) _ _ s
    exact PyProof.Rows.assignInOrder_cons (thn (h1.run pins s σ H _ _ _ I r h) fun _ s1 ⟨σ1, H1, I1, q1⟩ => h2.run pins s1 σ1 H1 _ _ Q I1 rr q1)
/-- the first item, and a new list of the others -/
def gHead (K : PySem.W.Frag) (t : TGs) : TG := fun v σ H Q => ∃ a x xs, v = .ref a ∧ SqT K H a (x :: xs) ∧ xs.length ≤ 10000 ∧ ∀ p, H p = none → t [x, .ref p] σ (upd H p (.lst xs)) Q
theorem pg_head {es : List Expr} {k : Nat} {t : TGs} (hc : X.calm = true) (h : PGs X es t) (hn : (assignEach es X.env).length = 2 := by rfl) (hst : (assignEach es X.env).findIdx? (·.1) = some 1 := by rfl) :
    PG X (.Tuple es k pos) (gHead X.K t) := by
  refine ⟨fun pins s σ H v u Q I r hw => ?_⟩
  obtain ⟨a, x, xs, rfl, hq, hl, hw⟩ := hw
  cases r
  obtain ⟨its, rv, ht, hz⟩ := I.tuple hq
  cases rv with
  | cons rx rxs =>
    rename_i ux uxs
    have hh := I.ok.hd hc
    have la : a < s.heap.objs.size := by obtain ⟨o, ho, _⟩ := ht; exact Heap.lt_size ho
    have len := rxs.length
    rw [PyProof.Rows.assign_Tuple]
    refine wpAny_bind (wpAny_standAt ?_)
    unfold unpack
    rw [hn, hst]
    refine wpAny_bind (wpAny_holding ?_)
    unfold unpackItems notIterableAtAll
    refine wpAny_bind (wpAny_bind (wpAny_specialOf ht.typeIs PySem.F.slot_tuple_iter.lookup (wpAny_pure ?_)))
    simp only [Bool.false_eq_true, if_false]
    have la2 : a ≠ s.heap.objs.size := Nat.ne_of_lt la
    have tp := ht.push (o := ({ cls := .type "tuple_iterator", data := .fields #[.ref a, .int 0 0] } : Obj))
    refine wpAny_bind (wpAny_holding (PyProof.Rows.iter_tuple ht ?_))
    refine wpAny_bind (wpAny_holding (PyProof.Rows.draw_tuple la2 1 0 _ _ ⟨_, Heap.get?_push_size _ rfl, rfl, rfl⟩ tp (by simp) fun h1 it1 same1 => ?_))
    have tp1 := tp.extBut same1.extBut la2
    have e0 : List.take 1 (List.drop 0 (ux :: uxs).toArray.toList) = [ux] := rfl
    rw [e0, if_neg (by simp)]
    obtain ⟨oi, hoi, _⟩ := id it1
    obtain ⟨ol, hol, _⟩ := id tp1
    refine wpAny_bind (wpAny_holding (PySem.W.kun_collect (s := { s with heap := h1 }) (items := (ux :: uxs).toArray) (k := 1) (T := "tuple_iterator") (.inr (.inr (.inr rfl)))
      (Walks.tuple (A := X.A.in1) hh s.heap.objs.size a la2 (ux :: uxs).toArray) (fun j u st => st.1.typeIs) (by simp) ⟨it1, tp1⟩ (Heap.lt_size hoi) (Heap.lt_size hol) (fun h2 tk hk => ?_) (by rw [List.size_toArray, List.length_cons, ← len, sizeLine_eq]; omega)))
    have e1 : List.drop 1 (ux :: uxs).toArray.toList = uxs := rfl
    rw [e1]
    have e2 : uxs.length - (2 - 1 - 1) = uxs.length := rfl
    rw [e2, List.take_length, List.drop_length, if_neg (Nat.not_lt_zero _)]
    refine wpAny_bind (wpAny_newList (wpAny_pure ?_) (by rw [← len, sizeLine_eq]; omega))
    have I1 : Inv X pins σ H { s with heap := h2, toks := tk } := I.kept (t' := tk) fun b o e => hk b o (Nat.ne_of_lt (Heap.lt_size e)) (same1.extBut b o (Nat.ne_of_lt (Heap.lt_size e)) (Heap.get?_push_of_some _ e))
    have hf : H h2.objs.size = none := I1.hok.fresh (Nat.le_refl _)
    have I2 := I1.laid (o := .lst xs) (t' := tk) (h' := h2.push ({ cls := .type "list", data := .seq uxs.toArray } : Obj)) (fun b u e => Heap.get?_push_of_some _ e) (Nat.le_refl _) ⟨by rw [sizeLine_eq]; omega, uxs, 0, rxs, Heap.get?_push_size _ rfl⟩
    exact h.run pins _ σ _ [x, .ref h2.objs.size] [ux, .ref h2.objs.size] Q I2 (.cons rx (.cons rfl .nil)) (hw _ hf)
end

section
variable {M : Ghost} {C : Ct M} {e : Expr} {we : EW M} {pos : Pos}
@[simp] def wHead (i j : Nat) (we : EW M) : SW M := fun k ρ g => we ρ g fun d g' => ∃ x xs, d = .tup (x :: xs) ∧ xs.length ≤ 10000 ∧ k.nx ((ρ.set i (.im x)).set j (.im (.lst xs))) g'
theorem ds_head {i j kk : Nat} {x y : Str} {px py sp tpos : Pos} (hc : C.X.calm = true) (g1 : PG C.X (.Name x px) (gName i)) (g2 : PG C.X (.Name y py) (gName j)) (he : DE C e we)
    (hs : swapsWithSole [.Tuple [.Name x px, .Starred (.Name y py) sp] kk tpos] e pos.line C.X.env = pure false := by rfl) (hw : swappedStores [.Tuple [.Name x px, .Starred (.Name y py) sp] kk tpos] e C.X.env = pure none := by rfl)
    (h1 : (assignEach [.Tuple [.Name x px, .Starred (.Name y py) sp] kk tpos] C.X.env).map (·.2) = [assign (.Tuple [.Name x px, .Starred (.Name y py) sp] kk tpos) C.X.env] := by rfl) :
    DS C (.Assign [.Tuple [.Name x px, .Starred (.Name y py) sp] kk tpos] e pos) (wHead i j we) := ⟨fun σ ρ W k E S l h =>
  tsOf_of (ps_asg pe_tOf (pg_head hc (pgs_cons g1 (pgs_star g2 pgs_nil))) hs hw h1) (he.run σ ρ W _ _ S (fun v d W1 ga k1 r1 q1 => by
    obtain ⟨x, xs, rfl, hl, q⟩ := q1
    cases r1 with
    | tup hq r =>
      cases r with
      | cons rx rxs =>
        rename_i vx vxs
        refine ⟨_, _, _, rfl, same_tup k1.sub hq, by rw [rxs.length]; exact hl, fun p hp => ?_⟩
        have hp0 : W.H p = none := by
          cases z : W.H p with
          | none => rfl
          | some o => exact absurd hp (ga.live p (by rw [z]; simp))
        have gN : Go W1 (W1.new p (.lst vxs)) := Go.new k1 hp
        have gA : Go W (W1.new p (.lst vxs)) := ga.trans gN
        have kN := k1.new (o := .lst vxs) hp
        have gF := Go.freeze (o := .lst vxs) gA (k1.noF hp) hp0
        have kF := kN.freeze (o := .lst vxs) upd_same (k1.noF hp) (k1.noR hp)
        have rx' : Rp C.X.K (upd W1.F p (.lst vxs)) W1.R vx x := rx.mono (same_new (k1.noF hp)) fun _ _ z => z
        have rl : Rp C.X.K (upd W1.F p (.lst vxs)) W1.R (.ref p) (.lst xs) := .lst upd_same (rxs.mono (same_new (k1.noF hp)) fun _ _ z => z)
        have S1 := S.set gF kF (s := .im x) (v := vx) rx' i
        have S2 := S1.set (Go.refl _) kF (s := .im (.lst xs)) (v := .ref p) rl j
        exact ⟨_, _, rfl, _, _, rfl, rfl, l.nx _ _ _ (Go.s gF) S2 q⟩) h)⟩
@[simp] def wPopAt (j : Nat) (we : EW M) : SW M := fun k ρ g => ∃ es, ρ[j]? = some (.own es) ∧ we ρ g fun d g' => ∃ (m : Nat) (y : D), d = .int m ∧ m < 1000000 ∧ es[m]? = some y ∧ k.nx (ρ.set j (.own (es.eraseIdx m))) g'
theorem ds_popAt {j : Nat} {y : Str} {p2 bpos dpos : Pos} (hv : PE C.X (.Name y p2) (tVar j)) (he : DE C e we) (hline : (bpos.endLine == dpos.line) = true := by rfl)
    (hs : swapsWith (.Call (.Attribute (.Name y p2) "pop" bpos) [e] [] dpos) none pos.line C.X.env = pure false := by rfl) (hst : starEach [e] C.X.env = (false, eval e C.X.env) :: starEach [] C.X.env := by rfl)
    (hbase : attributeBase (.Name y p2) "pop" C.X.env (eval (.Name y p2) C.X.env) = eval (.Name y p2) C.X.env := by rfl) (hpl : (backTo dpos (starEach [] C.X.env)).any (·.1) = false := by rfl)
    (hfew : ((backTo dpos (starEach [e] C.X.env)).all (fun x => !x.1) && (backToKw dpos (keywordEach [] C.X.env)).all (fun x => x.1.isSome) && decide ([e].length + ([] : List Keyword).length + (if ([] : List Keyword).isEmpty then 0 else 1) < 30)) = true := by rfl) :
    DS C (.Expr (.Call (.Attribute (.Name y p2) "pop" bpos) [e] [] dpos) pos) (wPopAt j we) := ⟨fun σ ρ W k E S l h => by
  obtain ⟨es, e1, h⟩ := h
  obtain ⟨o', h1', p', vs', h2', h3', h4', h5', h6', r'⟩ := S.sl j _ e1
  subst h2'
  refine tsOf_of (ps_expr (pe_bm PySem.F.plainAttrs_list PySem.F.slot_list_pop PySem.F.type_list_pop mt_popAt hv (pa_cons pe_tOf pa_nil hst) hbase hfew hline hst hpl) hs) ⟨.ref p', h1', .inl ⟨rfl, vs', .of h3'⟩, ?_⟩
  refine he.run σ ρ W _ _ S (fun v d W1 g1 k1 r1 q1 => ?_) h
  obtain ⟨m, yd, rfl, hm, hy, q2⟩ := q1
  cases r1
  have S1 := S.step g1 k1
  obtain ⟨o3, b1, q', ws', b2, b3, b4, b5, b6, rb⟩ := S1.sl j _ e1
  subst b2
  rw [h1'] at b1
  cases b1
  obtain ⟨yv, hyv, ry⟩ := rb.get' hy
  have hml : m < ws'.length := (List.getElem?_eq_some_iff.mp hyv).1
  obtain ⟨S2, g2⟩ := S1.write e1 h1' (rpa_erase m rb)
  exact ⟨p', ws', (m : Int), m, yv, rfl, rfl, b3, by omega, by omega, seqIndex_nat hml, hyv, l.nx _ _ _ (g1.s.trans g2) S2 q2⟩⟩
end
end DL
set_option Elab.async false
set_option linter.all false
set_option maxRecDepth 100000
set_option maxHeartbeats 1000000
namespace DL
open PySem L2
/-- a scope that has these names from further out -/
def scFr (fr : List Str) : Scope := ⟨.function, fr.map fun x => (x, .free), false, false, []⟩
def FrOk (sc : Scope) : List Str → Prop
  | [] => True
  | x :: xs => (sc.names.lookup x = some .cell ∨ sc.names.lookup x = some .free) ∧ FrOk sc xs
theorem frOk_mem {sc : Scope} : ∀ {fr : List Str}, FrOk sc fr → ∀ {x : Str} {k : NameKind}, (fr.map fun x => (x, NameKind.free)).lookup x = some k → sc.names.lookup x = some .cell ∨ sc.names.lookup x = some .free
  | [], _, x, k, h => by cases h
  | y :: fr, hf, x, k, h => by
    rw [List.map_cons, List.lookup_cons] at h
    by_cases e : x = y
    · subst e
      exact hf.1
    · have : (x == y) = false := beq_eq_false_iff_ne.mpr e
      rw [this] at h
      exact frOk_mem hf.2 h
theorem blkOk_nest {N : List Str} {sc scope : Scope} {own : List (Str × Nat)} (fr : List Str) (h : blkC N (scFr fr) scope own = true) (hf : FrOk sc fr) : BlkOk N sc scope own := by
  obtain ⟨h1, h2, h3, h4, h5⟩ := blkOk_by h
  refine ⟨h1, h2, h3, fun y hy e => ?_, h5⟩
  rcases h4 y hy e with z | z
  · exact frOk_mem hf z
  · exact frOk_mem hf z
section
variable {X : Cx}
def rInTD (K : PySem.W.Frag) (f : Bool → Bool) : R2 := fun x y H Q => ∃ d ds, Dp K H x d ∧ SeqAt.shaped d = true ∧ ((Dp K H y (.tuple ds) ∧ SeqAt.shaped (.tuple ds) = true) ∨ (Dp K H y (.list ds) ∧ SeqAt.shaped (.list ds) = true)) ∧ Q (.bl (f (ds.any fun z => PyData.eqv z d))) H
theorem op_inTD (hu : X.A.units + 65 < cLine) : OpR X (compareOp .In) (rInTD X.K id) := by
  intro pins s σ H x y v u Q I rx ry h
  obtain ⟨d, ds, hd, sd, he, q⟩ := h
  obtain ⟨as, r1⟩ := Dp.reads I d x v hd rx
  rcases he with ⟨he, se⟩ | ⟨he, se⟩
  · obtain ⟨bs, r2⟩ := Dp.reads I (.tuple ds) y u he ry
    exact SeqAt.in_tuple_reads r2 r1 (by simpa [PyData.canLay0] using SeqAt.canLay_of_shaped se) (SeqAt.canLay_of_shaped sd) (PyProof.Rows.room_in_shaped sd hu) ⟨.bl _, H, I, rfl, q⟩
  · obtain ⟨bs, r2⟩ := Dp.reads I (.list ds) y u he ry
    exact SeqAt.in_list_reads r2 r1 (by simpa [PyData.canLay0] using SeqAt.canLay_of_shaped se) (SeqAt.canLay_of_shaped sd) (PyProof.Rows.room_in_shaped sd hu) ⟨.bl _, H, I, rfl, q⟩
theorem op_notInTD (hu : X.A.units + 65 < cLine) : OpR X (compareOp .NotIn) (rInTD X.K not) := by
  intro pins s σ H x y v u Q I rx ry h
  obtain ⟨d, ds, hd, sd, he, q⟩ := h
  obtain ⟨as, r1⟩ := Dp.reads I d x v hd rx
  rcases he with ⟨he, se⟩ | ⟨he, se⟩
  · obtain ⟨bs, r2⟩ := Dp.reads I (.tuple ds) y u he ry
    exact SeqAt.notIn_tuple_reads r2 r1 (by simpa [PyData.canLay0] using SeqAt.canLay_of_shaped se) (SeqAt.canLay_of_shaped sd) (PyProof.Rows.room_in_shaped sd hu) ⟨.bl _, H, I, rfl, q⟩
  · obtain ⟨bs, r2⟩ := Dp.reads I (.list ds) y u he ry
    exact SeqAt.notIn_list_reads r2 r1 (by simpa [PyData.canLay0] using SeqAt.canLay_of_shaped se) (SeqAt.canLay_of_shaped sd) (PyProof.Rows.room_in_shaped sd hu) ⟨.bl _, H, I, rfl, q⟩
end
section
variable {M : Ghost} {C : Ct M}
def oInDB (f : Bool → Bool) : D → D → (D → Prop) → Prop := fun d e q => match e with
  | .tup ds => shp d = true ∧ shp (.tup ds) = true ∧ q (.bl (f (ds.any fun y => deq y d)))
  | .lst ds => shp d = true ∧ shp (.lst ds) = true ∧ q (.bl (f (ds.any fun y => deq y d)))
  | _ => False
abbrev oInD := oInDB id
abbrev oNotInD := oInDB not
theorem any_pyA (d : D) : ∀ ds : List D, ((pyA ds).any fun z => PyData.eqv z (py d)) = ds.any fun y => deq y d
  | [] => rfl
  | x :: ds => by
    show (PyData.eqv (py x) (py d) || (pyA ds).any fun z => PyData.eqv z (py d)) = _
    rw [any_pyA d ds]
    rfl
theorem opd_inDB {f : Bool → Bool} {g : Value → Value → Sem Value} (h : OpR C.X g (rInTD C.X.K f)) : OpD C g (oInDB f) := by
  refine ⟨_, h, fun W x y d e Q q k r1 r2 hQ h => ?_⟩
  cases e with
  | tup ds =>
    obtain ⟨a, b, h⟩ := h
    obtain ⟨a1, a2⟩ := shp_and a
    obtain ⟨b1, b2⟩ := shp_and b
    refine ⟨py d, pyA ds, rdp_dp k r1 (SeqAt.canLay_of_shaped a1) a2, a1, .inl ⟨rdp_dp k r2 (SeqAt.canLay_of_shaped b1) b2, b1⟩, ?_⟩
    rw [any_pyA]
    exact hQ _ _ W (Go.refl W) k rfl (.bl _) h
  | lst ds =>
    obtain ⟨a, b, h⟩ := h
    obtain ⟨a1, a2⟩ := shp_and a
    obtain ⟨b1, b2⟩ := shp_and b
    refine ⟨py d, pyA ds, rdp_dp k r1 (SeqAt.canLay_of_shaped a1) a2, a1, .inr ⟨rdp_dp k r2 (SeqAt.canLay_of_shaped b1) b2, b1⟩, ?_⟩
    rw [any_pyA]
    exact hQ _ _ W (Go.refl W) k rfl (.bl _) h
  | _ => exact h.elim
theorem _root_.L2.Room.units1 {k : Nat} {A : Around} (r : Room k A) : A.units + 65 < cLine := by have := r.un; omega
theorem _root_.L2H.RoomH.units1 {k : Nat} {A : Around} (r : L2H.RoomH k A) : A.units + 65 < cLine := by have := r.un; omega
theorem opd_inD (hu : C.X.A.units + 65 < cLine) : OpD C (compareOp .In) oInD := opd_inDB (op_inTD hu)
theorem opd_notInD (hu : C.X.A.units + 65 < cLine) : OpD C (compareOp .NotIn) oNotInD := opd_inDB (op_notInTD hu)
end
end DL
set_option Elab.async false
set_option linter.all false
set_option maxRecDepth 100000
set_option maxHeartbeats 1000000
namespace DL
open PySem L2 PySem.W PySem.SeqAt
section
variable {X : Cx}
def rCmp (K : PySem.W.Frag) (f : PyData → PyData → Bool) : R2 := fun x y H Q => ∃ d e, Dp K H x d ∧ Dp K H y e ∧ SeqAt.shaped d = true ∧ alike d e = true ∧ d ≠ .none ∧ Q (.bl (f d e)) H
theorem room_cmp {A : Around} {d e : PyData} (sd : SeqAt.shaped d = true) (hu : A.units + 65 < cLine) : A.units + min d.depth e.depth < cLine := by
  have h1 := SeqAt.depth_of_shaped sd
  have h2 : min d.depth e.depth ≤ d.depth := Nat.min_le_left _ _
  omega
theorem op_ltC (hu : X.A.units + 65 < cLine) : OpR X (compareOp .Lt) (rCmp X.K dataLt) := by
  intro pins s σ H x y v u Q I rx ry h
  obtain ⟨d, e, hd, he, sd, al, nn, q⟩ := h
  obtain ⟨as, r1⟩ := Dp.reads I d x v hd rx
  obtain ⟨bs, r2⟩ := Dp.reads I e y u he ry
  exact lt_data r1 r2 al nn (room_cmp sd hu) ⟨.bl _, H, I, rfl, q⟩
theorem op_geC (hu : X.A.units + 65 < cLine) : OpR X (compareOp .GtE) (rCmp X.K fun d e => !dataLt d e) := by
  intro pins s σ H x y v u Q I rx ry h
  obtain ⟨d, e, hd, he, sd, al, nn, q⟩ := h
  obtain ⟨as, r1⟩ := Dp.reads I d x v hd rx
  obtain ⟨bs, r2⟩ := Dp.reads I e y u he ry
  exact ge_data r1 r2 al nn (room_cmp sd hu) ⟨.bl _, H, I, rfl, q⟩
end
section
variable {M : Ghost} {C : Ct M}
def dltD (d e : D) : Bool := dataLt (py d) (py e)
def oCmpB (f : Bool → Bool) : D → D → (D → Prop) → Prop := fun d e q => shp d = true ∧ shp e = true ∧ alike (py d) (py e) = true ∧ py d ≠ .none ∧ q (.bl (f (dltD d e)))
abbrev oLtD := oCmpB id
abbrev oGeD := oCmpB not
theorem opd_cmpB {f : Bool → Bool} {g : Value → Value → Sem Value} (h : OpR C.X g (rCmp C.X.K fun d e => f (dataLt d e))) : OpD C g (oCmpB f) := by
  refine ⟨_, h, fun W x y d e Q q k r1 r2 hQ h => ?_⟩
  obtain ⟨a, b, al, nn, h⟩ := h
  obtain ⟨a1, a2⟩ := shp_and a
  obtain ⟨b1, b2⟩ := shp_and b
  exact ⟨py d, py e, rdp_dp k r1 (SeqAt.canLay_of_shaped a1) a2, rdp_dp k r2 (SeqAt.canLay_of_shaped b1) b2, a1, al, nn, hQ _ _ W (Go.refl W) k rfl (.bl _) h⟩
theorem opd_ltC (hu : C.X.A.units + 65 < cLine) : OpD C (compareOp .Lt) oLtD := opd_cmpB (op_ltC hu)
theorem opd_geC (hu : C.X.A.units + 65 < cLine) : OpD C (compareOp .GtE) oGeD := opd_cmpB (op_geC hu)
end
abbrev ltsD (a : List Nat) : List D := a.map fun c => D.str [c]
theorem alike_lts : ∀ a b : List Nat, alikeAll (pyA (ltsD a)) (pyA (ltsD b)) = true
  | [], _ => by
    show alikeAll [] _ = true
    unfold alikeAll
    rfl
  | _ :: _, [] => by
    show alikeAll (_ :: _) [] = true
    unfold alikeAll
    rfl
  | x :: a, y :: b => by
    show alikeAll (PyData.str (S [x]) :: pyA (ltsD a)) (PyData.str (S [y]) :: pyA (ltsD b)) = true
    unfold alikeAll
    rw [alike_lts a b]
    rfl
theorem lex_lts : ∀ a b : List Nat, dataLt (.list (pyA (ltsD a))) (.list (pyA (ltsD b))) = decide (a < b)
  | [], b => by
    rw [dataLt_list, ← firstLt_toks _ _ (alike_lts [] b)]
    cases b with
    | nil => rfl
    | cons y b =>
      rw [decide_eq_true (List.nil_lt_cons y b)]
      rfl
  | x :: a, [] => by
    rw [dataLt_list, ← firstLt_toks _ _ (alike_lts (x :: a) []), decide_eq_false (List.not_lt_nil _)]
    rfl
  | x :: a, y :: b => by
    show dataLt (.list (PyData.str (S [x]) :: pyA (ltsD a))) (.list (PyData.str (S [y]) :: pyA (ltsD b))) = _
    have e1 : (S [x]).cps.toList = [x] := rfl
    have e2 : (S [y]).cps.toList = [y] := rfl
    rw [dataLt_list]
    by_cases e : x = y
    · subst e
      rw [dataLt_all_yes rfl (by simp [PyData.eqv]), ← dataLt_list, lex_lts a b]
      exact decide_eq_decide.mpr ⟨fun h => List.cons_lt_cons_iff.mpr (.inr ⟨rfl, h⟩), fun h => (List.cons_lt_cons_iff.mp h).elim (fun z => (Nat.lt_irrefl _ z).elim) fun z => z.2⟩
    · rw [dataLt_all_no rfl (by simp [PyData.eqv]; exact fun z => e (by have := congrArg (fun s : Str => s.cps.toList) z; simp only [e1, e2] at this; exact (List.cons.inj this).1)), dataLt_str, e1, e2]
      refine decide_eq_decide.mpr ⟨fun h => ?_, fun h => ?_⟩
      · rcases List.cons_lt_cons_iff.mp h with z | z
        · exact List.cons_lt_cons_iff.mpr (.inl z)
        · exact (e z.1).elim
      · rcases List.cons_lt_cons_iff.mp h with z | z
        · exact List.cons_lt_cons_iff.mpr (.inl z)
        · exact (e z.1).elim
theorem dlt_lts (a b : List Nat) : dltD (.lst (ltsD a)) (.lst (ltsD b)) = decide (a < b) := by
  show dataLt (.list _) (.list _) = _
  exact lex_lts a b
theorem alike_lsts (a b : List Nat) : alike (py (.lst (ltsD a))) (py (.lst (ltsD b))) = true := by
  show alike (.list _) (.list _) = true
  unfold alike
  exact alike_lts a b
end DL
set_option Elab.async false
set_option linter.all false
set_option maxRecDepth 100000
set_option maxHeartbeats 1000000
namespace DL
open PySem PySem.Spec PyProof.Rows L2
section
variable {X : Cx}
theorem call_tuple_x : CallR X (.type "tuple") (fun xs H Q => ∃ p ys, xs = [.ref p] ∧ SqL X.K H p ys ∧ ∀ l o, H l = none → o.dict = none → o.cls = .type "tuple" → Q (.ref l) (upd H l (.frz o (.tup ys)))) := by
  intro pins s σ H xs us Q I r h
  obtain ⟨p, ys, rfl, hq, q⟩ := h
  obtain ⟨u, rfl, rx⟩ := vals1 r
  cases rx
  obtain ⟨its, r', pl, hz⟩ := I.list hq
  have hlen := r'.length
  refine call_tuple_list pl.isList (fun h' kp => ?_) (by simp only [List.size_toArray] <;> omega)
  have I1 : Inv X pins σ H { s with heap := h' } := I.kept (t' := s.toks) kp
  have I2 : Inv X pins σ (upd H h'.objs.size (.frz { cls := .type "tuple", data := .seq its.toArray } (.tup ys))) { s with heap := h'.push { cls := .type "tuple", data := .seq its.toArray } } :=
    I1.laid (t' := s.toks) (fun b o e => Heap.get?_push_of_some _ e) (Nat.le_refl _) (show ObjOk X.prog X.w _ _ _ (.frz _ (.tup ys)) from ⟨Heap.get?_push_size _ rfl, hz, its, r', IsTup.new _ _⟩)
  exact ⟨.ref h'.objs.size, _, I2, rfl, q _ _ (I1.hok.fresh (Nat.le_refl _)) rfl rfl⟩
/-- tuple.index of a tuple of numbers -/
def rIdxT : V → List V → Hp → VK → Prop := fun x xs H Q => ∃ (a : Addr) (o : Obj) (ns : List Int) (k : Int), x = V.ref a ∧ xs = [.int k] ∧ H a = some (.frz o (.tup (ns.map V.int))) ∧ k ∈ ns ∧ Q (.int (ns.idxOf k : Nat)) H
theorem mt_idxT : MtR X "tuple.index" rIdxT := by
  intro pins s σ H x xs v us Q I rx rxs h
  obtain ⟨a, o, ns, k, rfl, rfl, hs, hk, q⟩ := h
  cases rx
  cases rxs with
  | cons ry rt =>
    rename_i uy ut
    cases rt
    obtain ⟨t, rfl⟩ := ry
    obtain ⟨its, rv, hl, hlen⟩ := I.tuple (.inl (.inr ⟨o, hs⟩))
    exact PySem.SeqAt.tuple_index_ints (vs := its) hl (ints_vals rv) hk ⟨.int _, H, I.tok _, ⟨_, rfl⟩, q⟩
/-- a tuple display, its object known -/
def tTupX (t : TA) : TE := fun σ H Q => t σ H fun xs H1 => xs.length ≤ sizeLine ∧ ∀ p o, H1 p = none → o.dict = none → o.cls = .type "tuple" → Q (.ref p) (upd H1 p (.frz o (.tup xs)))
theorem pe_tupX {es : List Expr} {t : TA} {x1 : Nat} {pos : Pos} (h : PA X es t) : PE X (.Tuple es x1 pos) (tTupX t) := by
  refine ⟨fun pins s σ H Q I hq => ?_⟩
  refine wpAny_Tuple_spliced (thn (h.run pos pins s σ H _ I hq) fun us s1 ⟨xs, H1, I1, r, z, q⟩ => ⟨by rw [← r.length]; exact z, ?_⟩)
  have hf : H1 s1.heap.objs.size = none := I1.hok.fresh (Nat.le_refl _)
  refine ⟨.ref s1.heap.objs.size, upd H1 s1.heap.objs.size (.frz { cls := .type "tuple", data := .seq us.toArray } (.tup xs)), I1.laid (t' := s1.toks) (fun b u e => Heap.get?_push_of_some _ e) (Nat.le_refl _) ?_, rfl, q _ _ hf rfl rfl⟩
  exact ⟨Heap.get?_push_size _ rfl, z, us, r, ⟨_, Heap.get?_push_size _ rfl, rfl, _, rfl⟩⟩
/-- tuple(range(..)), its object known -/
def tTupRgX (t : L2.St → Hp → (Int → Int → Hp → Prop) → Prop) : TE := fun σ H Q => t σ H fun a b H1 => RgOk a b ∧ ∀ p o, H1 p = none → o.dict = none → o.cls = .type "tuple" → Q (.ref p) (upd H1 p (.frz o (.tup (rgV a b))))
theorem pe_tupRgX {e : Expr} {te : L2.St → Hp → (Int → Int → Hp → Prop) → Prop} {p pos : Pos} (hc : X.calm = true) (hg : Gl X "tuple") (hm : X.mg "tuple" = none) (he : PRg X e te) (na : starEach [e] X.env = (false, eval e X.env) :: starEach [] X.env := by rfl) : PE X (.Call (.Name "tuple" p) [e] [] pos) (tTupRgX te) := by
  refine ⟨fun pins s σ H Q I h => ?_⟩
  refine Call_ (ld_blt I hg hm boot_tuple (PyProof.Rows.callWith_type1 (args_cons (thn (he pins s σ H _ I h) fun x s1 ⟨r, a, b, t, u, v, H1, ex, hr, I1, ok, q⟩ => args_nil ?_) na) na))
  subst ex
  obtain ⟨b1, b2, b3, b4, b5⟩ := ok
  refine call_tuple_range (n := (b - a).toNat) (I1.ok.hd hc) hr (small_one b1 b2 b3 b4) (rangeSize_nat a b) b5 fun h' tk acc hk hi => ?_
  have I2 : Inv X pins σ H1 { s1 with heap := h', toks := tk } := I1.kept hk
  refine ⟨.ref h'.objs.size, upd H1 h'.objs.size (.frz { cls := .type "tuple", data := .seq acc } (.tup (rgV a b))), I2.laid (t' := tk) (fun c o e => Heap.get?_push_of_some _ e) (Nat.le_refl _) (show ObjOk X.prog X.w _ _ _ (.frz _ (.tup (rgV a b))) from ⟨Heap.get?_push_size _ rfl, ?_, acc.toList, vals_rg hi, ?_⟩), rfl, q _ _ (I2.hok.fresh (Nat.le_refl _)) rfl rfl⟩
  · rw [rgV_length, sizeLine_eq]; omega
  · rw [Array.toArray_toList]; exact IsTup.new _ _
/-- a reversed tuple, its object known -/
def tRevX (K : PySem.W.Frag) (te : TE) : TE := fun σ H Q => te σ H fun x H1 => ∃ a xs, x = .ref a ∧ SqT K H1 a xs ∧ ∀ p o, H1 p = none → o.dict = none → o.cls = .type "tuple" → Q (.ref p) (upd H1 p (.frz o (.tup xs.reverse)))
theorem pe_revX {e : Expr} {te : TE} {k : Nat} {p1 p2 p3 pos : Pos} (he : PE X e te) : PE X (.Subscript e (.Slice none none (some (.UnaryOp .USub (.Constant (.int 1) k p1) p2)) p3) pos) (tRevX X.K te) := by
  refine ⟨fun pins s σ H Q I h => ?_⟩
  refine Subscript_ (thn (he.run pins s σ H _ I h) fun v s1 ⟨x, H1, I1, r1, q1⟩ => ?_)
  obtain ⟨a, xs, ex, hx, q⟩ := q1
  subst ex
  cases r1
  have hst : PO X (some (.UnaryOp .USub (.Constant (.int 1) k p1) p2)) (tPart (tUn (rU fun i => .int (-i)) (tC (.int 1)))) := po_some (pe_un un_neg pe_int)
  refine wpAny_Slice (thn (po_none.run pins s1 σ H1 (fun o H2 => o = none ∧ H2 = H1) I1 ⟨rfl, rfl⟩) fun vl s2 ⟨l, H2, I2, pl, el, e2⟩ => ?_)
  subst el e2
  refine thn (po_none.run pins s2 σ H2 (fun o H3 => o = none ∧ H3 = H2) I2 ⟨rfl, rfl⟩) fun vu s3 ⟨u, H3, I3, pu, eu, e3⟩ => ?_
  subst eu e3
  refine thn (hst.run pins s3 σ H3 (fun o H4 => o = some (-1) ∧ H4 = H3) I3 ⟨1, rfl, -1, rfl, rfl, rfl⟩) fun vs s4 ⟨o, H4, I4, ps, eo, e4⟩ => ?_
  subst eo e4
  have I5 : Inv X pins σ H4 { s4 with heap := s4.heap.push { cls := .type "slice", data := .fields #[vl, vu, vs] } } := I4.kept (t' := s4.toks) fun b ob q => Heap.get?_push_of_some _ q
  show wpAny (model X.prog X.w) X.A (subscriptTail e (.Slice none none (some (.UnaryOp .USub (.Constant (.int 1) k p1) p2)) p3) (.ref a) (.ref s4.heap.objs.size)) (EP X pins σ Q) X.xe { s4 with heap := s4.heap.push { cls := .type "slice", data := .fields #[vl, vu, vs] } }
  obtain ⟨its, r, ht, hz⟩ := I5.tuple hx
  have hlen := r.length
  refine tail_any (ops := [.ref a, .ref s4.heap.objs.size]) (T := "tuple") ht.typeIs (PyProof.Rows.slot_tuple_getitem.lookup) ?_ (by with_unfolding_all rfl)
  cases pl
  cases pu
  refine getItem_tuple_rev ht (Heap.IsSliceOf.new _ .none .none vs) ps ?_ (by rw [List.size_toArray]; omega)
  refine ⟨.ref _, _, I5.laid (t' := s4.toks) (o := .frz { cls := .type "tuple", data := .seq its.reverse.toArray } (.tup xs.reverse)) (fun b ob q => Heap.get?_push_of_some _ q) (Nat.le_refl _) ?_, rfl, q _ _ (I5.hok.fresh (Nat.le_refl _)) rfl rfl⟩
  exact ⟨Heap.get?_push_size _ rfl, by rw [List.length_reverse]; exact hz, _, r.reverse, IsTup.new _ _⟩
variable {o e : Expr} {es : List Expr} {to : TE} {t : TA} {name : Str} {apos cpos : Pos} {T id : String} {r : V → List V → Hp → VK → Prop}
/-- a tuple whose object has no dict -/
def tyT (x : V) (H : Hp) : Prop := ∃ (a : Addr) (o : Obj) (xs : List V), x = .ref a ∧ H a = some (.frz o (.tup xs)) ∧ o.dict = none ∧ o.cls = .type "tuple"
theorem tyT_is {pins : List (Addr × Obj)} {σ : L2.St} {H : Hp} {s : Shared} {x : V} {v : Value} (I : Inv X pins σ H s) (r : RelV x v) (ty : tyT x H) :
    s.TypeIs v "tuple" ∧ ∀ a, v = .ref a → ∃ ob, s.heap.get? a = some ob ∧ ob.dict = none := by
  obtain ⟨a, o, xs, rfl, h1, h2, h3⟩ := ty
  cases r
  have e := (show ObjOk X.prog X.w H s.heap a (.frz o (.tup xs)) from I.hok a _ h1).1
  refine ⟨⟨o, e, h3⟩, fun b z => ?_⟩
  cases z
  exact ⟨o, e, h2⟩
def tBMx (r : V → List V → Hp → VK → Prop) (to : TE) (t : TA) : TE := fun σ H Q => to σ H fun x H1 => tyT x H1 ∧ t σ H1 fun xs H2 => r x xs H2 Q
theorem pe_bmx (pa : PlainAttrs "tuple") (slot : Slot "tuple" name id) (hty : typeOf (.builtin id) = pure (.type "method_descriptor")) (hm : MtR X id r) (ho : PE X o to) (ha : PA X (e :: es) t)
    (hbase : attributeBase o name X.env (eval o X.env) = eval o X.env := by rfl)
    (hfew : ((backTo cpos (starEach (e :: es) X.env)).all (fun x => !x.1) && (backToKw cpos (keywordEach [] X.env)).all (fun x => x.1.isSome)
      && decide ((e :: es).length + ([] : List Keyword).length + (if ([] : List Keyword).isEmpty then 0 else 1) < 30)) = true := by rfl)
    (hline : (apos.endLine == cpos.line) = true := by rfl) (hs : starEach (e :: es) X.env = (false, eval e X.env) :: starEach es X.env := by rfl) (hplain : (backTo cpos (starEach es X.env)).any (·.1) = false := by rfl) :
    PE X (.Call (.Attribute o name apos) (e :: es) [] cpos) (tBMx r to t) := by
  refine ⟨fun pins s σ H Q I h => ?_⟩
  refine wpAny_Call_method_late hbase hfew hline rfl (thn (ho.run pins s σ H _ I h) fun v s1 ⟨x, H1, I1, r1, ty, q1⟩ => ?_)
  obtain ⟨h1, h2⟩ := tyT_is I1 r1 ty
  refine ⟨"tuple", id, pa, slot, hty, h1, h2, ?_⟩
  have hA := ha.run cpos pins s1 σ H1 _ I1 q1
  rw [hs] at hA ⊢
  refine Calls.callWith_builtin (by show (false || (backTo cpos (starEach es X.env)).any (·.1)) = false; rw [hplain] <;> rfl) (Calls.evalArgs_plain ?_)
  exact thn hA fun us s2 ⟨vs, H2, I2, r2, q2⟩ => hm pins s2 σ H2 x vs v us Q I2 r1 r2 q2
end
section
variable {M : Ghost} {C : Ct M} {W W1 W2 W' : Wd M} {σ : L2.St} {ρ : DEnv} {e o : Expr} {es : List Expr} {we wo : EW M} {pos apos : Pos} {wa : AW M}
theorem Rp.untx {K : PySem.W.Frag} {F : Hp} {R : List Addr} {v : V} {ds : List D} (h : Rp K F R v (.tx ds)) : Rp K F R v (.tup ds) := by
  cases h with
  | tx h1 h2 h3 q => exact .tup (.inl (.inr ⟨_, h1⟩)) q
/-- tuple(list): its object is known -/
def cTupleO : List D → (D → Prop) → Prop
  | [.lst ds], q => q (.tx ds)
  | _, _ => False
@[simp] theorem sm_tupleO {ds : List D} {q : D → Prop} : cTupleO [.lst ds] q = q (.tx ds) := rfl
theorem calld_tupleO : CallD C (.type "tuple") cTupleO := by
  refine ⟨_, call_tuple_x, fun W vs ds Q q k r hQ h => ?_⟩
  obtain ⟨d, rfl⟩ := one_of h (fun _ h => h) (fun a _ _ _ h => by cases a <;> exact h)
  obtain ⟨v, rfl, r0⟩ := pair1 r
  cases d with
  | lst ds =>
    obtain ⟨p, vs, rfl, hp, np, ra⟩ := r0.lst_inv k
    exact ⟨p, vs, rfl, .of hp, fun t o ht h1 h2 => hQ _ _ (W.lay t (.frz o (.tup vs))) (Go.lay k ht) (k.lay ht) rfl (.tx upd_same h1 h2 (ra.mono (same_new (k.noF ht)) fun _ _ z => z)) h⟩
  | _ => exact h.elim
/-- a name that holds such a tuple, read as a tuple -/
@[simp] def wVarX (i : Nat) : EW M := fun ρ g q => ∃ ds, ρ[i]? = some (.im (.tx ds)) ∧ q (.tup ds) g
theorem de_varX {i : Nat} {x : Str} {pos : Pos} (h : PE C.X (.Name x pos) (tVar i)) : DE C (.Name x pos) (wVarX i) := ⟨fun σ ρ W Q q S hQ hw => by
  obtain ⟨ds, e, hq⟩ := hw
  obtain ⟨o, h1, v, h2, r⟩ := S.sl i _ e
  subst h2
  exact tOf_of h ⟨v, h1, hQ v _ W (Go.refl W) S.ok r.untx hq⟩⟩
/-- what is read as such a tuple, as a tuple -/
@[simp] def wUntx (w : EW M) : EW M := fun ρ g q => w ρ g fun d g' => ∃ ds, d = .tx ds ∧ q (.tup ds) g'
theorem de_untx {w : EW M} (h : DE C e w) : DE C e (wUntx w) := ⟨fun σ ρ W Q q S hQ hw => h.run σ ρ W Q _ S (fun v d W' g k r hq => by
  obtain ⟨ds, rfl, hq⟩ := hq
  exact hQ v _ W' g k r.untx hq) hw⟩
/-- x.index(e) of a tuple of numbers -/
@[simp] def wIndexX (wo we : EW M) : EW M := fun ρ g q => wo ρ g fun d g1 => ∃ ns : List Int, d = .tx (ns.map D.int) ∧ we ρ g1 fun y g2 => ∃ k : Int, y = .int k ∧ k ∈ ns ∧ q (.int (ns.idxOf k : Nat)) g2
theorem de_indexX (ho : DE C o wo) (he : DE C e we) (hbase : attributeBase o "index" C.X.env (eval o C.X.env) = eval o C.X.env := by rfl)
    (hfew : ((backTo pos (starEach [e] C.X.env)).all (fun x => !x.1) && (backToKw pos (keywordEach [] C.X.env)).all (fun x => x.1.isSome) && decide ([e].length + ([] : List Keyword).length + (if ([] : List Keyword).isEmpty then 0 else 1) < 30)) = true := by rfl)
    (hline : (apos.endLine == pos.line) = true := by rfl) (hs : starEach [e] C.X.env = [(false, eval e C.X.env)] := by rfl) (hpl : (backTo pos (starEach [] C.X.env)).any (·.1) = false := by rfl) :
    DE C (.Call (.Attribute o "index" apos) [e] [] pos) (wIndexX wo we) := ⟨fun σ ρ W Q q S hQ hw =>
  tOf_of (pe_bmx PySem.F.plainAttrs_tuple PySem.F.slot_tuple_index PySem.F.type_tuple_index mt_idxT pe_tOf (pa_cons pe_tOf pa_nil hs) hbase hfew hline hs hpl) (ho.run σ ρ W _ _ S (fun v d W1 g1 k1 r1 q1 => by
    obtain ⟨ns, rfl, q1⟩ := q1
    cases r1 with
    | tx h1 h2 h3 ra =>
      have ev := ra.ints
      subst ev
      refine ⟨⟨_, _, _, rfl, k1.sub _ _ h1, h2, h3⟩, he.run σ ρ W1 _ _ (S.step g1 k1) (fun u y W2 g2 k2 r2 q2 => ?_) q1⟩
      obtain ⟨k, rfl, hk, q2⟩ := q2
      cases r2
      exact ⟨_, _, ns, k, rfl, rfl, k2.sub _ _ (g2.sub _ _ h1), hk, hQ _ _ W2 (g1.trans g2) k2 (.int _) q2⟩) hw)⟩
@[simp] def wTupX (wa : AW M) : EW M := fun ρ g q => wa ρ g fun ds g' => ds.length ≤ sizeLine ∧ q (.tx ds) g'
theorem de_tupX {kk : Nat} (ha : DA C es wa) : DE C (.Tuple es kk pos) (wTupX wa) := ⟨fun σ ρ W Q q S hQ hw =>
  tOf_of (pe_tupX pa_tOf) (ha.run σ ρ W _ _ S (fun vs ds W1 g1 k1 r1 q1 => ⟨by rw [r1.length]; exact q1.1, fun p o hp h1 h2 => hQ (.ref p) (.tx ds) (W1.lay p (.frz o (.tup vs))) (g1.trans (Go.lay k1 hp)) (k1.lay hp) (.tx upd_same h1 h2 (r1.mono (same_new (k1.noF hp)) fun _ _ z => z)) q1.2⟩) hw)⟩
@[simp] def wRgTX (wx : EW M) : EW M := fun ρ g q => wx ρ g fun d g' => asI d fun j => RgOk 0 j ∧ q (.tx (rngL 0 j)) g'
theorem de_rgTX {a : Expr} {wx : EW M} {p p4 pos2 : Pos} (hc : C.X.calm = true) (hm : C.X.mg "tuple" = none) (hr : C.X.mg "range" = none) (ha : DE C a wx) (hg : Gl C.X "tuple" := by rfl) (hgr : Gl C.X "range" := by rfl) (na : starEach [a] C.X.env = (false, eval a C.X.env) :: starEach [] C.X.env := by rfl)
    (nb : starEach [.Call (.Name "range" p4) [a] [] pos2] C.X.env = (false, eval (.Call (.Name "range" p4) [a] [] pos2) C.X.env) :: starEach [] C.X.env := by rfl) : DE C (.Call (.Name "tuple" p) [.Call (.Name "range" p4) [a] [] pos2] [] pos) (wRgTX wx) := ⟨fun σ ρ W Q q S hQ hw =>
  tOf_of (pe_tupRgX hc hg hm (prg_1 hgr hr pe_tOf na) nb) (ha.run σ ρ W _ _ S (fun v d W1 g1 k1 r1 q1 => by
    cases d with
    | int j =>
      cases r1
      exact ⟨j, rfl, q1.1, fun t o ht h1 h2 => hQ _ _ (W1.lay t (.frz o (.tup (rgV 0 j)))) (g1.trans (Go.lay k1 ht)) (k1.lay ht) (.tx upd_same h1 h2 (rpa_rg 0 j)) q1.2⟩
    | _ => exact q1.elim) hw)⟩
@[simp] def wRevX (w : EW M) : EW M := fun ρ g q => w ρ g fun d g' => ∃ ds, d = .tx ds ∧ q (.tx ds.reverse) g'
theorem de_revX {w : EW M} {k : Nat} {p1 p2 p3 : Pos} (he : DE C e w) : DE C (.Subscript e (.Slice none none (some (.UnaryOp .USub (.Constant (.int 1) k p1) p2)) p3) pos) (wRevX w) := ⟨fun σ ρ W Q q S hQ hw =>
  tOf_of (pe_revX pe_tOf) (he.run σ ρ W _ _ S (fun v d W1 g1 k1 r1 q1 => by
    obtain ⟨ds, rfl, q1⟩ := q1
    cases r1 with
    | tx h1 h2 h3 ra => exact ⟨_, _, rfl, .inl (.inr ⟨_, k1.sub _ _ h1⟩), fun t o ht e1 e2 => hQ _ _ (W1.lay t (.frz o (.tup _))) (g1.trans (Go.lay k1 ht)) (k1.lay ht) (.tx upd_same e1 e2 (ra.rev.mono (same_new (k1.noF ht)) fun _ _ z => z)) q1⟩) hw)⟩
end
end DL
set_option Elab.async false
set_option linter.all false
set_option maxRecDepth 100000
set_option maxHeartbeats 4000000
namespace DL
open PySem L2 PySem.Spec PySem.W PyProof.Rows GenW
section
variable {M : Model} {A : Around} {R : GenEnd} {Y : Protocol} {n : Nat} {s₀ : Shared} {c : Code} {fs : List Frame} {s : Shared} {env : Env}
  {K : Flow → Sem PySem.Fin} {J : Value → Sem PySem.Fin} {gd : Bool → Bool} {lv : List Value → List Value}
theorem seg_for {tg iter : Expr} {body orelse : List Stmt} {pos : Pos} (hs : ∀ x, foldedSetIterable iter env x = pure x)
    (h : wpAny M (A.over c fs) (eval iter env) (fun x s₁ => wpAny M (A.over c fs) (pyIter x) (fun it s₂ => ∀ p, Seg M A R Y n s₀ (.forLoop tg it body orelse env) (M.den (.forLoop tg it body orelse env))
        (.ret (fun r => ((match r with | .ok f => (.pure f : Sem Flow) | .error e => .raise e).onRaise (cameBack env)).wrap K J gd lv) none (gd false) (lv []) c p [] :: fs) s₂)
      (fun x s' => Seg M A R Y n s₀ c (J x) fs s') s₁) (fun x s' => Seg M A R Y n s₀ c (J x) fs s') s) :
    Seg M A R Y n s₀ c ((exec (.For tg iter body orelse pos) env).wrap K J gd lv) fs s := by
  rw [exec_For]
  refine seg_bind_wrap (wpAny_standAt ?_)
  refine seg_bind_wrap (wpAny_mono h (fun x s₁ h₁ => ?_) fun _ _ z => z)
  rw [hs x]
  refine seg_bind_wrap (wpAny_pure ?_)
  refine seg_bind_wrap (wpAny_standAt ?_)
  refine seg_bind_wrap (wpAny_holding (wpAny_mono h₁ (fun it s₂ h₂ => ?_) fun _ _ z => z))
  exact seg_call h₂
end
section
variable {prog : Program} {w : World} {A : Around} {R : GenEnd} {Y : Protocol} {n : Nat} {s₀ : Shared} {fs : List Frame} {s : Shared} {env : Env}
abbrev noted (env : Env) (x : Value) : Sem PySem.Fin := (do noteFrame x env; theTreesLotGoes x : Sem Unit).wrap (fun _ => .raise x) .raise id id
theorem seg_forTurn {tg : Expr} {it : Value} {body : List Stmt}
    (h : wpAny (model prog w) (A.over (.forLoop tg it body [] env) fs) (pyNext it) (fun r s₁ => match r with
        | none => Seg (model prog w) A R Y n s₀ (.forLoop tg it body [] env) (.pure (.again (.block [] env))) fs s₁
        | some v => wpAny (model prog w) (A.over (.forLoop tg it body [] env) fs) (letOwnedTupleGo tg it v) (fun _ s₂ => wpAny (model prog w) (A.over (.forLoop tg it body [] env) fs) (assign tg env v) (fun _ s₃ =>
            Seg (model prog w) A R Y n s₀ (.forLoop tg it body [] env) ((execs body env).wrap (fun f => match f with
              | .next | .cont => .pure (.again (.forLoop tg it body [] env))
              | .brk => .pure (.done .next)
              | .ret v => .pure (.done (.ret v))) (noted env) id id) fs s₃)
            (fun x s' => Seg (model prog w) A R Y n s₀ (.forLoop tg it body [] env) (noted env x) fs s') s₂)
            (fun x s' => Seg (model prog w) A R Y n s₀ (.forLoop tg it body [] env) (noted env x) fs s') s₁)
      (fun x s' => Seg (model prog w) A R Y n s₀ (.forLoop tg it body [] env) (noted env x) fs s') s) :
    Seg (model prog w) A R Y n s₀ (.forLoop tg it body [] env) ((model prog w).den (.forLoop tg it body [] env)) fs s := by
  show Seg _ A R Y n s₀ _ ((forTurn tg it body [] env).onRaise (fun x => do noteFrame x env; theTreesLotGoes x)) fs s
  rw [Sem.onRaise_eq_wrap]
  have eH : (fun e => ((do noteFrame e env; theTreesLotGoes e : Sem Unit)).bind fun _ => (Sem.raise e : Sem PySem.Fin)) = noted env := by
    funext e
    rw [Sem.bind_eq_wrap]
  unfold forTurn
  refine seg_bind_wrap (wpAny_standAt ?_)
  refine seg_bind_wrap (wpAny_onRaise (wpAny_mono h (fun r s₁ h₁ => ?_) fun x s' hx => wpAny_standAt ?_))
  · cases r with
    | none => exact h₁
    | some v =>
      refine seg_bind_wrap (wpAny_mono h₁ (fun _ s₂ h₂ => ?_) fun x s' hx => ?_)
      · refine seg_bind_wrap (wpAny_mono h₂ (fun _ s₃ h₃ => ?_) fun x s' hx => ?_)
        · rw [Sem.bind_eq_wrap', Sem.wrap_wrap]
          rw [Sem.wrap_congr (execs body env) _ _ (K' := fun f => match f with
              | .next | .cont => .pure (.again (.forLoop tg it body [] env))
              | .brk => .pure (.done .next)
              | .ret v => .pure (.done (.ret v))) (H' := noted env) (fun f => by cases f <;> rfl) (fun e => by
                show ((do noteFrame e env; theTreesLotGoes e : Sem Unit)).bind (fun _ => (Sem.raise e : Sem PySem.Fin)) = _
                rw [Sem.bind_eq_wrap])]
          exact h₃
        · rw [Sem.bind_eq_wrap]; exact hx
      · rw [Sem.bind_eq_wrap]; exact hx
  · rw [Sem.bind_eq_wrap]; exact hx
/-- behind the last turn -/
theorem seg_noElse (h : Seg (model prog w) A R Y n s₀ (.block [] env) (.pure (.done .next)) fs s) : Seg (model prog w) A R Y n s₀ (.block [] env) ((model prog w).den (.block [] env)) fs s := by
  show Seg _ A R Y n s₀ _ (((execs [] env).onRaise (fun x => do noteFrame x env; theTreesLotGoes x)) >>= fun f => pure (.done f)) fs s
  exact seg_bind (wpAny_onRaise (wpAny_execs_nil h))
end
section
variable {X : Cx} {pos : Pos}
/-- for, by the turn and a measure; what is out so far is told too -/
def tGFor (wi : TI) (g : TG) (tb : TGn) : TGn := fun D ys σ H => wi σ H fun It H1 => ∃ W : Nat → Nat → List V → L2.St → Hp → Prop, (∃ m, W 0 m ys σ H1) ∧ ∀ i m ys σ H, W i m ys σ H →
  (It.stop i H ∧ D.nx ys σ H) ∨ (It.go i H ∧ ∃ N : List V → L2.St → Hp → Prop, (∀ ys' σ' H', N ys' σ' H' → ∃ m', m' < m ∧ W (i + 1) m' ys' σ' H') ∧ ∀ x H', It.yld i H x H' → g x σ H' fun σ2 H2 => tb { D with nx := N, ct := N, bk := D.nx } ys σ2 H2)
theorem gs_if {c : Expr} {a b : List Stmt} {tc : TT} {ta tb : TGn} (hc : PT X c tc) (ha : GSs X a ta) (hb : GSs X b tb) : GS X (.If c a b pos) (fun D ys σ H => tc σ H fun r H1 => if r = true then ta D ys σ H1 else tb D ys σ H1) := by
  refine ⟨fun A S ip R n ys s₀ c fs K J gd lv s σ H D g hn k hI ht => ?_⟩
  obtain ⟨acc, cc, r, I⟩ := hI
  rw [exec_If]
  refine seg_bind_wrap (wpAny_standAt (seg_bind_wrap ?_))
  rw [g.over]
  refine wpAny_mono (hc.run _ s σ H _ I ht) (fun d s1 h1 => ?_) fun x s' hx => k.exc n s₀ x s' hx
  obtain ⟨H1, I1, q1⟩ := h1
  cases d with
  | true => exact ha.run A S ip R n ys s₀ _ fs K J gd lv s1 σ H1 D g hn k ⟨acc, cc, r, I1⟩ q1
  | false => exact hb.run A S ip R n ys s₀ _ fs K J gd lv s1 σ H1 D g hn k ⟨acc, cc, r, I1⟩ q1
theorem gi_unpin {S : Addr} {ip pl : List (Addr × Obj)} {ys : List V} {σ : L2.St} {H : Hp} {s : Shared} (h : GI X S (ip ++ pl) ys σ H s) : GI X S ip ys σ H s := by
  obtain ⟨acc, c, r, I⟩ := h
  exact ⟨acc, c, r, Inv.unpinned (pins := (S, lstObj acc c) :: ip) (pl := pl) I⟩
theorem gs_for {tg iter : Expr} {body : List Stmt} {wi : TI} {g : TG} {tb : TGn} (hp : PassesOwn (model X.prog X.w) X.A X.env X.xe) (hca : X.calm = true) (hi : PI X tg iter wi) (hg : PG X tg g) (hb : GSs X body tb)
    (hs : ∀ x, foldedSetIterable iter X.env x = pure x := by intro _; rfl) : GS X (.For tg iter body [] pos) (tGFor wi g tb) := by
  refine ⟨fun A S ip R n ys s₀ c fs K J gd lv s σ H D gc hn k hI ht => ?_⟩
  obtain ⟨acc, cc, r, I⟩ := hI
  refine seg_for hs ?_
  rw [gc.over]
  refine wpAny_mono (hi.run _ s σ H _ I ht) (fun v s1 h1 => wpAny_mono h1 (fun itv s2 h2 => ?_) fun x s' hx => k.exc n s₀ x s' hx) fun x s' hx => k.exc n s₀ x s' hx
  obtain ⟨it, fp, tn, It, H2, e, I2, T, st2, f2, W, ⟨m0, w0⟩, turn⟩ := h2
  subst e
  intro p
  have stat : ∀ (acc' : Array Value) (c' : Nat) {H' : Hp}, (∀ b ∈ fp, H' b = none) → ∀ b ∈ fp, FpOk X ((S, lstObj acc' c') :: ip) H' b := fun acc' c' {H'} hz b hb => by
    obtain ⟨_, q2, q3, q4, q5, q6⟩ := f2 b hb
    refine ⟨hz b hb, q2, q3, q4, q5, fun p hp => ?_⟩
    rcases List.mem_append.mp hp with z | z
    · exact q6 p (List.mem_append_left _ z)
    · rcases List.mem_cons.mp z with z | z
      · rw [z]
        exact q6 (S, lstObj acc cc) (List.mem_append_right _ List.mem_cons_self)
      · exact q6 p (List.mem_append_right _ (List.mem_cons_of_mem _ z))
  have nS : ∀ b ∈ fp, b ≠ S := fun b hb z => (f2 b hb).2.2.2.2.2 (S, lstObj acc cc) (List.mem_append_right _ List.mem_cons_self) z.symm
  have gl := fun (kk : Result → Sem PySem.Fin) => gc_loop (k := kk) (c' := .forLoop tg (.ref it) body [] X.env) (l := lv []) (kp := []) (p := p) gc rfl rfl
  have loop : ∀ (m n i : Nat) (ys : List V) (s₀ s : Shared) (σ : L2.St) (H : Hp), n + ys.length = sizeLine → W i m ys σ H → GI X S ip ys σ H s → tn i s.heap → (∀ b ∈ fp, H b = none) →
      Seg (model X.prog X.w) A R (GY X S) n s₀ (.forLoop tg (.ref it) body [] X.env) ((model X.prog X.w).den (.forLoop tg (.ref it) body [] X.env))
        (.ret (fun r => ((match r with | .ok f => (.pure f : Sem Flow) | .error e => .raise e).onRaise (cameBack X.env)).wrap K J gd lv) none (gd false) (lv []) c p [] :: fs) s := by
    intro m
    induction m using Nat.strongRecOn with
    | ind m ih =>
      intro n i ys s₀ s σ H hn w hI st fr
      have ee : ∀ (n : Nat) (s₀ : Shared) (x : Value) (s' : Shared), X.xe x s' → Seg (model X.prog X.w) A R (GY X S) n s₀ (.forLoop tg (.ref it) body [] X.env) (noted X.env x)
          (.ret (fun r => ((match r with | .ok f => (.pure f : Sem Flow) | .error e => .raise e).onRaise (cameBack X.env)).wrap K J gd lv) none (gd false) (lv []) c p [] :: fs) s' := fun n s₀ x s' hx => by
        refine seg_wrap ?_
        rw [(gl _).over]
        refine wpAny_bind (wpAny_mono (hp x s' hx) (fun _ s'' hcb => wpAny_theTreesLotGoes ?_) fun y s'' hcb => ?_)
        · exact seg_leaf (.error x) (seg_cameBack gc k hcb)
        · exact seg_leaf (.error y) (seg_cameBack gc k hcb)
      refine seg_forTurn ?_
      rw [(gl _).over]
      obtain ⟨acc3, cc3, r3, I3⟩ := hI
      rcases turn i m ys σ H w with ⟨stop, qn⟩ | ⟨go, N, hN, step⟩
      · refine wpAny_mono (T.done X rfl rfl rfl hca i _ s σ H X.xe I3 (stat acc3 cc3 fr) st stop) (fun rr s4 hr => ?_) fun x s' hx => ee n s₀ x s' hx
        obtain ⟨rfl, I4⟩ := hr
        exact seg_again rfl (seg_noElse (seg_leaf (.ok .next) (k.ok n ys s₀ s4 .next hn ⟨σ, H, ⟨acc3, cc3, r3, I4⟩, qn⟩)))
      · refine wpAny_mono (T.item X rfl rfl rfl hca i _ s σ H X.xe I3 (stat acc3 cc3 fr) st go) (fun rr s4 hr => ?_) fun x s' hx => ee n s₀ x s' hx
        obtain ⟨u, rfl, h4⟩ := hr
        refine wpAny_mono h4 (fun _ s5 h5 => ?_) fun x s' hx => ee n s₀ x s' hx
        obtain ⟨x, H5, I5, r5, y5, st5, fr5⟩ := h5
        have I5' := Inv.pinned I5 (stat acc3 cc3 fr5) (T.obj _ _ st5)
        refine wpAny_mono (hg.run _ s5 σ H5 x u _ I5' r5 (step x H5 y5)) (fun _ s6 h6 => ?_) fun x s' hx => ee n s₀ x s' hx
        obtain ⟨σ6, H6, I6, q6⟩ := h6
        have gl2 := gl fun r => ((match r with | .ok f => (.pure f : Sem Flow) | .error e => .raise e).onRaise (cameBack X.env)).wrap K J gd lv
        refine hb.run A S (ip ++ pinsAt fp s5.heap) R n ys s₀ _ _ _ _ id id s6 σ6 H6 { D with nx := N, ct := N, bk := D.nx } ⟨gl2.pn, fun q hq => ?_, gl2.apart, gl2.over, gl2.split, gl2.guard, gl2.gd⟩ hn ⟨fun n' ys' s₀' s3 f hn' hs3 => ?_, fun n' s₀' x s3 hx => ee n' s₀' x s3 hx⟩ ⟨acc3, cc3, r3, I6⟩ q6
        · rcases List.mem_append.mp hq with z | z
          · exact gl2.ip q z
          · exact nS _ (of_pinsAt z).1
        · have again : ∀ {σ7 : L2.St} {H7 : Hp}, GI X S (ip ++ pinsAt fp s5.heap) ys' σ7 H7 s3 → N ys' σ7 H7 → Seg (model X.prog X.w) A R (GY X S) n' s₀' (.forLoop tg (.ref it) body [] X.env) ((model X.prog X.w).den (.forLoop tg (.ref it) body [] X.env))
              (.ret (fun r => ((match r with | .ok f => (.pure f : Sem Flow) | .error e => .raise e).onRaise (cameBack X.env)).wrap K J gd lv) none (gd false) (lv []) c p [] :: fs) s3 := fun {σ7 H7} G7 n7 => by
            obtain ⟨m', hm, w7⟩ := hN ys' σ7 H7 n7
            have pin7 : ∀ q ∈ pinsAt fp s5.heap, s3.heap.get? q.1 = some q.2 ∧ H7 q.1 = none := fun q hq => by
              obtain ⟨acc7, cc7, _, I7⟩ := G7
              have z := I7.pin q (List.mem_append_right _ (List.mem_cons_of_mem _ (List.mem_append_right _ hq)))
              exact ⟨z.1, z.2.1⟩
            refine ih m' hm n' (i + 1) ys' s₀' s3 σ7 H7 hn' w7 (gi_unpin G7) (T.keep _ _ _ st5 fun b hb o e => (pin7 (b, o) (mem_pinsAt hb e)).1) fun b hb => ?_
            obtain ⟨o, e, _⟩ := T.obj _ _ st5 b hb
            exact (pin7 (b, o) (mem_pinsAt hb e)).2
          cases f with
          | next =>
            obtain ⟨σ7, H7, G7, n7⟩ := hs3
            exact seg_again rfl (again G7 n7)
          | cont =>
            obtain ⟨σ7, H7, G7, n7⟩ := hs3
            exact seg_again rfl (again G7 n7)
          | brk =>
            obtain ⟨σ7, H7, G7, n7⟩ := hs3
            exact seg_leaf (.ok .next) (k.ok n' ys' s₀' s3 .next hn' ⟨σ7, H7, gi_unpin G7, n7⟩)
          | ret v =>
            obtain ⟨v7, σ7, H7, G7, r7, q7⟩ := hs3
            exact seg_leaf (.ok (.ret v)) (k.ok n' ys' s₀' s3 (.ret v) hn' ⟨v7, σ7, H7, gi_unpin G7, r7, q7⟩)
  exact loop m0 n 0 ys s₀ s2 σ H2 hn w0 ⟨acc, cc, r, I2⟩ st2 fun b hb => (f2 b hb).1
end
end DL
set_option Elab.async false
set_option linter.all false
set_option maxRecDepth 100000
set_option maxHeartbeats 4000000
namespace DL
open PySem L2 PySem.Spec PySem.W PyProof.Rows GenW
/-- what is wanted behind a statement of a generator: by what is out so far -/
structure Y3 (M : Ghost) where
  nx : List D → DEnv → M.G → Prop
  bk : List D → DEnv → M.G → Prop
  ct : List D → DEnv → M.G → Prop
abbrev YW (M : Ghost) := Y3 M → List D → DEnv → M.G → Prop
def tgY (X : Cx) (st : Stmt) : TGn := fun D ys σ H => ∀ (A : Around) (S : Addr) (ip : List (Addr × Obj)) (R : GenEnd) (n : Nat) (s₀ : Shared) (c : Code) (fs : List Frame) (K : Flow → Sem PySem.Fin) (J : Value → Sem PySem.Fin) (gd : Bool → Bool) (lv : List Value → List Value) (s : Shared),
  GC X S ip A c fs gd → n + ys.length = sizeLine → GK X S ip A R c fs K J D → GI X S ip ys σ H s → Seg (model X.prog X.w) A R (GY X S) n s₀ c ((exec st X.env).wrap K J gd lv) fs s
def tgsY (X : Cx) (st : List Stmt) : TGn := fun D ys σ H => ∀ (A : Around) (S : Addr) (ip : List (Addr × Obj)) (R : GenEnd) (n : Nat) (s₀ : Shared) (c : Code) (fs : List Frame) (K : Flow → Sem PySem.Fin) (J : Value → Sem PySem.Fin) (gd : Bool → Bool) (lv : List Value → List Value) (s : Shared),
  GC X S ip A c fs gd → n + ys.length = sizeLine → GK X S ip A R c fs K J D → GI X S ip ys σ H s → Seg (model X.prog X.w) A R (GY X S) n s₀ c ((execs st X.env).wrap K J gd lv) fs s
theorem gs_tY {X : Cx} {st : Stmt} : GS X st (tgY X st) := ⟨fun A S ip R n ys s₀ c fs K J gd lv s σ H D g hn k hI ht => ht A S ip R n s₀ c fs K J gd lv s g hn k hI⟩
theorem gss_tY {X : Cx} {st : List Stmt} : GSs X st (tgsY X st) := ⟨fun A S ip R n ys s₀ c fs K J gd lv s σ H D g hn k hI ht => ht A S ip R n s₀ c fs K J gd lv s g hn k hI⟩
theorem tgY_of {X : Cx} {st : Stmt} {t : TGn} (h : GS X st t) {D : GEnds} {ys : List V} {σ : L2.St} {H : Hp} (q : t D ys σ H) : tgY X st D ys σ H := fun A S ip R n s₀ c fs K J gd lv s g hn k hI => h.run A S ip R n ys s₀ c fs K J gd lv s σ H D g hn k hI q
theorem tgsY_of {X : Cx} {st : List Stmt} {t : TGn} (h : GSs X st t) {D : GEnds} {ys : List V} {σ : L2.St} {H : Hp} (q : t D ys σ H) : tgsY X st D ys σ H := fun A S ip R n s₀ c fs K J gd lv s g hn k hI => h.run A S ip R n ys s₀ c fs K J gd lv s σ H D g hn k hI q
section
variable {M : Ghost} {C : Ct M} {W W1 W2 W' : Wd M} {σ : L2.St} {ρ : DEnv} {e c : Expr} {es : List Expr} {we : EW M} {pos p yp : Pos} {wa : AW M} {st : Stmt} {sts a b : List Stmt} {w u : YW M}
structure LfY (C : Ct M) (W : Wd M) (k : Y3 M) (D : GEnds) : Prop where
  nx : ∀ σ' ρ' W' ys ds, Gs W W' → Sat C σ' ρ' W' → RpA C.X.K W'.F W'.R ys ds → k.nx ds ρ' W'.g → D.nx ys σ' W'.H
  bk : ∀ σ' ρ' W' ys ds, Gs W W' → Sat C σ' ρ' W' → RpA C.X.K W'.F W'.R ys ds → k.bk ds ρ' W'.g → D.bk ys σ' W'.H
  ct : ∀ σ' ρ' W' ys ds, Gs W W' → Sat C σ' ρ' W' → RpA C.X.K W'.F W'.R ys ds → k.ct ds ρ' W'.g → D.ct ys σ' W'.H
theorem LfY.step {k : Y3 M} {D : GEnds} (l : LfY C W k D) (g : Gs W W1) : LfY C W1 k D :=
  ⟨fun σ' ρ' W' ys ds g' => l.nx σ' ρ' W' ys ds (g.trans g'), fun σ' ρ' W' ys ds g' => l.bk σ' ρ' W' ys ds (g.trans g'), fun σ' ρ' W' ys ds g' => l.ct σ' ρ' W' ys ds (g.trans g')⟩
structure DY (C : Ct M) (st : Stmt) (w : YW M) : Prop where
  run : ∀ (σ : L2.St) (ρ : DEnv) (W : Wd M) (k : Y3 M) (N : GEnds) (ys : List V) (ds : List D), Sat C σ ρ W → RpA C.X.K W.F W.R ys ds → LfY C W k N → w k ds ρ W.g → tgY C.X st N ys σ W.H
structure DYs (C : Ct M) (st : List Stmt) (w : YW M) : Prop where
  run : ∀ (σ : L2.St) (ρ : DEnv) (W : Wd M) (k : Y3 M) (N : GEnds) (ys : List V) (ds : List D), Sat C σ ρ W → RpA C.X.K W.F W.R ys ds → LfY C W k N → w k ds ρ W.g → tgsY C.X st N ys σ W.H
@[simp] def yNext : YW M := fun k ds ρ g => k.nx ds ρ g
@[simp] def ySeq (w u : YW M) : YW M := fun k ds ρ g => w { k with nx := u k } ds ρ g
@[simp] def yP (w : SW M) : YW M := fun k ds ρ g => w { nx := k.nx ds, rt := fun _ _ => False, bk := k.bk ds, ct := k.ct ds } ρ g
@[simp] def yYield (we : EW M) : YW M := fun k ds ρ g => ds.length < sizeLine ∧ we ρ g fun d g' => k.nx (ds ++ [d]) ρ g'
@[simp] def yIf (c : TW M) (w u : YW M) : YW M := fun k ds ρ g => c ρ g fun b g' => if b = true then w k ds ρ g' else u k ds ρ g'
theorem dys_nil : DYs C [] yNext := ⟨fun σ ρ W k N ys ds S r l h => tgsY_of gss_nil (l.nx σ ρ W ys ds (Gs.refl W) S r h)⟩
theorem dys_cons (h1 : DY C st w) (h2 : DYs C sts u) : DYs C (st :: sts) (ySeq w u) := ⟨fun σ ρ W k N ys ds S r l h =>
  tgsY_of (gss_cons gs_tY gss_tY) (h1.run σ ρ W { k with nx := u k } _ ys ds S r ⟨fun σ' ρ' W' ys' ds' g S' r' q => h2.run σ' ρ' W' k N ys' ds' S' r' (l.step g) q, l.bk, l.ct⟩ h)⟩
theorem dys_one (h1 : DY C st w) : DYs C [st] w := ⟨fun σ ρ W k N ys ds S r l h =>
  tgsY_of (gss_cons gs_tY gss_nil) (h1.run σ ρ W k _ ys ds S r ⟨fun σ' ρ' W' ys' ds' g S' r' q => l.nx σ' ρ' W' ys' ds' g S' r' q, l.bk, l.ct⟩ h)⟩
theorem dy_plain {ws : SW M} (h1 : DS C st ws) : DY C st (yP ws) := ⟨fun σ ρ W k N ys ds S r l h =>
  tgY_of (gs_ps ps_tOf) (h1.run σ ρ W { nx := k.nx ds, rt := fun _ _ => False, bk := k.bk ds, ct := k.ct ds } (N.at ys) S
    ⟨fun σ' ρ' W' g S' q => l.nx σ' ρ' W' ys ds g S' (r.gs g) q, fun _ _ _ _ _ _ q => q.elim, fun σ' ρ' W' g S' q => l.bk σ' ρ' W' ys ds g S' (r.gs g) q, fun σ' ρ' W' g S' q => l.ct σ' ρ' W' ys ds g S' (r.gs g) q⟩ h)⟩
theorem dy_yield (he : DE C e we) (hco : C.X.env.scope.isCoroutine = false := by rfl) (hi : interactive C.X.env = false := by rfl) : DY C (.Expr (.Yield (some e) yp) pos) (yYield we) := ⟨fun σ ρ W k N ys ds S r l h =>
  tgY_of (gs_yield pe_tOf hco hi) ⟨by rw [r.length]; exact h.1, he.run σ ρ W _ _ S (fun v d W1 g1 k1 r1 q1 => l.nx σ ρ W1 (ys ++ [v]) (ds ++ [d]) g1.s (S.step g1 k1) ((r.step g1).append (.cons r1 .nil)) q1) h.2⟩⟩
theorem dy_if {wc : TW M} (hc : DT C c wc) (ha : DYs C a w) (hb : DYs C b u) : DY C (.If c a b pos) (yIf wc w u) := ⟨fun σ ρ W k N ys ds S r l h =>
  tgY_of (gs_if pt_tOf gss_tY gss_tY) (hc.run σ ρ W _ _ S (fun b W' g ok q => by
    cases b with
    | true => exact iteT (ha.run σ ρ W' k N ys ds (S.step g ok) (r.step g) (l.step g.s) q)
    | false => exact iteF (hb.run σ ρ W' k N ys ds (S.step g ok) (r.step g) (l.step g.s) q)) h)⟩
def forY (gw : GW) (wb : YW M) : List D → Y3 M → List D → DEnv → M.G → Prop
  | [], k => k.nx
  | x :: xs, k => fun ds ρ g => gw x ρ fun ρ' => wb { nx := forY gw wb xs k, bk := k.nx, ct := forY gw wb xs k } ds ρ' g
@[simp] def yFor (wi : IW M) (gw : GW) (wb : YW M) : YW M := fun k ds ρ g => wi ρ g fun xs g' => forY gw wb xs k ds ρ g'
theorem dy_for {tg iter : Expr} {body : List Stmt} {is : List Nat} {wi : IW M} {gw : GW} {wb : YW M} (hp : PassesOwn (model C.X.prog C.X.w) C.X.A C.X.env C.X.xe) (hc : C.X.calm = true) (hi : DI C tg iter wi) (hg : DG C is tg gw) (hb : DYs C body wb)
    (hs : ∀ x, foldedSetIterable iter C.X.env x = pure x := by intro _; rfl) : DY C (.For tg iter body [] pos) (yFor wi gw wb) := ⟨fun σ ρ W k N ys0 es0 S r0 l h => by
  refine tgY_of (gs_for hp hc pi_tOf pg_tOf gss_tY hs) (hi.run σ ρ W _ _ S (fun J ds W1 g1 k1 wk q1 => ?_) h)
  refine ⟨fun i m ys σ H => ∃ (ρ : DEnv) (W2 : Wd M) (es : List _), W2.H = H ∧ Sat C σ ρ W2 ∧ Gs W1 W2 ∧ RpA C.X.K W2.F W2.R ys es ∧ m = ds.length - i ∧ forY gw wb (ds.drop i) k es ρ W2.g, ⟨ds.length, ρ, W1, es0, rfl, S.step g1 k1, Gs.refl _, r0.step g1, rfl, q1⟩, ?_⟩
  rintro i m ys σ2 H2 ⟨ρ2, W2, es, rfl, S2, g2, r2, rfl, q2⟩
  cases hd : ds[i]? with
  | none =>
    have e : ds.drop i = [] := List.drop_eq_nil_of_le (List.getElem?_eq_none_iff.mp hd)
    rw [e] at q2
    exact .inl ⟨wk.stop i W2 g2 S2.ok hd, l.nx σ2 ρ2 W2 ys es (g1.s.trans g2) S2 r2 q2⟩
  | some d =>
    obtain ⟨hlt, hd'⟩ := List.getElem?_eq_some_iff.mp hd
    have e : ds.drop i = d :: ds.drop (i + 1) := by rw [List.drop_eq_getElem_cons hlt, hd']
    rw [e] at q2
    obtain ⟨go, yld⟩ := wk.go i W2 d g2 S2.ok hd
    refine .inr ⟨go, fun ys σ H => ∃ (ρ : DEnv) (W3 : Wd M) (es : List _), W3.H = H ∧ Sat C σ ρ W3 ∧ Gs W1 W3 ∧ RpA C.X.K W3.F W3.R ys es ∧ forY gw wb (ds.drop (i + 1)) k es ρ W3.g, ?_, fun x H' y => ?_⟩
    · rintro ys' σ' H' ⟨ρ3, W3, es3, e3, S3, g3, r3, q3⟩
      exact ⟨ds.length - (i + 1), by omega, ρ3, W3, es3, e3, S3, g3, r3, rfl, q3⟩
    · obtain ⟨W3, rfl, g3, k3, e3, r3⟩ := yld x H' y
      rw [← e3] at q2
      refine hg.run σ2 ρ2 W3 x d _ _ (S2.step g3 k3) r3 (fun σ4 ρ4 S4 _ _ q4 => ?_) q2
      have g13 : Gs W1 W3 := g2.trans g3.s
      have nx : ∀ σ' ρ' W' ys' es', Gs W3 W' → Sat C σ' ρ' W' → RpA C.X.K W'.F W'.R ys' es' → forY gw wb (ds.drop (i + 1)) k es' ρ' W'.g → ∃ (ρ : DEnv) (W4 : Wd M) (es : List _), W4.H = W'.H ∧ Sat C σ' ρ W4 ∧ Gs W1 W4 ∧ RpA C.X.K W4.F W4.R ys' es ∧ forY gw wb (ds.drop (i + 1)) k es ρ W4.g :=
        fun σ' ρ' W' ys' es' g S' r' q => ⟨ρ', W', es', rfl, S', g13.trans g, r', q⟩
      exact hb.run σ4 ρ4 W3 { nx := forY gw wb (ds.drop (i + 1)) k, bk := k.nx, ct := forY gw wb (ds.drop (i + 1)) k } _ ys es S4 (r2.step g3) ⟨nx, fun σ' ρ' W' ys' es' g S' r' q => l.nx σ' ρ' W' ys' es' ((g1.s.trans g13).trans g) S' r' q, nx⟩ q4⟩
end
end DL
set_option Elab.async false
set_option linter.all false
set_option maxRecDepth 100000
set_option maxHeartbeats 4000000
namespace DL
open PySem L2 PySem.Spec PySem.W PyProof.Rows GenW
/-- a def's promise, whatever is being shown -/
structure FnKB (P : Program) (w : World) (K : PySem.W.Frag) (mg : Str → Option Value) (base : Heap) (k : Nat) (x : Str) (ps : List Str) (sp : Sp) : Prop where
  ex : ∃ (f : Addr) (fd : FuncData), FnOk P w K mg base (L2.CX P w) k f fd ps sp ∧ mg x = some (.ref f) ∧ PySem.W.keepIn K (.ref f) = true ∧ Binds K fd ps []
section
variable {P : Program} {w : World} {K : PySem.W.Frag} {mg : Str → Option Value} {base : Heap}
theorem FnKB.b {k : Nat} {x : Str} {ps : List Str} {sp : Sp} (F : FnKB P w K mg base k x ps sp) : FnB P w K mg base k x ps sp := by
  obtain ⟨f, fd, F, h⟩ := F.ex
  exact ⟨f, fd, ⟨F.len, fun A fr s H as us xs Q E room _ => F.run A fr s H as us xs Q E room⟩, h⟩
theorem fnKS_of {x qual : Str} {st : Stmt} {f : Addr} {fd : FuncData} {N ps : List Str} {k : Nat} {sp : DSp stg} {wb : (Exn → stg.G → Prop) → SW stg} (F : Fun K x qual st f fd) (Sc : FnScope N ps (defScope st))
    (hbody : ∀ (cdv : Value) (A : Around) (outer : List Env) (s : Shared) (H : Hp) (E : XK) (W0 : Wd stg) (EX : Exn → stg.G → Prop), Room k (A.deeper (PyProof.Rows.envOfC qual (defScope st) s.heap.objs.size f cdv)) →
      TakesD (M := stg) ⟨cxOf (L2.CX P w) P w K mg base N qual (defScope st) f cdv A outer s H E, W0, xk EX, W0⟩ → DSs (M := stg) ⟨cxOf (L2.CX P w) P w K mg base N qual (defScope st) f cdv A outer s H E, W0, xk EX, W0⟩ (defBody st) (wb EX))
    (hpure : ∀ (ds : List D) (g : Nat) (q : D → Nat → Prop) (ex : Exn → Nat → Prop), ds.length = ps.length → sp ds g q ex → wb ex (kEndS q) (startD N ds) g) :
    FnOk P w K mg base (L2.CX P w) (k + 1) f fd ps (liftSp K mg ps.length sp) := by
  obtain ⟨oc, od, kV, doc, pm, an, cdv, ct, osl, rfl, lk, hcd⟩ := F.ex
  refine fn_of lk hcd Sc (fun vs H Q E h => ?_) (fun A outer s H vs Q E hr h => ?_)
  · obtain ⟨W, ds, q, ex, _, _, r, hl, _⟩ := h
    rw [r.length, hl]
  · obtain ⟨W, ds, q, ex, rfl, ok, r, hl, hsp, hQ, hE⟩ := h
    have tk : TakesD (M := stg) ⟨cxOf (L2.CX P w) P w K mg base N qual (defScope st) f cdv A outer s W.H E, W, xk ex, W⟩ := fun u s' x =>
      takes_of (X := cxOf (L2.CX P w) P w K mg base N qual (defScope st) f cdv A outer s W.H E) rfl rfl rfl rfl u s' (by
        obtain ⟨a, B, sI, pins, σ, H, cls, d, e, I, nb, up, sky, na, os, ag, x, ρ, W', z1, z2, z3, z4⟩ := x
        exact ⟨a, B, sI, pins, σ, H, cls, d, e, I, nb, up, sky, na, os, ag, hE _ _ _ ⟨x, W', z1, z2.go, z2.ok, z3, z4⟩⟩)
    refine ⟨_, pss_tOf, ?_⟩
    refine (hbody cdv A outer s W.H E W ex hr tk).run _ _ W (kEndS q) _ (sat_start ok rfl rfl r) ⟨fun σ' ρ' W' g S' h => ?_, fun v d W' g k r h => ?_, fun _ _ _ _ _ h => h.elim, fun _ _ _ _ _ h => h.elim⟩ (hpure ds W.g q ex hl hsp)
    · obtain ⟨n, hn, h⟩ := h
      exact hQ .non .non ({ W' with g := n } : Wd stg) (S'.go.trans (go_more (n := n))) (wok_more S'.ok hn) .non h
    · obtain ⟨n, hn, h⟩ := h
      exact hQ v d ({ W' with g := n } : Wd stg) (g.trans (go_more (n := n))) (wok_more k hn) r h
theorem fnKB_of {k : Nat} {f : Addr} {fd : FuncData} {x : Str} {ps : List Str} {sp : Sp} {qual : Str} {st : Stmt} (F : Fun K x qual st f fd) (g : mg x = some (.ref f)) (h : FnOk P w K mg base (L2.CX P w) k f fd ps sp) (b : Binds K fd ps []) : FnKB P w K mg base k x ps sp := ⟨f, fd, h, g, F.kp, b⟩
end
section
variable {M : Ghost} {C : Ct M} {W W1 W2 W' : Wd M} {σ : L2.St} {ρ : DEnv} {e : Expr} {es : List Expr} {we : EW M} {pos p : Pos} {wa : AW M}
theorem passes_never {X : Cx} : L2.Passes (L2.CX X.prog X.w) X (fun _ _ _ => False) := fun pins σ H s e s' I c => by
  obtain ⟨a, B, H', cls, d, _, _, _, _, _, _, _, z⟩ := c
  exact z.elim
theorem de_callK {k : Nat} {ps : List Str} {n : Nat} {sp : DSp M} {x : Str} (F : FnKB C.X.prog C.X.w C.X.K C.X.mg C.X.base k x ps (liftSp C.X.K C.X.mg n sp)) (hr : Room k C.X.A) (ha : DA C (e :: es) wa)
    (hg : Gl C.X x := by rfl) (hdb : (x == ("__debug__" : Str)) = false := by decide) (he : starEach (e :: es) C.X.env = (false, eval e C.X.env) :: starEach es C.X.env := by rfl) (hpl : (backTo pos (starEach es C.X.env)).any (·.1) = false := by rfl) :
    DE C (.Call (.Name x p) (e :: es) [] pos) (wCallB n sp wa xno) := ⟨fun σ ρ W Q q S hQ hw => by
  obtain ⟨f, fd, F, hm, hk, hb⟩ := F.ex
  refine tOf_of (L2.pe_call (E := fun _ _ _ => False) (dvs := []) (ds := []) F hr hg hm hk hb .nil passes_never pa_tOf hdb he hpl) (ha.run σ ρ W _ _ S (fun vs ds W1 g1 k1 r1 q1 => ?_) hw)
  show liftSp C.X.K C.X.mg n sp (vs ++ []) W1.H Q (fun _ _ _ => False)
  rw [List.append_nil]
  exact ⟨W1, ds, q, fun x g => False, rfl, k1, r1, q1.1, q1.2, fun v d W2 g2 k2 r2 q2 => hQ v d W2 (g1.trans g2) k2 r2 q2, fun cls d H' h => by
    obtain ⟨_, _, _, _, _, _, z⟩ := h
    exact z⟩⟩
end
abbrev GSpD (M : Ghost) := List D → M.G → (List D → M.G → Prop) → Prop
def liftG (K : PySem.W.Frag) {M : Ghost} (n : Nat) (sp : GSpD M) : SpG := fun vs H Q _ => ∃ (W : Wd M) (ds : List D) (q : List D → M.G → Prop), W.H = H ∧ Wok K W ∧ RpA K W.F W.R vs ds ∧ ds.length = n ∧ sp ds W.g q ∧
  ∀ ys es W', Go W W' → Wok K W' → RpA K W'.F W'.R ys es → q es W'.g → Q ys W'.H
@[simp] def kEndY {M : Ghost} (q : List D → M.G → Prop) : Y3 M := { nx := fun es _ g => q es g, bk := fun _ _ _ => False, ct := fun _ _ _ => False }
structure GnB (P : Program) (w : World) (K : PySem.W.Frag) (mg : Str → Option Value) (base : Heap) (k : Nat) (x : Str) (ps : List Str) (sp : SpG) : Prop where
  ex : ∃ (f : Addr) (fd : FuncData), GFn P w K mg base k f fd ps sp ∧ mg x = some (.ref f) ∧ PySem.W.keepIn K (.ref f) = true ∧ Binds K fd ps []
section
variable {P : Program} {w : World} {K : PySem.W.Frag} {mg : Str → Option Value} {base : Heap}
theorem gfnD_of {M : Ghost} {x qual : Str} {st : Stmt} {f : Addr} {fd : FuncData} {N ps : List Str} {k : Nat} {sp : GSpD M} {wb : YW M} (F : Fun K x qual st f fd) (Sc : GScope N ps (defScope st))
    (hbody : ∀ (cdv : Value) (A : Around) (outer : List Env) (s : Shared) (H : Hp) (E : XK) (pn : List (Addr × Obj)) (W0 : Wd M), Room k (A.deeper (PyProof.Rows.envOfC qual (defScope st) s.heap.objs.size f cdv)) →
      DYs (M := M) ⟨gcxOf P w K mg base N qual (defScope st) f cdv A outer s H E pn, W0, xno, W0⟩ (defBody st) wb)
    (hpure : ∀ (ds : List D) (g : M.G) (q : List D → M.G → Prop), ds.length = ps.length → sp ds g q → wb (kEndY q) [] (startD N ds) g) :
    GFn P w K mg base (k + 1) f fd ps (liftG K ps.length sp) := by
  obtain ⟨oc, od, kV, doc, pm, an, cdv, ct, osl, rfl, lk, hcd⟩ := F.ex
  refine gfn_of lk hcd Sc (fun vs H Q E h => ?_) (fun A outer s H vs Q E pn hr h => ?_)
  · obtain ⟨W, ds, q, _, _, r, hl, _⟩ := h
    rw [r.length, hl]
  · obtain ⟨W, ds, q, rfl, ok, r, hl, hsp, hQ⟩ := h
    refine ⟨_, gss_tY, ?_⟩
    exact (hbody cdv A outer s W.H E pn W hr).run _ _ W (kEndY q) _ [] [] (sat_start ok rfl rfl r) .nil ⟨fun σ' ρ' W' ys es g S' r' h => hQ ys es W' S'.go S'.ok r' h, fun _ _ _ _ _ _ _ _ h => h.elim, fun _ _ _ _ _ _ _ _ h => h.elim⟩ (hpure ds W.g q hl hsp)
theorem gnB_of {k : Nat} {f : Addr} {fd : FuncData} {x : Str} {ps : List Str} {sp : SpG} {qual : Str} {st : Stmt} (F : Fun K x qual st f fd) (g : mg x = some (.ref f)) (h : GFn P w K mg base k f fd ps sp) (b : Binds K fd ps []) : GnB P w K mg base k x ps sp := ⟨f, fd, h, g, F.kp, b⟩
end
section
variable {M : Ghost} {C : Ct M} {W W1 W2 W' : Wd M} {σ : L2.St} {ρ : DEnv} {e : Expr} {es : List Expr} {we : EW M} {pos p pos2 p2 : Pos} {wa : AW M}
@[simp] def wListG (n : Nat) (sp : GSpD M) (wa : AW M) : NW M := fun ρ g q => wa ρ g fun ds g' => ds.length = n ∧ sp ds g' q
theorem dn_listG {k n : Nat} {ps : List Str} {sp : GSpD M} {x : Str} (F : GnB C.X.prog C.X.w C.X.K C.X.mg C.X.base k x ps (liftG C.X.K n sp)) (hr : Room (k + 3) C.X.A) (ha : DA C (e :: es) wa) (hml : C.X.mg "list" = none)
    (hg : Gl C.X x := by rfl) (hgl : Gl C.X "list" := by rfl) (hdb : (x == ("__debug__" : Str)) = false := by decide) (he : starEach (e :: es) C.X.env = (false, eval e C.X.env) :: starEach es C.X.env := by rfl) (hpl : (backTo pos (starEach es C.X.env)).any (·.1) = false := by rfl)
    (he2 : starEach [.Call (.Name x p) (e :: es) [] pos] C.X.env = (false, eval (.Call (.Name x p) (e :: es) [] pos) C.X.env) :: starEach [] C.X.env := by rfl) :
    DN C (.Call (.Name "list" p2) [.Call (.Name x p) (e :: es) [] pos] [] pos2) (wListG n sp wa) := ⟨fun σ ρ W Q q S hQ hw => by
  obtain ⟨f, fd, F, hm, hk, hb⟩ := F.ex
  refine tOf_of (pe_listG (E := fun _ _ _ => False) (L2.pgen_call (dvs := []) (ds := []) F (hr.mono (by omega)) hg hm hk hb .nil pa_tOf hdb he hpl) passes_never (fun _ _ _ z => z.elim) hr hgl hml (by decide +kernel) (he := he2)) (ha.run σ ρ W _ _ S (fun vs ds W1 g1 k1 r1 q1 => ?_) hw)
  show liftG C.X.K n sp (vs ++ []) W1.H _ _
  rw [List.append_nil]
  refine ⟨W1, ds, q, rfl, k1, r1, q1.1, q1.2, fun ys es' W2 g2 k2 r2 q2 t ht => ?_⟩
  exact hQ t _ _ (W2.new t (.lst ys)) ((g1.trans g2).trans (Go.new k2 ht)) (k2.new ht) upd_same (k2.noF ht) (k2.noR ht) (by
    cases z : W.H t with
    | none => rfl
    | some o => exact absurd ht ((g1.trans g2).live t (by rw [z]; simp))) (r2.step (Go.new k2 ht)) q2⟩
end
end DL
set_option Elab.async false
set_option linter.all false
set_option maxRecDepth 100000
set_option maxHeartbeats 1000000
namespace DL
open PySem L2
section
variable {X : Cx}
def rSrtIT (K : PySem.W.Frag) : List V → Hp → VK → Prop := fun vs H Q => ∃ (a : Addr) (ns : List Int), vs = [.ref a] ∧ SqT K H a (ns.map V.int) ∧
  ∀ (ys : List Int) (p : Addr), ys.Perm ns → ys.Pairwise (· ≤ ·) → H p = none → Q (.ref p) (upd H p (.lst (ys.map V.int)))
theorem cr_srtIT : CallR X (.builtin "sorted") (rSrtIT X.K) := by
  intro pins s σ H vs us Q I r h
  obtain ⟨a, ns, rfl, ha, hq⟩ := h
  rw [Vals.ref1 r]
  obtain ⟨its, rv, ⟨o, e, c, n, d⟩, hz⟩ := I.tuple ha
  have ol : its.length ≤ sizeLine := by
    rw [← rv.length]
    exact hz
  have hi := rv.ints
  refine Calls.call_function_entry PyProof.Rows.kind_sorted PyProof.Rows.plain_sorted PyProof.Rows.entry_sorted (PyProof.Rows.args_sorted1 _) ?_
  unfold Builtin.«sorted»
  refine wpAny_bind (m := checkCount "sorted" 1 1 _) (wpAny_pure ?_)
  apply wpAny_bind
  refine wpAny_collect_seq a (.inr rfl) e c d (fun h' kp => ?_) (by rw [List.size_toArray]; exact ol)
  have J : Inv X pins σ H { s with heap := h' } := I.kept (t' := s.toks) kp
  have eo : its.toArray.toList = its := List.toList_toArray
  rw [eo]
  apply wpAny_bind
  refine wpAny_newList ?_ ol
  have new : (h'.push (PyProof.Rows.seqObj "list" its.toArray 0)).get? h'.objs.size = some (PyProof.Rows.seqObj "list" its.toArray 0) := Heap.get?_push_size _ rfl
  apply wpAny_bind
  apply wpAny_holding
  refine wpAny_call_entry PyProof.Rows.slot_list_sort ⟨_, new, rfl⟩ PyProof.Rows.entry_list_sort
    (SrtO.list_sort_ord SrtO.swo_int new ol (fun h2 => SrtO.ints_sortable hi h2) fun out h1 h2 => ⟨_, rfl, ?_⟩) (PyProof.Rows.args_list_sort _)
  obtain ⟨k1, k2, k3⟩ := SrtO.ints_out hi h1 h2
  obtain ⟨ep, he'⟩ := PyProof.Rows.sortedHeap_at (vs := its) (out := out.toArray) new
  have kp2 : ∀ b x, h'.get? b = some x → (PyProof.Rows.sortedHeap (h'.push (PyProof.Rows.seqObj "list" its.toArray 0)) h'.objs.size its out.toArray).get? b = some x := fun b x e => by
    have lt := Heap.lt_size e
    rw [PyProof.Rows.sortedHeap_old (Nat.ne_of_lt lt) (by rw [PyProof.Rows.size_push']; exact Nat.lt_succ_of_lt lt)]
    exact Heap.get?_push_of_some _ e
  have hlen : ((out.map SrtO.iv).map V.int).length ≤ sizeLine := by
    rw [List.length_map, k2.length_eq]
    rw [List.length_map] at hz
    exact hz
  refine wpAny_pure ⟨_, rfl, .ref h'.objs.size, upd H h'.objs.size (.lst ((out.map SrtO.iv).map V.int)), ?_, rfl, hq _ _ k2 k3 (J.hok.fresh (Nat.le_refl _))⟩
  exact J.laid (t' := s.toks) kp2 (Nat.le_refl _) ⟨hlen, out, ep, vals_of_ints k1, he'⟩
end
section
variable {M : Ghost} {C : Ct M}
/-- a tuple of numbers, sorted -/
def cSortedIT (ds : List D) (q : List D → Prop) : Prop := ∃ xs : List Int, ds = [.tup (xs.map D.int)] ∧ ∀ ys : List Int, ys.Perm xs → ys.Pairwise (· ≤ ·) → q (ys.map D.int)
theorem calln_sortedIT : CallN C (.builtin "sorted") cSortedIT := by
  refine ⟨_, cr_srtIT, fun W vs ds Q q k r hQ h => ?_⟩
  obtain ⟨xs, rfl, h⟩ := h
  obtain ⟨v, rfl, r0⟩ := pair1 r
  obtain ⟨p, vs, rfl, hp, ra⟩ := r0.tup_inv
  have ev := ra.ints
  subst ev
  refine ⟨p, xs, rfl, same_tup k.sub hp, fun ys t hperm srt ht => ?_⟩
  exact hQ t _ _ (W.new t (.lst _)) (Go.new k ht) (k.new ht) rfl upd_same (k.noF ht) (k.noR ht) ht (ints_rpa ys) (h ys hperm srt)
end
end DL
set_option Elab.async false
set_option linter.all false
set_option maxRecDepth 100000
set_option maxHeartbeats 1000000
namespace DL
open PySem L2
abbrev d_l_draw : DSp stg := dDraw
/-- one of the items -/
def d_l_pick : DSp stg := fun ds (g : Nat) q _ => ∃ c xs, ds = [.ob 0, c] ∧ itemsOf c = some xs ∧ xs ≠ [] ∧ xs.length ≤ 16777216 ∧ g + 1 ≤ 2 ^ 60 ∧ ∀ d ∈ xs, q d (g + 1)
/-- a word: letters a to z -/
def Lets (w : List Nat) : Prop := ∀ c ∈ w, 97 ≤ c ∧ c < 123
/-- a drawn word of at most so many letters -/
def d_l_drawn : DSp stg := fun ds (g : Nat) q _ => ∃ most : Nat, ds = [.ob 0, .int most] ∧ 1 ≤ most ∧ most ≤ 30 ∧ g + 40 ≤ 2 ^ 60 ∧ ∀ w : List Nat, 1 ≤ w.length → w.length ≤ most → Lets w → q (.str w) (g + 40)
/-- the tail at i is less than the tail at j -/
def tlt (w : List Nat) (i j : Nat) : Bool := decide (w.drop i < w.drop j)
/-- the places in the order of their tails -/
def tOrd (w : List Nat) : List Nat := (List.range w.length).mergeSort fun i j => !tlt w j i
def nats (xs : List Nat) : List D := xs.map fun (i : Nat) => D.int (i : Int)
def d_tail_order : DSp stg := fun ds g q _ => ∃ w : List Nat, ds = [.str w] ∧ w.length ≤ 1000 ∧ q (.tup (nats (tOrd w))) g
/-- the same, by counting -/
def d_l_counted : DSp stg := d_tail_order
def isPerm (o : List Nat) : Prop := o.Perm (List.range o.length)
/-- the place of each number in a row of different ones -/
def inv (o : List Nat) : List Nat := (List.range o.length).map fun p => o.idxOf p
def d_ranks_in : DSp stg := fun ds g q _ => ∃ o : List Nat, ds = [.tup (nats o)] ∧ isPerm o ∧ o.length ≤ 1000 ∧ q (.tup (nats (inv o))) g
def d_tail_ranks : DSp stg := fun ds g q _ => ∃ w : List Nat, ds = [.str w] ∧ w.length ≤ 1000 ∧ q (.tup (nats (inv (tOrd w)))) g
def txts (xs : List (List Nat)) : List D := xs.map D.str
/-- less than each of its tails behind the first letter -/
def simpW (w : List Nat) : Bool := (List.range' 1 (w.length - 1)).all fun p => decide (w < w.drop p)
def d_is_simple : DSp stg := fun ds g q _ => ∃ w : List Nat, ds = [.str w] ∧ w.length ≤ 1000 ∧ q (.bl (simpW w)) g
def lynW (w : List Nat) : Bool := decide (w ≠ []) && simpW w
def d_l_is_simple : DSp stg := fun ds g q _ => ∃ w : List Nat, ds = [.str w] ∧ w.length ≤ 1000 ∧ q (.bl (lynW w)) g
/-- all words of a size -/
def allW (L : List Nat) : Nat → List (List Nat)
  | 0 => [[]]
  | n + 1 => (allW L n).flatMap fun h => L.map fun c => h ++ [c]
def d_l_all_words : DSp stg := fun ds g q _ => ∃ (L : List Nat) (n : Nat), ds = [.str L, .int n] ∧ L.length ≤ 4 ∧ n ≤ 5 ∧ q (.lst (txts (allW L n))) g
/-- the longest simple part from a place on -/
def lngW (w : List Nat) (b : Nat) : Nat := (((List.range' (b + 1) (w.length - b)).filter fun e => lynW ((w.drop b).take (e - b))).map fun e => e - b).foldl max 0
def d_l_longest : DSp stg := fun ds g q _ => ∃ (w : List Nat) (b : Nat), ds = [.str w, .int b] ∧ b < w.length ∧ w.length ≤ 1000 ∧ q (.int (lngW w b)) g
def cutW (w : List Nat) : Nat → Nat → List (List Nat)
  | 0, _ => []
  | f + 1, b => if b < w.length then (w.drop b).take (lngW w b) :: cutW w f (b + lngW w b) else []
def d_l_cut : DSp stg := fun ds g q _ => ∃ w : List Nat, ds = [.str w] ∧ w.length ≤ 1000 ∧ q (.tup (txts (cutW w w.length 0))) g
def d_l_is_less : DSp stg := fun ds g q _ => ∃ a b : List Nat, ds = [.str a, .str b] ∧ a.length ≤ 1000 ∧ b.length ≤ 1000 ∧ q (.bl (decide (a < b))) g
def repW (b : List Nat) (k : Nat) : List Nat := (List.replicate k b).flatten
/-- the places at which a pattern stands in a text -/
def occW (t p : List Nat) : List Nat := (List.range t.length).filter fun i => decide ((t.drop i).take p.length = p)
def d_l_stands : DSp stg := fun ds g q _ => ∃ t p : List Nat, ds = [.str t, .str p] ∧ t.length ≤ 10000 ∧ p.length ≤ 10000 ∧ q (.lst (nats (occW t p))) g
/-- the places of a block at which a pattern stands, the block coming again and again -/
def plbW (b p : List Nat) : List Nat := (List.range b.length).filter fun i => decide (((repW b (2 + p.length / b.length)).drop i).take p.length = p)
def d_places_in_block : DSp stg := fun ds g q _ => ∃ b p : List Nat, ds = [.str b, .str p] ∧ b ≠ [] ∧ b.length ≤ 1000 ∧ p.length ≤ 1000 ∧ q (.lst (nats (plbW b p))) g
/-- how often a pattern stands in a far word -/
def cntP (b p : List Nat) (t : Int) : Int := (((plbW b p).filter fun (r : Nat) => decide ((r : Int) ≤ b.length * t - p.length)).map fun (r : Nat) => ((b.length : Int) * t - p.length - r) / b.length + 1).sum
def d_count_places : DSp stg := fun ds g q _ => ∃ (b p : List Nat) (t : Int), ds = [.str b, .int t, .str p] ∧ b ≠ [] ∧ b.length ≤ 1000 ∧ p.length ≤ 1000 ∧ q (.int (cntP b p t)) g
/-- a drawn word, in the later laws -/
def d_l_word : DSp stg := fun ds (g : Nat) q _ => ∃ most : Nat, ds = [.ob 0, .int most] ∧ 1 ≤ most ∧ most ≤ 30 ∧ g + 40 ≤ 2 ^ 60 ∧ ∀ w : List Nat, 1 ≤ w.length → w.length ≤ most → Lets w → q (.str w) (g + 40)
/-- how often -/
def d_l_times : DSp stg := fun ds (g : Nat) q _ => ds = [.ob 0] ∧ g + 4 ≤ 2 ^ 60 ∧ ∀ t : Nat, 1 ≤ t → t ≤ 10 ^ 12 → q (.int t) (g + 4)
def d_l_pattern : DSp stg := fun ds (g : Nat) q _ => ∃ t : List Nat, ds = [.ob 0, .str t] ∧ t ≠ [] ∧ t.length ≤ 10000 ∧ Lets t ∧ g + 44 ≤ 2 ^ 60 ∧ ∀ w : List Nat, 1 ≤ w.length → w.length ≤ 24 → Lets w → q (.str w) (g + 44)
def d_l_due_k61 : DSp stg := fun ds g q _ => ∃ (b p : List Nat) (t : Nat), ds = [.str b, .int t, .str p] ∧ b ≠ [] ∧ p ≠ [] ∧ b.length ≤ 24 ∧ p.length ≤ 24 ∧ 1 ≤ t ∧ t ≤ 10 ^ 13 ∧ q (.int (cntP b p t)) g
/-- the rank of a place of an order, -1 for the place behind the last one -/
def rkE (o : List Nat) (p : Nat) : Int := (((inv o).map fun (i : Nat) => (i : Int)) ++ [-1]).getD p 0
/-- the indexes of the strict steps -/
def stpW (o : List Nat) : List Nat := ((List.range (o.length - 1)).filter fun i => decide (rkE o (o.getD (i + 1) 0 + 1) < rkE o (o.getD i 0 + 1))).map (· + 1)
def d_strict_steps : DSp stg := fun ds g q _ => ∃ o : List Nat, ds = [.tup (nats o)] ∧ isPerm o ∧ o.length ≤ 1000 ∧ q (.tup (nats (stpW o))) g
/-- the ways to choose -/
def chW (m : Int) : Nat → Int
  | 0 => 1
  | k + 1 => chW m k * (m - k) / (k + 1)
def d_choose : DSp stg := fun ds g q _ => ∃ (m : Int) (k : Nat), ds = [.int m, .int k] ∧ k ≤ 1000 ∧ -1000000000 ≤ m ∧ m ≤ 1000000000 ∧ q (.int (chW m k)) g
def risW (n : Nat) (m : Int) : Int := if 0 < m then chW (n + m - 1) n else if n = 0 then 1 else 0
def d_count_rising : DSp stg := fun ds g q _ => ∃ (n : Nat) (m : Int), ds = [.int n, .int m] ∧ n ≤ 1000 ∧ m ≤ 1000000 ∧ q (.int (risW n m)) g
def d_count_fillings : DSp stg := fun ds g q _ => ∃ (o : List Nat) (m : Int), ds = [.tup (nats o), .int m] ∧ isPerm o ∧ o.length ≤ 1000 ∧ m ≤ 1000000 ∧ q (.int (risW o.length (m - (stpW o).length))) g
/-- a row of the numbers of orders out of the row above -/
def eulS (c : List Int) (n : Int) : List Int := (List.range c.length).map fun (i : Nat) => ((i : Int) + 1) * c.getD i 0 + (n - i) * ((0 :: c).getD i 0)
def eulR (c : List Int) : Nat → List Int
  | 0 => c
  | k + 1 => eulS (eulR c k) (k + 2)
/-- the number of orders of n places with s strict steps -/
def eulW (n s : Nat) : Int := (eulR (1 :: List.replicate (n + s) 0) (n - 1)).getD s 0
def d_count_orders : DSp stg := fun ds g q _ => ∃ n s : Nat, ds = [.int n, .int s] ∧ n ≤ 1000 ∧ s ≤ 1000 ∧ q (.int (eulW n s)) g
/-- the tails of a word with their places, in their order -/
def tlsW (w : List Nat) : List D := (tOrd w).map fun i => .tup [.str (w.drop i), .int (i : Int)]
def d_l_tails : DSp stg := fun ds g q _ => ∃ w : List Nat, ds = [.str w] ∧ w.length ≤ 1000 ∧ q (.lst (tlsW w)) g
def d_l_by_tails : DSp stg := d_tail_order
/-- a drawn order -/
def d_l_ordered : DSp stg := fun ds (g : Nat) q _ => ∃ most : Nat, ds = [.ob 0, .int most] ∧ 1 ≤ most ∧ most ≤ 30 ∧ g + 150 ≤ 2 ^ 60 ∧ ∀ o : List Nat, 1 ≤ o.length → o.length ≤ most → isPerm o → q (.tup (nats o)) (g + 150)
def d_l_ways : DSp stg := fun ds g q _ => ∃ (m : Int) (k : Nat), ds = [.int m, .int k] ∧ (k : Int) ≤ m ∧ k ≤ 1000 ∧ m ≤ 1000000000 ∧ q (.int (chW m k)) g
end DL
set_option Elab.async false
set_option linter.all false
set_option maxRecDepth 100000
set_option maxHeartbeats 1000000
namespace DL
open PySem L2
/-- a number between two others -/
def isInt (d : D) (lo hi : Int) : Bool := match d with
  | .int i => decide (lo ≤ i) && decide (i ≤ hi)
  | _ => false
/-- a value whose type is known -/
def okD (d : D) : Prop := ∃ t, tyN d = some t
def natD : D → Nat
  | .int i => i.toNat
  | _ => 0
def d_is_integer : DSp stg := fun ds g q _ => ∃ (v : D) (lo hi : Int), ds = [v, .int lo, .int hi] ∧ okD v ∧ q (.bl (isInt v lo hi)) g
abbrev d_l_is_int : DSp stg := d_is_integer
/-- a place of a word -/
def isPl (n : Nat) (v : D) : Bool := isInt v 0 (n - 1)
def d_check_place : DSp stg := fun ds g q ex => ∃ (w : List Nat) (v : D), ds = [.str w, v] ∧ w.length ≤ 100000 ∧ okD v ∧ if isPl w.length v = true then q .non g else ex ⟨"NoPlace", ["value"], [v]⟩ g
def d_comes_before : DSp stg := fun ds g q ex => ∃ (w : List Nat) (a b : D), ds = [.str w, a, b] ∧ w.length ≤ 100000 ∧ okD a ∧ okD b ∧
  if isPl w.length a = true then if isPl w.length b = true then q (.bl (tlt w (natD a) (natD b))) g else ex ⟨"NoPlace", ["value"], [b]⟩ g else ex ⟨"NoPlace", ["value"], [a]⟩ g
/-- values of many kinds -/
def oddL : List D := [.non, .bl true, .bl false, .int (-1), .int 0, .int 1, .int 2, .int 23, .int 24, .int (10 ^ 29), .str [], .str [48], .str [65], .str [97], .str [97, 66], .tup [], .lst [], .dic [], .tup [.int 0], .lst [.int 0], .tup [.bl true], .tup [.str [97]], .dic [(.inr (S [97]), .int 1)], .str [97, 98], .str [97, 32, 98]]
def d_l_odd : DSp stg := fun ds (g : Nat) q _ => ds = [.ob 0] ∧ g + 1 ≤ 2 ^ 60 ∧ ∀ v ∈ oddL, q v (g + 1)
def d_l_is_less3 : DSp stg := fun ds g q _ => ∃ (w : List Nat) (i j : Nat), ds = [.str w, .int i, .int j] ∧ w.length ≤ 100000 ∧ i ≤ w.length ∧ j ≤ w.length ∧ q (.bl (tlt w i j)) g
def toldW (w : List Nat) (a b : D) : D := if isPl w.length a = true then if isPl w.length b = true then .bl (tlt w (natD a) (natD b)) else .lst [b] else .lst [a]
def d_l_told_k05 : DSp stg := fun ds g q _ => ∃ (w : List Nat) (a b : D), ds = [.str w, a, b] ∧ w.length ≤ 100000 ∧ okD a ∧ okD b ∧ q (toldW w a b) g
/-- whether an order of the places is the order of the word's tails -/
def d_l_has : DSp stg := fun ds g q _ => ∃ w o : List Nat, ds = [.str w, .tup (nats o)] ∧ isPerm o ∧ o.length = w.length ∧ w.length ≤ 1000 ∧ q (.bl (decide (o = tOrd w))) g
def d_l_fits : DSp stg := d_l_has
/-- a word read from a place on, round -/
def turnW (w : List Nat) (p : Nat) : List Nat := w.drop p ++ w.take p
/-- the first place whose turn is least, of the places up to p -/
def amW (w : List Nat) : Nat → Nat
  | 0 => 0
  | p + 1 => if turnW w (p + 1) < turnW w (amW w p) then p + 1 else amW w p
def d_least_turn : DSp stg := fun ds g q _ => ∃ w : List Nat, ds = [.str w] ∧ w ≠ [] ∧ w.length ≤ 1000 ∧ q (.int (amW w (w.length - 1))) g
def isLt (c : Nat) : Bool := decide (97 ≤ c) && decide (c < 123)
/-- a text is not too long for the machine -/
def szD (n : Nat) : D → Prop
  | .str x => x.length ≤ n
  | _ => True
def isLetD : D → Bool
  | .str [c] => isLt c
  | _ => false
def d_is_letter : DSp stg := fun ds g q _ => ∃ v : D, ds = [v] ∧ okD v ∧ szD 100000 v ∧ q (.bl (isLetD v)) g
abbrev sWord : List Nat := [119, 111, 114, 100]
abbrev sLetter : List Nat := [108, 101, 116, 116, 101, 114]
/-- the first error of a word -/
def wErr : D → D
  | .str x => if x = [] ∨ 24 < x.length then .tup [.non, .str sWord] else match x.findIdx? (fun c => !isLt c) with
    | some i => .tup [.int (i : Int), .str sLetter]
    | none => .non
  | _ => .tup [.non, .str sWord]
def d_word_error : DSp stg := fun ds g q _ => ∃ v : D, ds = [v] ∧ okD v ∧ szD 100000 v ∧ q (wErr v) g
def d_l_word_error : DSp stg := d_word_error
def d_is_word : DSp stg := fun ds g q _ => ∃ v : D, ds = [v] ∧ okD v ∧ szD 100000 v ∧ q (.bl (isN (wErr v))) g
/-- signs that can be shown -/
def Sgns (w : List Nat) : Prop := ∀ c ∈ w, c < 1114112
def d_l_spoilt : DSp stg := fun ds (g : Nat) q _ => ∃ t : List Nat, ds = [.ob 0, .str t] ∧ t.length ≤ 1000 ∧ Sgns t ∧ g + 3 ≤ 2 ^ 60 ∧ ∀ u : List Nat, u.length ≤ t.length + 2 → Sgns u → q (.str u) (g + 3)
abbrev sOrder : List Nat := [111, 114, 100, 101, 114]
abbrev sPlace : List Nat := [112, 108, 97, 99, 101]
/-- the item is no place, or came before -/
def badO (xs : List D) (i : Nat) : Bool := match xs[i]? with
  | some d => !isPl xs.length d || decide (natD d ∈ (xs.take i).map natD)
  | none => false
/-- the first error of an order -/
def oErr : D → D
  | .tup xs => if xs = [] ∨ 24 < xs.length then .tup [.non, .str sOrder] else match (List.range xs.length).find? (badO xs) with
    | some i => .tup [.int (i : Int), .str sPlace]
    | none => .non
  | _ => .tup [.non, .str sOrder]
/-- all items have types -/
def itD : D → Prop
  | .tup xs => ∀ d ∈ xs, okD d
  | _ => True
def d_order_error : DSp stg := fun ds g q _ => ∃ v : D, ds = [v] ∧ okD v ∧ itD v ∧ q (oErr v) g
def d_l_order_error : DSp stg := d_order_error
def d_is_order : DSp stg := fun ds g q _ => ∃ v : D, ds = [v] ∧ okD v ∧ itD v ∧ q (.bl (isN (oErr v))) g
/-- an odd value, or a number -/
def inO (d : D) : Prop := d ∈ oddL ∨ ∃ i : Int, d = .int i ∧ i.natAbs < 1000
/-- an odd value, or at most so many of them in a row -/
def okO (n : Nat) (v : D) : Prop := v ∈ oddL ∨ ∃ xs, (v = .tup xs ∨ v = .lst xs) ∧ xs.length ≤ n ∧ ∀ d ∈ xs, inO d
def d_l_bent : DSp stg := fun ds (g : Nat) q _ => ∃ (n : Nat) (v : D), ds = [.ob 0, v] ∧ 1 ≤ n ∧ n ≤ 100 ∧ okO n v ∧ g + 5 ≤ 2 ^ 60 ∧ ∀ (u : D) (g' : Nat), okO (n + 1) u → g ≤ g' → g' ≤ g + 5 → q u g'
def agrL : List Nat → List Nat → Nat
  | x :: a, y :: b => if x = y then agrL a b + 1 else 0
  | _, _ => 0
def d_agreement : DSp stg := fun ds g q _ => ∃ a b : List Nat, ds = [.str a, .str b] ∧ a.length ≤ 100000 ∧ b.length ≤ 100000 ∧ q (.int (agrL a b)) g
def d_l_agreement : DSp stg := d_agreement
def lcpW (w : List Nat) (i j : Nat) : Nat := agrL (w.drop i) (w.drop j)
def d_common_length : DSp stg := fun ds g q ex => ∃ (w : List Nat) (a b : D), ds = [.str w, a, b] ∧ w.length ≤ 100000 ∧ okD a ∧ okD b ∧
  if isPl w.length a = true then if isPl w.length b = true then q (.int (lcpW w (natD a) (natD b))) g else ex ⟨"NoPlace", ["value"], [b]⟩ g else ex ⟨"NoPlace", ["value"], [a]⟩ g
/-- how far neighbours in the order agree -/
def hdsW (w : List Nat) : List Nat := (List.range (w.length - 1)).map fun k => lcpW w ((tOrd w).getD k 0) ((tOrd w).getD (k + 1) 0)
def d_heads_of : DSp stg := fun ds g q _ => ∃ w : List Nat, ds = [.str w] ∧ w.length ≤ 1000 ∧ q (.tup (nats (hdsW w))) g
def d_ranks_of : DSp stg := d_ranks_in
/-- an error of one class alone -/
def d_l_alone : DSp stg := fun ds g q _ => ∃ (c : Str) (ns : List Str) (vs : List D), ds = [.exn c ns vs] ∧ c = "NoPlace" ∧ q (.bl true) g
/-- the common length, or what is told of the wrong value -/
def cmlW (w : List Nat) (a b : D) : D := if isPl w.length a = true then if isPl w.length b = true then .int (lcpW w (natD a) (natD b)) else .lst [.str (rep b), .bl true] else .lst [.str (rep a), .bl true]
def d_l_told_k40 : DSp stg := fun ds g q _ => ∃ (w : List Nat) (a b : D), ds = [.str w, a, b] ∧ w.length ≤ 100000 ∧ okD a ∧ okD b ∧ repOk a ∧ repOk b ∧ q (cmlW w a b) g
/-- an order, grown by a first place of a rank -/
def grnW (o : List Nat) (s : Nat) : List Nat := (o.take s).map (· + 1) ++ 0 :: (o.drop s).map (· + 1)
def d_grown : DSp stg := fun ds g q ex => ∃ (o : List Nat) (v : D), ds = [.tup (nats o), v] ∧ o.length ≤ 1000 ∧ okD v ∧
  if isInt v 0 o.length = true then if o.length = 24 then ex ⟨"TooLong", ["limit"], [.int 24]⟩ g else q (.tup (nats (grnW o (natD v)))) g else ex ⟨"NoIndex", ["value"], [v]⟩ g
def d_fewest_letters : DSp stg := fun ds g q _ => ∃ o : List Nat, ds = [.tup (nats o)] ∧ isPerm o ∧ o.length ≤ 1000 ∧ q (.int ((stpW o).length + 1)) g
/-- all orders of so many places -/
def allO : Nat → List (List Nat)
  | 0 => [[]]
  | n + 1 => (allO n).flatMap fun o => (List.range (n + 1)).map fun s => grnW o s
def tups (xs : List (List Nat)) : List D := xs.map fun o => .tup (nats o)
def d_l_all_orders : DSp stg := fun ds g q _ => ∃ n : Nat, ds = [.int n] ∧ n ≤ 6 ∧ q (.lst (tups (allO n))) g
/-- an order without its place 0 -/
def shrW (o : List Nat) : List Nat := (o.filter fun p => decide (0 < p)).map (· - 1)
def d_shrunk : DSp stg := fun ds g q _ => ∃ o : List Nat, ds = [.tup (nats o)] ∧ o.length ≤ 1000 ∧ q (.tup (nats (shrW o))) g
def oddF : List D := [.non, .bl true, .bl false, .int (-1), .int 0, .int 1, .int 23, .int 24, .int (10 ^ 29), .str [], .str [97], .str [65], .str [97, 98], .str [48], .str [32], .tup [], .lst [], .dic [], .tup [.int 0], .lst [.str [97]], .tup [.str [97]], .dic [(.inr (S [97]), .int 1)], .str [97, 66], .str (List.replicate 25 122)]
def d_l_oddF : DSp stg := fun ds (g : Nat) q _ => ds = [.ob 0] ∧ g + 1 ≤ 2 ^ 60 ∧ ∀ v ∈ oddF, q v (g + 1)
def d_check_far : DSp stg := fun ds g q ex => ∃ (b : List Nat) (t : Nat) (v : D), ds = [.str b, .int t, v] ∧ b.length ≤ 1000 ∧ t < 2 ^ 60 ∧ okD v ∧ if isInt v 0 (b.length * t - 1) = true then q .non g else ex ⟨"NoPlace", ["value"], [v]⟩ g
def d_far_letter : DSp stg := fun ds g q ex => ∃ (b : List Nat) (t : Nat) (v : D), ds = [.str b, .int t, v] ∧ b ≠ [] ∧ b.length ≤ 1000 ∧ t < 2 ^ 60 ∧ okD v ∧ if isInt v 0 (b.length * t - 1) = true then q (.str [b.getD (natD v % b.length) 0]) g else ex ⟨"NoPlace", ["value"], [v]⟩ g
def d_l_whole : DSp stg := d_is_integer
/-- an odd value, or a number that is not too large -/
def inF (d : D) : Prop := d ∈ oddF ∨ ∃ i : Int, d = .int i ∧ i.natAbs < 10 ^ 30
def d_l_places : DSp stg := fun ds (g : Nat) q _ => ∃ e : Nat, ds = [.ob 0, .int e] ∧ 1 ≤ e ∧ e ≤ 10 ^ 15 ∧ g + 9 ≤ 2 ^ 60 ∧ ∀ xs : List D, (∀ d ∈ xs, inF d) → xs.length = 21 → q (.lst xs) (g + 9)
def farW (b : List Nat) (t : Nat) (v : D) : D := if isInt v 0 (b.length * t - 1) = true then .str [b.getD (natD v % b.length) 0] else .lst [v]
def d_l_told_k57 : DSp stg := fun ds g q _ => ∃ (b : List Nat) (t : Nat) (v : D), ds = [.str b, .int t, v] ∧ b ≠ [] ∧ b.length ≤ 1000 ∧ t < 2 ^ 60 ∧ okD v ∧ q (farW b t v) g
def intD : D → Int
  | .int i => i
  | _ => 0
/-- so many numbers that can be heads -/
def hdOk (n : Nat) : D → Bool
  | .tup xs => decide (xs.length = n) && xs.all fun d => isInt d 0 n
  | _ => false
def d_are_heads : DSp stg := fun ds g q _ => ∃ (n : Nat) (v : D), ds = [.int n, v] ∧ n ≤ 1000 ∧ okD v ∧ itD v ∧ q (.bl (hdOk n v)) g
/-- the letters of a word with an order and heads -/
def bldW (o xs : List Nat) : List Nat := (List.range o.length).map fun p => 97 + (xs.take (o.idxOf p)).count 0
def rbW (o : List Nat) : D → D
  | .tup xs => if hdOk (o.length - 1) (.tup xs) = true ∧ tOrd (bldW o (xs.map natD)) = o ∧ hdsW (bldW o (xs.map natD)) = xs.map natD then .str (bldW o (xs.map natD)) else .non
  | _ => .non
def d_rebuilt : DSp stg := fun ds g q _ => ∃ (o : List Nat) (v : D), ds = [.tup (nats o), v] ∧ isPerm o ∧ 1 ≤ o.length ∧ o.length ≤ 24 ∧ okD v ∧ itD v ∧ q (rbW o v) g
def d_l_shared : DSp stg := d_heads_of
def okR : D → Bool
  | .tup xs => xs.all fun d => isInt d (-9) 99
  | _ => false
def itmD : D → List D
  | .tup xs => xs
  | _ => []
/-- an order and heads are those of a word -/
def dueF (o : List Nat) (v : D) (w : List Nat) : Bool := decide (tOrd w = o) && decide ((hdsW w).map (fun (n : Nat) => (n : Int)) = (itmD v).map intD)
def dueR (ws : List (List Nat)) (o : List Nat) (v u : D) : Prop :=
  if okR v = true then (ws.filter (dueF o v) = [] ∧ u = .non) ∨ ∃ m ∈ ws.filter (dueF o v), (∀ y ∈ ws.filter (dueF o v), ¬ y < m) ∧ u = .str m else u = .non
def d_l_due_k44 : DSp stg := fun ds g q _ => ∃ (ws : List (List Nat)) (o : List Nat) (v : D), ds = [.lst (txts ws), .tup (nats o), v] ∧ (∀ w ∈ ws, w.length ≤ 1000) ∧ ws.length ≤ 10000 ∧ (itmD v).length ≤ 10000 ∧ okD v ∧ itD v ∧ ∀ u, dueR ws o v u → q u g
def d_l_index_error : DSp stg := fun ds g q _ => ∃ v : D, ds = [.exn "NoIndex" ["value"] [v]] ∧ q (.lst [v]) g
abbrev sLong : List Nat := [116, 111, 111, 32, 108, 111, 110, 103]
def grnD (o : List Nat) (v : D) : D := if isInt v 0 o.length = true then if o.length = 24 then .lst [.str sLong, .int 24] else .tup (nats (grnW o (natD v))) else .lst [v]
def d_l_told_k14 : DSp stg := fun ds g q _ => ∃ (o : List Nat) (v : D), ds = [.tup (nats o), v] ∧ o.length ≤ 1000 ∧ okD v ∧ q (grnD o v) g
/-- the first pair of places whose tails come in different orders -/
def fdR (a b : List Nat) (d : D) : Prop :=
  (∃ i j : Nat, i < j ∧ j < a.length ∧ tlt a i j ≠ tlt b i j ∧ (∀ k l, k < l → l < a.length → (k < i ∨ (k = i ∧ l < j)) → tlt a k l = tlt b k l) ∧ d = .tup [.int i, .int j]) ∨
  ((∀ i j, i < j → j < a.length → tlt a i j = tlt b i j) ∧ d = .non)
def d_find_difference : DSp stg := fun ds g q ex => ∃ a b : List Nat, ds = [.str a, .str b] ∧ a.length ≤ 1000 ∧ b.length ≤ 1000 ∧ if a.length = b.length then ∀ d, fdR a b d → q d g else ex ⟨"NotAlike", ["index"], [.int 1]⟩ g
abbrev sAlike : List Nat := [110, 111, 116, 32, 97, 108, 105, 107, 101]
def ndR (a b : List Nat) (d : D) : Prop := if a.length = b.length then fdR a b d else d = .lst [.str sAlike, .int 1]
def d_l_told_k12 : DSp stg := fun ds g q _ => ∃ a b : List Nat, ds = [.str a, .str b] ∧ a.length ≤ 1000 ∧ b.length ≤ 1000 ∧ ∀ d, ndR a b d → q d g
def d_l_due_k12 : DSp stg := d_l_told_k12
/-- a word with mostly as many letters -/
def d_l_partner : DSp stg := fun ds (g : Nat) q _ => ∃ w : List Nat, ds = [.ob 0, .str w] ∧ 1 ≤ w.length ∧ w.length ≤ 24 ∧ Lets w ∧ g + 44 ≤ 2 ^ 60 ∧ ∀ u : List Nat, 1 ≤ u.length → u.length ≤ 24 → Lets u → q (.str u) (g + 44)
/-- the number of the letter at an index of an order -/
def numW (o : List Nat) (k : Nat) : Nat := (stpW o).countP fun s => decide (s ≤ k)
def lstW (o : List Nat) : List Nat := (List.range o.length).map fun p => 97 + numW o (o.idxOf p)
def d_word_along : DSp stg := fun ds g q _ => ∃ (c : D) (o xs : List Nat), ds = [.tup (nats o), c] ∧ itemsOf c = some (nats xs) ∧ isPerm o ∧ xs.length = o.length ∧ (∀ x ∈ xs, x < 26) ∧ o.length ≤ 1000 ∧ q (.str ((List.range o.length).map fun p => 97 + xs.getD (o.idxOf p) 0)) g
def d_least_word : DSp stg := fun ds g q _ => ∃ o : List Nat, ds = [.tup (nats o)] ∧ isPerm o ∧ 1 ≤ o.length ∧ o.length ≤ 24 ∧ q (.str (lstW o)) g
def d_l_right : DSp stg := fun ds g q _ => ∃ o : List Nat, ds = [.tup (nats o)] ∧ isPerm o ∧ 1 ≤ o.length ∧ o.length ≤ 24 ∧ q (.bl true) g
/-- the beginnings of a text that are longer than h -/
def begW (t : List Nat) (h : Nat) : List (List Nat) := (List.range' (h + 1) (t.length - h)).map fun k => t.take k
/-- texts in a row, each with the number of letters shared with the one before -/
def nwpL : List Nat → List (List Nat) → List (List Nat × Nat)
  | _, [] => []
  | p, t :: ts => (t, agrL p t) :: nwpL t ts
def prtL (p : List Nat) (ts : List (List Nat)) : List (List Nat) := (nwpL p ts).flatMap fun x => begW x.1 x.2
def tailsW (w : List Nat) : List (List Nat) := (tOrd w).map fun p => w.drop p
def newW (w : List Nat) : List (List Nat × Nat) := nwpL [] (tailsW w)
def prtW (w : List Nat) : List (List Nat) := prtL [] (tailsW w)
def d_new_parts : DSp stg := fun ds g q _ => ∃ w : List Nat, ds = [.str w] ∧ w.length ≤ 1000 ∧ q (.lst ((newW w).map fun x => .tup [.str x.1, .int (x.2 : Nat)])) g
def d_count_parts : DSp stg := fun ds g q _ => ∃ w : List Nat, ds = [.str w] ∧ w.length ≤ 1000 ∧ q (.int (prtW w).length) g
def d_part_at : DSp stg := fun ds g q ex => ∃ (w : List Nat) (v : D), ds = [.str w, v] ∧ w.length ≤ 1000 ∧ okD v ∧ if isInt v 0 ((prtW w).length - 1) = true then q (.str ((prtW w).getD (natD v) [])) g else ex ⟨"NoIndex", ["value"], [v]⟩ g
def d_l_parts : DSp stg := fun ds g q _ => ∃ w : List Nat, ds = [.str w] ∧ w.length ≤ 24 ∧ q (.lst (txts (prtW w))) g
def d_l_alone_k47 : DSp stg := fun ds g q _ => ∃ (c : Str) (ns : List Str) (vs : List D), ds = [.exn c ns vs] ∧ c = "NoIndex" ∧ q (.bl true) g
/-- the part with a number, or what is told of the wrong value -/
def prtD (w : List Nat) (v : D) : D := if isInt v 0 ((prtW w).length - 1) = true then .str ((prtW w).getD (natD v) []) else .lst [.str (rep v), .bl true]
def d_l_told_k47 : DSp stg := fun ds g q _ => ∃ (w : List Nat) (v : D), ds = [.str w, v] ∧ w.length ≤ 1000 ∧ okD v ∧ repOk v ∧ q (prtD w v) g
abbrev abcW : List Nat := [97, 98, 99, 100, 101, 102, 103, 104, 105, 106, 107, 108, 109, 110, 111, 112, 113, 114, 115, 116, 117, 118, 119, 120, 121, 122]
/-- the letters of a word, ascending -/
def ltsW (w : List Nat) : List Nat := abcW.filter fun c => decide (c ∈ w)
/-- for each place the number of its letter among the letters of the word -/
def patW (w : List Nat) : List Nat := w.map fun c => (ltsW w).idxOf c
def d_l_smallest : DSp stg := fun ds g q _ => ∃ w : List Nat, ds = [.str w] ∧ w.length ≤ 1000 ∧ Lets w ∧ q (.str ((patW w).map fun i => 97 + i)) g
def d_l_pattern_k45 : DSp stg := fun ds g q _ => ∃ w : List Nat, ds = [.str w] ∧ w.length ≤ 1000 ∧ Lets w ∧ q (.lst (nats (patW w))) g
def d_l_steps : DSp stg := fun ds g q _ => ∃ o : List Nat, ds = [.tup (nats o)] ∧ isPerm o ∧ o.length ≤ 1000 ∧ q (.lst (nats (stpW o))) g
/-- a row out of the one above -/
def knwS (c : List Int) (n : Nat) : List Int := (List.range n).map fun (i : Nat) => (if i < n - 1 then ((i : Int) + 1) * c.getD i 0 else 0) + (if 0 < i then ((n : Int) - i) * c.getD (i - 1) 0 else 0)
def knwR : Nat → List Int
  | 0 => [1]
  | n + 1 => knwS (knwR n) (n + 2)
/-- the numbers of orders of n places -/
def knw (n : Nat) : List Int := knwR (n - 1)
def d_l_known : DSp stg := fun ds g q _ => ∃ n : Nat, ds = [.int n] ∧ 1 ≤ n ∧ n ≤ 40 ∧ q (.lst ((knw n ++ List.replicate 60 0).map D.int)) g
def d_l_same : DSp stg := fun ds g q _ => ∃ a b : List D, ds = [.lst a, .lst b] ∧ repOk (.lst a) ∧ repOk (.lst b) ∧ q (.bl (decide (rep (.lst a) = rep (.lst b)))) g
/-- the next place of a lower rank, or the end -/
def nlw (r : List Nat) (p : Nat) : Nat := ((List.range' (p + 1) (r.length - p)).find? fun j => decide (r.length ≤ j) || decide (r.getD j 0 < r.getD p 0)).getD 0
def d_next_lower : DSp stg := fun ds g q _ => ∃ (r : List Nat) (p : Nat), ds = [.tup (nats r), .int p] ∧ p < r.length ∧ r.length ≤ 1000 ∧ q (.int (nlw r p)) g
def d_longest_simple : DSp stg := fun ds g q _ => ∃ o : List Nat, ds = [.tup (nats o)] ∧ isPerm o ∧ o.length ≤ 1000 ∧ q (.tup (nats ((List.range o.length).map fun p => nlw (inv o) p - p))) g
/-- the places of a rank below all before -/
def fplW (r : List Nat) : List Nat := (List.range r.length).filter fun p => (List.range p).all fun q => decide (r.getD p 0 < r.getD q 0)
def d_factor_places : DSp stg := fun ds g q _ => ∃ o : List Nat, ds = [.tup (nats o)] ∧ isPerm o ∧ o.length ≤ 1000 ∧ q (.tup (nats (fplW (inv o)))) g
/-- a word cut at places -/
def cutP (w ps : List Nat) : List (List Nat) := (ps.zip (ps.drop 1 ++ [w.length])).map fun be => (w.drop be.1).take (be.2 - be.1)
def d_factors : DSp stg := fun ds g q _ => ∃ w : List Nat, ds = [.str w] ∧ w.length ≤ 1000 ∧ q (.tup (txts (cutP w (fplW (inv (tOrd w)))))) g
def d_cut_holds_k38 : DSp stg := fun ds g q _ => ∃ (w : List Nat) (xs : List (List Nat)), ds = [.str w, .tup (txts xs)] ∧ w.length ≤ 1000 ∧ xs.length ≤ 1000 ∧ (∀ x ∈ xs, x ≠ [] ∧ simpW x = true) ∧ xs.flatten = w ∧ (∀ i, i + 1 < xs.length → ¬ xs.getD i [] < xs.getD (i + 1) []) ∧ q (.bl true) g
def d_l_long_right : DSp stg := fun ds g q _ => ∃ w : List Nat, ds = [.str w, .tup (nats ((List.range w.length).map fun p => nlw (inv (tOrd w)) p - p))] ∧ w.length ≤ 1000 ∧ q (.bl true) g
def d_l_spread : DSp stg := fun ds (g : Nat) q _ => ∃ w : List Nat, ds = [.ob 0, .str w] ∧ 1 ≤ w.length ∧ w.length ≤ 24 ∧ Lets w ∧ g + 26 ≤ 2 ^ 60 ∧ ∀ u v : List Nat, tOrd u = tOrd w → tOrd v = tOrd w → u.length = w.length → v.length = w.length → Lets u → Lets v → q (.lst [.str u, .str v]) (g + 26)
abbrev sPlaces : List Nat := [112, 108, 97, 99, 101, 115]
abbrev sBetween : List Nat := [98, 101, 116, 119, 101, 101, 110]
def lowW (w p : List Nat) : Nat := (tailsW w).countP fun t => decide (t < p)
def manyW (w p : List Nat) : Nat := (tailsW w).countP fun t => decide (t.take p.length = p)
def fndD (w p : List Nat) : D := if 0 < manyW w p then .tup [.str sPlaces, .int (lowW w p : Nat), .int ((lowW w p + manyW w p : Nat) : Int)] else .tup [.str sBetween, .int (lowW w p : Nat)]
def d_find : DSp stg := fun ds g q _ => ∃ w p : List Nat, ds = [.str w, .str p] ∧ w.length ≤ 1000 ∧ p.length ≤ 1000 ∧ q (fndD w p) g
def txtsOf : List D → Option (List (List Nat))
  | [] => some []
  | d :: r => match d with
    | .str x => (txtsOf r).map (x :: ·)
    | _ => none
/-- no text is greater than the one before it -/
def chainB (xs : List (List Nat)) : Bool := (List.range (xs.length - 1)).all fun i => !decide (xs.getD i [] < xs.getD (i + 1) [])
/-- whether a value is the cut of a word -/
def cutB (w : List Nat) (v : D) : Bool := match v with
  | .tup xs => (match txtsOf xs with
    | some ws => decide (ws.flatten = w) && (ws.all lynW && chainB ws)
    | none => false)
  | _ => false
def cutV (v : D) : Prop := okD v ∧ ∀ xs, v = .tup xs → xs.length ≤ 100 ∧ ∀ d ∈ xs, okD d ∧ ∀ x, d = .str x → x.length ≤ 100
def d_cut_holds : DSp stg := fun ds g q _ => ∃ (w : List Nat) (v : D), ds = [.str w, v] ∧ w.length ≤ 1000 ∧ cutV v ∧ q (.bl (cutB w v)) g
def d_l_due_k35 : DSp stg := d_cut_holds
def d_l_pieces : DSp stg := fun ds (g : Nat) q _ => ∃ w : List Nat, ds = [.ob 0, .str w] ∧ 1 ≤ w.length ∧ w.length ≤ 24 ∧ Lets w ∧ g + 6 ≤ 2 ^ 60 ∧ ∀ xs : List (List Nat), xs.length ≤ 7 → (∀ x ∈ xs, x.length ≤ 24 ∧ Lets x) → q (.tup (txts xs)) (g + 6)
def d_l_values_k35 : DSp stg := fun ds (g : Nat) q _ => ∃ w : List Nat, ds = [.ob 0, .str w] ∧ 1 ≤ w.length ∧ w.length ≤ 24 ∧ Lets w ∧ g + 30 ≤ 2 ^ 60 ∧ ∀ vs : List D, vs.length ≤ 100 → (∀ v ∈ vs, cutV v ∧ repOk v) → q (.lst vs) (g + 30)
def pixD (w : List Nat) (v : D) : D := match v with
  | .str x => if x ∈ prtW w then .int ((prtW w).idxOf x : Nat) else .non
  | _ => .non
def d_part_index : DSp stg := fun ds g q _ => ∃ (w : List Nat) (v : D), ds = [.str w, v] ∧ w.length ≤ 1000 ∧ okD v ∧ q (pixD w v) g
def isI (d : D) : Bool := match d with
  | .int _ => true
  | _ => false
def d_is_whole : DSp stg := fun ds g q _ => ∃ v : D, ds = [v] ∧ okD v ∧ q (.bl (isI v)) g
/-- whether a value is the finding due -/
def fhB (due v : D) : Bool := match v with
  | .tup xs => (match xs with
    | d :: ds => (match d with
      | .str _ => ds.all isI && deq (.tup (d :: ds)) due
      | _ => false)
    | [] => false)
  | _ => false
def valF (v : D) : Prop := okD v ∧ ∀ xs, v = .tup xs → xs.length ≤ 1000 ∧ ∀ d ∈ xs, okD d ∧ ∀ x, d = .str x → ∀ c ∈ x, c < 1114112
def d_finding_holds : DSp stg := fun ds g q _ => ∃ (w p : List Nat) (v : D), ds = [.str w, .str p, v] ∧ w.length ≤ 1000 ∧ p.length ≤ 1000 ∧ valF v ∧ q (.bl (fhB (fndD w p) v)) g
def d_l_finding : DSp stg := fun ds g q _ => ∃ w p : List Nat, ds = [.str w, .str p] ∧ w.length ≤ 24 ∧ p.length ≤ 24 ∧ q (fndD w p) g
/-- signs that are shown as they are -/
def plainS (x : List Nat) : Prop := ∀ c ∈ x, 32 ≤ c ∧ c < 127 ∧ c ≠ 39 ∧ c ≠ 92
/-- a value whose texts are plain; nothing else within is looked at -/
def itemP (d : D) : Prop := match d with
  | .str x => plainS x
  | .ob _ => False
  | .exn _ _ _ => False
  | .tx _ => False
  | _ => True
/-- values whose items' texts are plain -/
def valP (v : D) : Prop := match v with
  | .tup xs => ∀ d ∈ xs, itemP d
  | v => itemP v
def rowF (s ns : List Nat) : Prop := ((s = sPlaces ∧ ns.length = 2) ∨ (s = sBetween ∧ ns.length = 1)) ∧ ∀ n ∈ ns, n ≤ 100
def d_l_values_k53 : DSp stg := fun ds (g : Nat) q _ => ∃ w s ns : List Nat, ds = [.ob 0, .str w, .tup (.str s :: nats ns)] ∧ 1 ≤ w.length ∧ w.length ≤ 24 ∧ rowF s ns ∧ g + 6 ≤ 2 ^ 60 ∧ ∀ vs : List D, vs.length ≤ 100 → (∀ v ∈ vs, valF v ∧ valP v ∧ repOk v) → q (.lst vs) (g + 6)
def cutsF : Nat → List Nat → List (List (List Nat))
  | 0, _ => [[]]
  | f + 1, w => if w = [] then [[]] else (List.range' 1 w.length).flatMap fun e => (cutsF f (w.drop e)).map (w.take e :: ·)
def d_l_cuts : Nat → DSp stg
  | 0 => fun _ _ _ _ => False
  | n + 1 => fun ds g q _ => ∃ w : List Nat, ds = [.str w] ∧ w.length ≤ n ∧ n ≤ 8 ∧ q (.lst ((cutsF n w).map fun xs => .tup (txts xs))) g
end DL
set_option Elab.async false
set_option linter.all false
set_option maxRecDepth 100000
set_option maxHeartbeats 1000000
namespace DL
open PySem L2
section
variable {M : Ghost} {gw : GW} {wt : TW M} {we : EW M} {ρ : DEnv} {g : M.G} {q : List D → M.G → Prop}
/-- a comprehension that draws nothing -/
theorem lcW_map {α : Type} (e f : α → D) (p : α → Bool) : ∀ (xs : List α) {q : List D → M.G → Prop}, (∀ x ∈ xs, ∀ (k1 : D → M.G → Prop) (k0 : M.G → Prop), (if p x = true then k1 (f x) g else k0 g) → gw (e x) ρ fun ρ' => wt ρ' g fun b g1 => if b = true then we ρ' g1 k1 else k0 g1) →
    q ((xs.filter p).map f) g → lcW gw wt we ρ (xs.map e) g q
  | [], _, _, h => h
  | x :: xs, q, hs, h => by
    have ih := fun {q} => lcW_map e f p xs (q := q) (fun y hy => hs y (List.mem_cons_of_mem _ hy))
    refine hs x List.mem_cons_self _ _ ?_
    by_cases hp : p x = true
    · rw [if_pos hp]
      rw [List.filter_cons_of_pos hp] at h
      exact ih h
    · rw [if_neg hp]
      rw [List.filter_cons_of_neg hp] at h
      exact ih h
theorem lcW_all {α : Type} (e f : α → D) (xs : List α) {q : List D → M.G → Prop} (hs : ∀ x ∈ xs, ∀ (k1 : D → M.G → Prop) (k0 : M.G → Prop), k1 (f x) g → gw (e x) ρ fun ρ' => wt ρ' g fun b g1 => if b = true then we ρ' g1 k1 else k0 g1)
    (h : q (xs.map f) g) : lcW gw wt we ρ (xs.map e) g q :=
  lcW_map e f (fun _ => true) xs (fun x hx k1 k0 z => hs x hx k1 k0 (by simpa using z)) (by rw [List.filter_eq_self.mpr (fun _ _ => rfl)]; exact h)
end
/-- a comprehension that draws: c numbers each at most -/
theorem lcW_draw {gw : GW} {wt : TW stg} {we : EW stg} {ρ : DEnv} {α : Type} (e : α → D) (P : α → D → Prop) (c N : Nat) : ∀ (xs : List α) {g : Nat} {q : List D → Nat → Prop}, g + c * xs.length ≤ N →
    (∀ x ∈ xs, ∀ (g : Nat) (k1 : D → Nat → Prop) (k0 : Nat → Prop), g + c ≤ N → (∀ d, P x d → k1 d (g + c)) → gw (e x) ρ fun ρ' => wt ρ' g fun b g1 => if b = true then we ρ' g1 k1 else k0 g1) →
    (∀ ys : List D, Paired P xs ys → q ys (g + c * xs.length)) → lcW (M := stg) gw wt we ρ (xs.map e) g q
  | [], g, q, _, _, h => h [] .nil
  | x :: xs, g, q, hN, hs, h => by
    rw [List.length_cons] at hN
    have e1 : g + c * (xs.length + 1) = (g + c) + c * xs.length := by rw [Nat.mul_add, Nat.mul_one]; omega
    refine hs x List.mem_cons_self g _ _ (by omega) fun d hd => ?_
    refine lcW_draw e P c N xs (by omega) (fun y hy => hs y (List.mem_cons_of_mem _ hy)) fun ys hy => ?_
    have := h (d :: ys) (.cons hd hy)
    rw [List.length_cons, e1] at this
    exact this
/-- a comprehension that draws and keeps nothing -/
theorem lcW_none {gw : GW} {wt : TW stg} {we : EW stg} {ρ : DEnv} {α : Type} (e : α → D) (c N : Nat) : ∀ (xs : List α) {g : Nat} {q : List D → Nat → Prop}, g + c * xs.length ≤ N →
    (∀ x ∈ xs, ∀ (g : Nat) (k1 : D → Nat → Prop) (k0 : Nat → Prop), g + c ≤ N → k0 (g + c) → gw (e x) ρ fun ρ' => wt ρ' g fun b g1 => if b = true then we ρ' g1 k1 else k0 g1) →
    q [] (g + c * xs.length) → lcW (M := stg) gw wt we ρ (xs.map e) g q
  | [], g, q, _, _, h => h
  | x :: xs, g, q, hN, hs, h => by
    rw [List.length_cons] at hN h
    have e1 : g + c * (xs.length + 1) = (g + c) + c * xs.length := by rw [Nat.mul_add, Nat.mul_one]; omega
    refine hs x List.mem_cons_self g _ _ (by omega) ?_
    rw [e1] at h
    exact lcW_none e c N xs (by omega) (fun y hy => hs y (List.mem_cons_of_mem _ hy)) h
section
variable {M : Ghost} {gw : GW} {wb : SW M} {k : K3 M}
/-- a for by its word -/
theorem forW_inv (I : Nat → DEnv → M.G → Prop) : ∀ (ds : List D) (n : Nat) {ρ : DEnv} {g : M.G}, (∀ (i : Nat) d ρ g (K : DEnv → M.G → Prop), ds[i]? = some d → I (n + i) ρ g → (∀ ρ g, I (n + i + 1) ρ g → K ρ g) → gw d ρ fun ρ' => wb { nx := K, rt := k.rt, bk := k.nx, ct := K } ρ' g) →
    (∀ ρ g, I (n + ds.length) ρ g → k.nx ρ g) → I n ρ g → forW gw wb ds k ρ g
  | [], n, ρ, g, _, he, h => he ρ g h
  | d :: ds, n, ρ, g, hs, he, h => by
    refine hs 0 d ρ g _ rfl h fun ρ g h' => ?_
    refine forW_inv I ds (n + 1) (fun i d ρ g K e h K1 => hs (i + 1) d ρ g K (by simpa using e) (by rw [show n + (i + 1) = n + 1 + i by omega]; exact h) (by rw [show n + (i + 1) + 1 = n + 1 + i + 1 by omega]; exact K1)) (fun ρ g h => he ρ g (by rw [List.length_cons, show n + (ds.length + 1) = n + 1 + ds.length by omega]; exact h)) h'
theorem forW_word (I : Nat → DEnv → M.G → Prop) (ds : List D) {ρ : DEnv} {g : M.G} (h0 : I 0 ρ g) (hs : ∀ (i : Nat) d ρ g (K : DEnv → M.G → Prop), ds[i]? = some d → I i ρ g → (∀ ρ g, I (i + 1) ρ g → K ρ g) → gw d ρ fun ρ' => wb { nx := K, rt := k.rt, bk := k.nx, ct := K } ρ' g)
    (he : ∀ ρ g, I ds.length ρ g → k.nx ρ g) : forW gw wb ds k ρ g :=
  forW_inv I ds 0 (fun i d ρ g K e h K1 => hs i d ρ g K e (by rw [Nat.zero_add] at h; exact h) (by rw [Nat.zero_add] at K1; exact K1)) (fun ρ g h => he ρ g (by rw [Nat.zero_add] at h; exact h)) h0
end
theorem rngL_0 (n : Nat) : rngL 0 (n : Int) = (List.range n).map fun (i : Nat) => D.int (i : Int) := by
  unfold rngL
  simp
theorem rngL_get (lo hi : Int) (i : Nat) (d : D) (h : (rngL lo hi)[i]? = some d) : (i : Int) < hi - lo ∧ d = .int (lo + i) := by
  unfold rngL at h
  rw [List.getElem?_map] at h
  by_cases hi' : i < (hi - lo).toNat
  · rw [List.getElem?_range hi'] at h
    cases h
    exact ⟨by omega, rfl⟩
  · rw [List.getElem?_eq_none (by simpa using hi')] at h
    cases h
theorem rngL_len (lo hi : Int) : (rngL lo hi).length = (hi - lo).toNat := by unfold rngL; simp
theorem small_line {n : Nat} (h : n ≤ 16777216) : n ≤ sizeLine := by rw [sizeLine_eq]; exact h
theorem lt_line {n : Nat} (h : n < 16777216) : n < sizeLine := by rw [sizeLine_eq]; exact h
theorem atI_ofNat {α : Type} {xs : List α} {j : Nat} {v : α} (h : xs[j]? = some v) : atI xs (j : Int) = some v := atI_nat h
theorem ixN_ofNat {n j : Nat} (h : j < n) : ixN n (j : Int) = some j := by
  unfold ixN
  rw [if_pos (by omega), if_pos (by omega)]
  simp
theorem cut_from {α : Type} (xs : List α) (i : Nat) : cutL xs (some (i : Int)) none = xs.drop i := by
  unfold cutL
  rw [HT.sIx_nat, HT.sIx_none]
  by_cases h : i ≤ xs.length
  · rw [Nat.min_eq_left h, List.take_of_length_le (by rw [List.length_drop]; omega)]
  · rw [Nat.min_eq_right (by omega), List.drop_length, List.drop_eq_nil_of_le (by omega)]
    simp
theorem cut_to {α : Type} (xs : List α) (i : Nat) : cutL xs none (some (i : Int)) = xs.take i := by
  unfold cutL
  rw [HT.sIx_nat, HT.sIx_none, List.drop_zero, Nat.sub_zero]
  by_cases h : i ≤ xs.length
  · rw [Nat.min_eq_left h]
  · rw [Nat.min_eq_right (by omega), List.take_length, List.take_of_length_le (by omega)]
theorem rngL_nn (a b : Nat) : rngL (a : Int) (b : Int) = (List.range' a (b - a)).map fun (i : Nat) => D.int (i : Int) := by
  unfold rngL
  have e : ((b : Int) - (a : Int)).toNat = b - a := by omega
  rw [e, List.range'_eq_map_range, List.map_map]
  refine List.map_congr_left fun i _ => ?_
  show D.int ((a : Int) + (i : Int)) = D.int ((a + i : Nat) : Int)
  rw [Int.natCast_add]
theorem cut_mid {α : Type} (xs : List α) (i j : Nat) : cutL xs (some (i : Int)) (some (j : Int)) = (xs.drop i).take (j - i) := by
  unfold cutL
  rw [HT.sIx_nat, HT.sIx_nat]
  by_cases hi : i ≤ xs.length
  · by_cases hj : j ≤ xs.length
    · rw [Nat.min_eq_left hi, Nat.min_eq_left hj]
    · rw [Nat.min_eq_left hi, Nat.min_eq_right (by omega), List.take_of_length_le (by rw [List.length_drop]; omega), List.take_of_length_le (by rw [List.length_drop]; omega)]
  · rw [Nat.min_eq_right (show xs.length ≤ i by omega), List.drop_length, List.drop_eq_nil_of_le (by omega)]
    simp
theorem rngL_1 (n : Nat) : rngL 1 (n : Int) = (List.range' 1 (n - 1)).map fun (i : Nat) => D.int (i : Int) := rngL_nn 1 n
theorem rngL_bn (b n : Nat) : rngL ((b : Int) + 1) ((n : Int) + 1) = (List.range' (b + 1) (n - b)).map fun (i : Nat) => D.int (i : Int) := by
  have := rngL_nn (b + 1) (n + 1)
  rw [show n + 1 - (b + 1) = n - b by omega] at this
  exact this
theorem rngL_1b (b n : Nat) : rngL ((b : Int) + 1) (n : Int) = (List.range' (b + 1) (n - (b + 1))).map fun (i : Nat) => D.int (i : Int) := rngL_nn (b + 1) n
end DL
set_option Elab.async false
set_option linter.all false
set_option maxRecDepth 100000
set_option maxHeartbeats 1000000
namespace DL
open PySem L2
section
variable {q : D → Prop} {qn : List D → Prop} {i j : Int} {x y : List Nat} {ds es : List D} {b c : Bool} {d e : D}
@[simp] theorem sm_add1 : (oAdd (.int i) (.int j) q) = (q (.int (i + j))) := rfl
@[simp] theorem sm_add2 : (oAdd (.str x) (.str y) q) = (x.length + y.length ≤ sizeLine ∧ q (.str (x ++ y))) := rfl
@[simp] theorem sm_add3 : (oAdd (.tup ds) (.tup es) q) = (ds.length + es.length ≤ sizeLine ∧ q (.tup (ds ++ es))) := rfl
@[simp] theorem sm_cat : (oCat (.lst ds) (.lst es) qn) = (ds.length + es.length ≤ sizeLine ∧ qn (ds ++ es)) := rfl
@[simp] theorem sm_sub : (oSub (.int i) (.int j) q) = (q (.int (i - j))) := rfl
@[simp] theorem sm_mul1 : (oMul (.int i) (.int j) q) = (CMul i j ∧ q (.int (i * j))) := rfl
@[simp] theorem sm_mul2 : (oMul (.str x) (.int j) q) = (0 ≤ j ∧ x.length * j.toNat ≤ sizeLine ∧ j ≤ 2 ^ 32 ∧ q (.str (List.replicate j.toNat x).flatten)) := rfl
@[simp] theorem sm_rep : (oRep (.lst ds) (.int j) qn) = (-(2 ^ 63) ≤ j ∧ j < 2 ^ 63 ∧ ds.length * j.toNat ≤ sizeLine ∧ qn (List.replicate j.toNat ds).flatten) := rfl
@[simp] theorem sm_div : (oDiv (.int i) (.int j) q) = (CDiv i j ∧ q (.int (i / j))) := rfl
@[simp] theorem sm_mod : (oMod (.int i) (.int j) q) = (0 < j ∧ q (.int (i % j))) := rfl
@[simp] theorem sm_pow : (oPow (.int i) (.int j) q) = (CPow i j ∧ q (.int (i ^ j.toNat))) := rfl
@[simp] theorem sm_lt1 : (oLt (.int i) (.int j) q) = (q (.bl (decide (i < j)))) := rfl
@[simp] theorem sm_lt2 : (oLt (.str x) (.str y) q) = (q (.bl (decide (x < y)))) := rfl
@[simp] theorem sm_le1 : (oLe (.int i) (.int j) q) = (q (.bl (decide (i ≤ j)))) := rfl
@[simp] theorem sm_le2 : (oLe (.str x) (.str y) q) = (q (.bl (!decide (y < x)))) := rfl
@[simp] theorem sm_gt1 : (oGt (.int i) (.int j) q) = (q (.bl (decide (j < i)))) := rfl
@[simp] theorem sm_gt2 : (oGt (.str x) (.str y) q) = (q (.bl (decide (y < x)))) := rfl
@[simp] theorem sm_ge1 : (oGe (.int i) (.int j) q) = (q (.bl (decide (j ≤ i)))) := rfl
@[simp] theorem sm_ge2 : (oGe (.str x) (.str y) q) = (q (.bl (!decide (x < y)))) := rfl
@[simp] theorem sm_eq1 : (oEq (.int i) (.int j) q) = (q (.bl (decide (i = j)))) := rfl
@[simp] theorem sm_eq2 : (oEq (.str x) (.str y) q) = (q (.bl (decide (x = y)))) := rfl
@[simp] theorem sm_eq3 : (oEq (.bl b) (.bl c) q) = (q (.bl (decide (b = c)))) := rfl
@[simp] theorem sm_eql : (oEq (.lst ds) e q) = (shp (.lst ds) = true ∧ shp e = true ∧ q (.bl (deq (.lst ds) e))) := rfl
@[simp] theorem sm_eqt : (oEq (.tup ds) e q) = (shp (.tup ds) = true ∧ shp e = true ∧ q (.bl (deq (.tup ds) e))) := rfl
@[simp] theorem sm_eqn : (oEq (.non) e q) = (shp (.non) = true ∧ shp e = true ∧ q (.bl (deq (.non) e))) := rfl
@[simp] theorem sm_eqli : (oEq (.int i) (.lst es) q) = (shp (.int i) = true ∧ shp (.lst es) = true ∧ q (.bl (deq (.int i) (.lst es)))) := rfl
@[simp] theorem sm_eqls : (oEq (.str x) (.lst es) q) = (shp (.str x) = true ∧ shp (.lst es) = true ∧ q (.bl (deq (.str x) (.lst es)))) := rfl
@[simp] theorem sm_eqlb : (oEq (.bl b) (.lst es) q) = (shp (.bl b) = true ∧ shp (.lst es) = true ∧ q (.bl (deq (.bl b) (.lst es)))) := rfl
@[simp] theorem sm_eqti : (oEq (.int i) (.tup es) q) = (shp (.int i) = true ∧ shp (.tup es) = true ∧ q (.bl (deq (.int i) (.tup es)))) := rfl
@[simp] theorem sm_eqts : (oEq (.str x) (.tup es) q) = (shp (.str x) = true ∧ shp (.tup es) = true ∧ q (.bl (deq (.str x) (.tup es)))) := rfl
@[simp] theorem sm_eqtb : (oEq (.bl b) (.tup es) q) = (shp (.bl b) = true ∧ shp (.tup es) = true ∧ q (.bl (deq (.bl b) (.tup es)))) := rfl
@[simp] theorem sm_eqni : (oEq (.int i) (.non) q) = (shp (.int i) = true ∧ shp (.non) = true ∧ q (.bl (deq (.int i) (.non)))) := rfl
@[simp] theorem sm_eqns : (oEq (.str x) (.non) q) = (shp (.str x) = true ∧ shp (.non) = true ∧ q (.bl (deq (.str x) (.non)))) := rfl
@[simp] theorem sm_eqnb : (oEq (.bl b) (.non) q) = (shp (.bl b) = true ∧ shp (.non) = true ∧ q (.bl (deq (.bl b) (.non)))) := rfl
@[simp] theorem sm_eqis : (oEq (.int i) (.str x) q) = (shp (.int i) = true ∧ shp (.str x) = true ∧ q (.bl (deq (.int i) (.str x)))) := rfl
@[simp] theorem sm_eqsi : (oEq (.str x) (.int i) q) = (shp (.str x) = true ∧ shp (.int i) = true ∧ q (.bl (deq (.str x) (.int i)))) := rfl
@[simp] theorem sm_eqib : (oEq (.int i) (.bl b) q) = (shp (.int i) = true ∧ shp (.bl b) = true ∧ q (.bl (deq (.int i) (.bl b)))) := rfl
@[simp] theorem sm_eqbi : (oEq (.bl b) (.int i) q) = (shp (.bl b) = true ∧ shp (.int i) = true ∧ q (.bl (deq (.bl b) (.int i)))) := rfl
@[simp] theorem sm_eqsb : (oEq (.str x) (.bl b) q) = (shp (.str x) = true ∧ shp (.bl b) = true ∧ q (.bl (deq (.str x) (.bl b)))) := rfl
@[simp] theorem sm_eqbs : (oEq (.bl b) (.str x) q) = (shp (.bl b) = true ∧ shp (.str x) = true ∧ q (.bl (deq (.bl b) (.str x)))) := rfl
@[simp] theorem sm_ne1 : (oNe (.int i) (.int j) q) = (q (.bl (!decide (i = j)))) := rfl
@[simp] theorem sm_ne2 : (oNe (.str x) (.str y) q) = (q (.bl (!decide (x = y)))) := rfl
@[simp] theorem sm_ne3 : (oNe (.bl b) (.bl c) q) = (q (.bl (!decide (b = c)))) := rfl
@[simp] theorem sm_nel : (oNe (.lst ds) e q) = (shp (.lst ds) = true ∧ shp e = true ∧ q (.bl (!deq (.lst ds) e))) := rfl
@[simp] theorem sm_net : (oNe (.tup ds) e q) = (shp (.tup ds) = true ∧ shp e = true ∧ q (.bl (!deq (.tup ds) e))) := rfl
@[simp] theorem sm_nen : (oNe (.non) e q) = (shp (.non) = true ∧ shp e = true ∧ q (.bl (!deq (.non) e))) := rfl
@[simp] theorem sm_neli : (oNe (.int i) (.lst es) q) = (shp (.int i) = true ∧ shp (.lst es) = true ∧ q (.bl (!deq (.int i) (.lst es)))) := rfl
@[simp] theorem sm_nels : (oNe (.str x) (.lst es) q) = (shp (.str x) = true ∧ shp (.lst es) = true ∧ q (.bl (!deq (.str x) (.lst es)))) := rfl
@[simp] theorem sm_nelb : (oNe (.bl b) (.lst es) q) = (shp (.bl b) = true ∧ shp (.lst es) = true ∧ q (.bl (!deq (.bl b) (.lst es)))) := rfl
@[simp] theorem sm_neti : (oNe (.int i) (.tup es) q) = (shp (.int i) = true ∧ shp (.tup es) = true ∧ q (.bl (!deq (.int i) (.tup es)))) := rfl
@[simp] theorem sm_nets : (oNe (.str x) (.tup es) q) = (shp (.str x) = true ∧ shp (.tup es) = true ∧ q (.bl (!deq (.str x) (.tup es)))) := rfl
@[simp] theorem sm_netb : (oNe (.bl b) (.tup es) q) = (shp (.bl b) = true ∧ shp (.tup es) = true ∧ q (.bl (!deq (.bl b) (.tup es)))) := rfl
@[simp] theorem sm_neni : (oNe (.int i) (.non) q) = (shp (.int i) = true ∧ shp (.non) = true ∧ q (.bl (!deq (.int i) (.non)))) := rfl
@[simp] theorem sm_nens : (oNe (.str x) (.non) q) = (shp (.str x) = true ∧ shp (.non) = true ∧ q (.bl (!deq (.str x) (.non)))) := rfl
@[simp] theorem sm_nenb : (oNe (.bl b) (.non) q) = (shp (.bl b) = true ∧ shp (.non) = true ∧ q (.bl (!deq (.bl b) (.non)))) := rfl
@[simp] theorem sm_neis : (oNe (.int i) (.str x) q) = (shp (.int i) = true ∧ shp (.str x) = true ∧ q (.bl (!deq (.int i) (.str x)))) := rfl
@[simp] theorem sm_nesi : (oNe (.str x) (.int i) q) = (shp (.str x) = true ∧ shp (.int i) = true ∧ q (.bl (!deq (.str x) (.int i)))) := rfl
@[simp] theorem sm_neib : (oNe (.int i) (.bl b) q) = (shp (.int i) = true ∧ shp (.bl b) = true ∧ q (.bl (!deq (.int i) (.bl b)))) := rfl
@[simp] theorem sm_nebi : (oNe (.bl b) (.int i) q) = (shp (.bl b) = true ∧ shp (.int i) = true ∧ q (.bl (!deq (.bl b) (.int i)))) := rfl
@[simp] theorem sm_nesb : (oNe (.str x) (.bl b) q) = (shp (.str x) = true ∧ shp (.bl b) = true ∧ q (.bl (!deq (.str x) (.bl b)))) := rfl
@[simp] theorem sm_nebs : (oNe (.bl b) (.str x) q) = (shp (.bl b) = true ∧ shp (.str x) = true ∧ q (.bl (!deq (.bl b) (.str x)))) := rfl
@[simp] theorem sm_isn : (oIsN d .non q) = (q (.bl (isN d))) := rfl
@[simp] theorem sm_notn : (oNotN d .non q) = (q (.bl (!isN d))) := rfl
@[simp] theorem sm_isN_non : (isN (.non)) = (true) := rfl
@[simp] theorem sm_isN_int : (isN (.int i)) = (false) := rfl
@[simp] theorem sm_isN_str : (isN (.str x)) = (false) := rfl
@[simp] theorem sm_isN_bl : (isN (.bl b)) = (false) := rfl
@[simp] theorem sm_isN_lst : (isN (.lst ds)) = (false) := rfl
@[simp] theorem sm_isN_tup : (isN (.tup ds)) = (false) := rfl
@[simp] theorem sm_ix1 : (oIx (.lst ds) (.int i) q) = (∃ d, atI ds i = some d ∧ q d) := rfl
@[simp] theorem sm_ix2 : (oIx (.tup ds) (.int i) q) = (∃ d, atI ds i = some d ∧ q d) := rfl
@[simp] theorem sm_ix3 : (oIx (.str x) (.int i) q) = (x.length ≤ sizeLine ∧ ∃ c, atI x i = some c ∧ q (.str [c])) := rfl
variable {lo hi : Option Int}
@[simp] theorem sm_sl1 : (oSl (.str x) lo hi q) = (x.length ≤ sizeLine ∧ q (.str (cutL x lo hi))) := rfl
@[simp] theorem sm_sl2 : (oSl (.tup ds) lo hi q) = (q (.tup (cutL ds lo hi))) := rfl
@[simp] theorem sm_sl3 : (oSl (.lst ds) lo hi q) = (q (.lst (cutL ds lo hi))) := rfl
@[simp] theorem sm_sl4 : (oSlN (.lst ds) lo hi qn) = (qn (cutL ds lo hi)) := rfl
@[simp] theorem sm_len1 : (cLen [.str x] q) = (x.length ≤ sizeLine ∧ q (.int x.length)) := rfl
@[simp] theorem sm_len2 : (cLen [.lst ds] q) = (q (.int ds.length)) := rfl
@[simp] theorem sm_len3 : (cLen [.tup ds] q) = (q (.int ds.length)) := rfl
@[simp] theorem sm_tup1 : (cTuple [.lst ds] q) = (q (.tup ds)) := rfl
@[simp] theorem sm_tup2 : (cTuple [.tup ds] q) = (q (.tup ds)) := rfl
@[simp] theorem sm_list1 : (cList [.lst ds] qn) = (qn ds) := rfl
@[simp] theorem sm_list2 : (cList [.tup ds] qn) = (qn ds) := rfl
@[simp] theorem sm_min2 : (cMin2 [.int i, .int j] q) = (q (.int (if j < i then j else i))) := rfl
@[simp] theorem sm_max2 : (cMax2 [.int i, .int j] q) = (q (.int (if j > i then j else i))) := rfl
@[simp] theorem sm_int1 : (cInt [.int i] q) = (q (.int i)) := rfl
@[simp] theorem sm_int2 : (cInt [.bl b] q) = (q (.int (if b then 1 else 0))) := rfl
@[simp] theorem sm_str1 : (cStr [.int i] q) = (i.natAbs.log2 < 1920 ∧ q (.str (dec i))) := rfl
@[simp] theorem sm_rev1 : (oRev (.lst ds) q) = (q (.lst ds.reverse)) := rfl
@[simp] theorem sm_rev2 : (oRev (.tup ds) q) = (q (.tup ds.reverse)) := rfl
@[simp] theorem sm_rev3 : (oRevN (.lst ds) qn) = (qn ds.reverse) := rfl
theorem in_seqL {f : Bool → Bool} : (oInB f d (.lst ds) q) = (flatD d = true ∧ ds.all flatD = true ∧ q (.bl (f (ds.any fun y => eqF y d)))) := by
  cases d with
  | str x => cases x with
    | nil => rfl
    | cons a t => cases t <;> rfl
  | _ => rfl
theorem in_seqT {f : Bool → Bool} : (oInB f d (.tup ds) q) = (flatD d = true ∧ ds.all flatD = true ∧ q (.bl (f (ds.any fun y => eqF y d)))) := by
  cases d with
  | str x => cases x with
    | nil => rfl
    | cons a t => cases t <;> rfl
  | _ => rfl
@[simp] theorem sm_in1 : (oIn d (.lst ds) q) = (flatD d = true ∧ ds.all flatD = true ∧ q (.bl (ds.any fun y => eqF y d))) := in_seqL
@[simp] theorem sm_in2 : (oIn d (.tup ds) q) = (flatD d = true ∧ ds.all flatD = true ∧ q (.bl (ds.any fun y => eqF y d))) := in_seqT
@[simp] theorem sm_in3 {c : Nat} : (oIn (.str [c]) (.str x) q) = (q (.bl (decide (c ∈ x)))) := rfl
@[simp] theorem sm_nin1 : (oNotIn d (.lst ds) q) = (flatD d = true ∧ ds.all flatD = true ∧ q (.bl (!ds.any fun y => eqF y d))) := in_seqL
@[simp] theorem sm_nin2 : (oNotIn d (.tup ds) q) = (flatD d = true ∧ ds.all flatD = true ∧ q (.bl (!ds.any fun y => eqF y d))) := in_seqT
@[simp] theorem sm_nin3 {c : Nat} : (oNotIn (.str [c]) (.str x) q) = (q (.bl (!decide (c ∈ x)))) := rfl
theorem sum_call {ns : List Int} (h : q (.int ns.sum)) : cSum [.lst (ns.map D.int)] q := ⟨ns, rfl, h⟩
theorem all_call {bs : List Bool} (h : q (.bl (bs.all id))) : cAll [.lst (bs.map D.bl)] q := ⟨bs, rfl, h⟩
theorem any_call {bs : List Bool} (h : q (.bl (bs.any id))) : cAny [.lst (bs.map D.bl)] q := ⟨bs, rfl, h⟩
@[simp] theorem sm_flat1 : flatD (.int i) = true := rfl
@[simp] theorem sm_flat2 : flatD (.str x) = true := rfl
@[simp] theorem sm_flat3 : flatD (.bl b) = true := rfl
@[simp] theorem sm_isi1 {T : String} : (isiD T (.int i) q) = (q (.bl (isTyp "int" T))) := by
  unfold isiD
  exact propext ⟨fun ⟨t, h1, h2⟩ => by cases h1; exact h2, fun h => ⟨_, rfl, h⟩⟩
@[simp] theorem sm_isi2 {T : String} : (isiD T (.str x) q) = (q (.bl (isTyp "str" T))) := by
  unfold isiD
  exact propext ⟨fun ⟨t, h1, h2⟩ => by cases h1; exact h2, fun h => ⟨_, rfl, h⟩⟩
@[simp] theorem sm_isi3 {T : String} : (isiD T (.bl b) q) = (q (.bl (isTyp "bool" T))) := by
  unfold isiD
  exact propext ⟨fun ⟨t, h1, h2⟩ => by cases h1; exact h2, fun h => ⟨_, rfl, h⟩⟩
@[simp] theorem sm_isi4 {T : String} : (isiD T .non q) = (q (.bl (isTyp "NoneType" T))) := by
  unfold isiD
  exact propext ⟨fun ⟨t, h1, h2⟩ => by cases h1; exact h2, fun h => ⟨_, rfl, h⟩⟩
@[simp] theorem sm_isi5 {T : String} : (isiD T (.lst ds) q) = (q (.bl (isTyp "list" T))) := by
  unfold isiD
  exact propext ⟨fun ⟨t, h1, h2⟩ => by cases h1; exact h2, fun h => ⟨_, rfl, h⟩⟩
@[simp] theorem sm_isi6 {T : String} : (isiD T (.tup ds) q) = (q (.bl (isTyp "tuple" T))) := by
  unfold isiD
  exact propext ⟨fun ⟨t, h1, h2⟩ => by cases h1; exact h2, fun h => ⟨_, rfl, h⟩⟩
variable {qb : Bool → Prop} {qi : Int → Prop} {qs : List Nat → Prop}
@[simp] theorem sm_isB : (isB (.bl b) qb) = (qb b) := rfl
@[simp] theorem sm_asI : (asI (.int i) qi) = (qi i) := rfl
@[simp] theorem sm_asS : (asS (.str x) qs) = (qs x) := rfl
@[simp] theorem sm_it1 : (itemsOf (.lst ds)) = (some ds) := rfl
@[simp] theorem sm_it2 : (itemsOf (.tup ds)) = (some ds) := rfl
@[simp] theorem sm_it3 : (itemsOf (.str x)) = (some (x.map fun c => D.str [c])) := rfl
end
theorem draw_n {n g : Nat} {Q : D → Nat → Prop} {ex : Exn → Nat → Prop} (h0 : 0 < n) (h1 : n < 1152921504606846976) (hg : g + 1 ≤ 2 ^ 60) (h : ∀ v : Nat, v < n → Q (.int v) (g + 1)) : dDraw [.ob 0, .int n] g Q ex :=
  ⟨n, rfl, by omega, by omega, hg, fun v hv hv2 => by
    obtain ⟨m, rfl⟩ := Int.eq_ofNat_of_zero_le hv
    exact h m (by omega)⟩
theorem draw_l {k g : Nat} {Q : D → Nat → Prop} {ex : Exn → Nat → Prop} (hg : g + 1 ≤ 2 ^ 60) (h : ∀ v : Nat, v < k → Q (.int v) (g + 1)) (h0 : 0 < k := by decide) (h1 : k < 1152921504606846976 := by decide) {j : Int} (e : j = k := by rfl) : dDraw [.ob 0, .int j] g Q ex := by
  subst e
  exact draw_n h0 h1 hg h
theorem pick_of {g : Nat} {c : D} {xs : List D} {Q : D → Nat → Prop} {ex : Exn → Nat → Prop} (hg : g + 1 ≤ 2 ^ 60) (hc : itemsOf c = some xs) (h0 : xs ≠ []) (h1 : xs.length ≤ 16777216) (h : ∀ d ∈ xs, Q d (g + 1)) : d_l_pick [.ob 0, c] g Q ex := ⟨c, xs, rfl, hc, h0, h1, hg, h⟩
end DL
set_option Elab.async false
set_option linter.all false
set_option maxRecDepth 100000
set_option maxHeartbeats 1000000
namespace DL
open PySem L2
theorem perm_strict_eq {α : Type} {R : α → α → Prop} (as : ∀ a b, R a b → R b a → False) : ∀ {l1 l2 : List α}, l1.Perm l2 → l1.Pairwise R → l2.Pairwise R → l1 = l2
  | [], l2, p, _, _ => by rw [List.nil_perm.mp p]
  | a :: r, [], p, _, _ => by cases List.perm_nil.mp p
  | a :: r, b :: t, p, h1, h2 => by
    rw [List.pairwise_cons] at h1 h2
    have e : a = b := by
      rcases List.mem_cons.mp (p.mem_iff.mp List.mem_cons_self) with e | ha
      · exact e
      · rcases List.mem_cons.mp (p.symm.mem_iff.mp (List.mem_cons_self (a := b) (l := t))) with e | hb
        · exact e.symm
        · exact (as a b (h1.1 b hb) (h2.1 a ha)).elim
    subst e
    rw [perm_strict_eq as (List.Perm.cons_inv p) h1.2 h2.2]
/-- the tails stand in their order -/
def IsTO (w : List Nat) (o : List Nat) : Prop := o.Perm (List.range w.length) ∧ o.Pairwise fun i j => w.drop i < w.drop j
theorem lt_asymmL {a b : List Nat} (h : a < b) (h' : b < a) : False := List.lt_irrefl a (List.lt_trans h h')
theorem IsTO.uniq {w o o' : List Nat} (h : IsTO w o) (h' : IsTO w o') : o = o' := perm_strict_eq (fun _ _ a b => lt_asymmL a b) (h.1.trans h'.1.symm) h.2 h'.2
theorem drop_inj {w : List Nat} {i j : Nat} (hi : i < w.length) (hj : j < w.length) (e : w.drop i = w.drop j) : i = j := by
  have := congrArg List.length e
  rw [List.length_drop, List.length_drop] at this
  omega
theorem isTO_of_le {w o : List Nat} (p : o.Perm (List.range w.length)) (h : o.Pairwise fun i j => ¬ w.drop j < w.drop i) : IsTO w o := by
  refine ⟨p, ?_⟩
  have nd : o.Nodup := p.nodup_iff.mpr List.nodup_range
  have both := h.and nd
  refine both.imp_of_mem fun {i j} hi hj hij => ?_
  have hi' := List.mem_range.mp (p.mem_iff.mp hi)
  have hj' := List.mem_range.mp (p.mem_iff.mp hj)
  have le := List.not_lt.mp hij.1
  rcases Classical.em (w.drop i < w.drop j) with h | h
  · exact h
  · exact absurd (drop_inj hi' hj' (List.le_antisymm le (List.not_lt.mp h))) hij.2
theorem tOrd_is (w : List Nat) : IsTO w (tOrd w) := by
  refine isTO_of_le (List.mergeSort_perm _ _) ?_
  have tr : ∀ a b c : Nat, (!tlt w b a) = true → (!tlt w c b) = true → (!tlt w c a) = true := fun a b c h1 h2 => by
    simp only [tlt, Bool.not_eq_true', decide_eq_false_iff_not] at *
    exact List.not_lt.mpr (List.le_trans (List.not_lt.mp h1) (List.not_lt.mp h2))
  have to : ∀ a b : Nat, ((!tlt w b a) || (!tlt w a b)) = true := fun a b => by
    simp only [tlt, Bool.or_eq_true, Bool.not_eq_true', decide_eq_false_iff_not]
    rcases Classical.em (w.drop b < w.drop a) with h | h
    · exact .inr fun h' => lt_asymmL h h'
    · exact .inl h
  refine (List.pairwise_mergeSort (le := fun i j => !tlt w j i) tr to (List.range w.length)).imp fun {i j} h => ?_
  simp only [tlt, Bool.not_eq_true', decide_eq_false_iff_not] at h
  exact h
theorem IsTO.eq {w o : List Nat} (h : IsTO w o) : o = tOrd w := h.uniq (tOrd_is w)
theorem tOrd_len (w : List Nat) : (tOrd w).length = w.length := by rw [(tOrd_is w).1.length_eq, List.length_range]
theorem tOrd_lt {w : List Nat} {i : Nat} (h : i ∈ tOrd w) : i < w.length := List.mem_range.mp ((tOrd_is w).1.mem_iff.mp h)
/-- how many tails are less -/
def rk (w : List Nat) (p : Nat) : Nat := ((List.range w.length).filter fun o => decide (w.drop o < w.drop p)).length
theorem IsTO.rk {w o : List Nat} (h : IsTO w o) {k : Nat} (hk : k < o.length) : DL.rk w o[k] = k := by
  unfold DL.rk
  rw [← List.countP_eq_length_filter, ← h.1.countP_eq]
  have e : o = o.take k ++ o[k] :: o.drop (k + 1) := by rw [List.getElem_cons_drop, List.take_append_drop]
  have hp := h.2
  rw [e, List.pairwise_append] at hp
  obtain ⟨_, h2, h3⟩ := hp
  rw [List.pairwise_cons] at h2
  have c1 : (o.take k).countP (fun x => decide (w.drop x < w.drop o[k])) = (o.take k).length := List.countP_eq_length.mpr fun x hx => decide_eq_true (h3 x hx _ List.mem_cons_self)
  have c2 : (o.drop (k + 1)).countP (fun x => decide (w.drop x < w.drop o[k])) = 0 := List.countP_eq_zero.mpr fun x hx => by
    rw [decide_eq_true_eq]
    exact fun h => lt_asymmL h (h2.1 x hx)
  have c3 : List.countP (fun x => decide (w.drop x < w.drop o[k])) (o.take k ++ o[k] :: o.drop (k + 1)) = k := by
    rw [List.countP_append, List.countP_cons, c1, c2, List.length_take, if_neg (by rw [decide_eq_true_eq]; exact List.lt_irrefl _)]
    omega
  rw [← e] at c3
  exact c3
theorem rk_at {w : List Nat} {p : Nat} (hp : p < w.length) : (tOrd w)[rk w p]? = some p := by
  have hm : p ∈ tOrd w := (tOrd_is w).1.mem_iff.mpr (List.mem_range.mpr hp)
  obtain ⟨k, hk, rfl⟩ := List.getElem_of_mem hm
  rw [(tOrd_is w).rk hk, List.getElem?_eq_getElem hk]
theorem rk_lt {w : List Nat} {p : Nat} (hp : p < w.length) : rk w p < w.length := by
  have := (List.getElem?_eq_some_iff.mp (rk_at hp)).1
  rwa [tOrd_len] at this
theorem rk_inj {w : List Nat} {p p' : Nat} (hp : p < w.length) (hp' : p' < w.length) (e : rk w p = rk w p') : p = p' := by
  have h1 := rk_at hp
  rw [e, rk_at hp'] at h1
  exact (Option.some.inj h1).symm
/-- the sorted pairs give the tail order -/
theorem sorted_TO {w : List Nat} {ys : List (List Nat × Int)} (hp : ys.Perm ((List.range w.length).map fun i : Nat => (w.drop i, (i : Int)))) (hs : ys.Pairwise leTI) : ys.map (fun y => D.int y.2) = nats (tOrd w) := by
  obtain ⟨o, ho, rfl⟩ := perm_map_inv (f := fun i : Nat => (w.drop i, (i : Int))) hp _ rfl
  rw [List.pairwise_map] at hs
  have := isTO_of_le ho (hs.imp fun {i j} h => by
    rcases h with h | ⟨h, _⟩
    · exact fun h' => lt_asymmL h h'
    · intro h'
      have e : w.drop i = w.drop j := h
      rw [e] at h'
      exact List.lt_irrefl _ h')
  rw [← this.eq, List.map_map]
  rfl
/-- what the counting fills -/
theorem filled_TO {w : List Nat} {F : List D} (hl : F.length = w.length) (h : ∀ p, p < w.length → F[rk w p]? = some (.int p)) : F = nats (tOrd w) := by
  refine List.ext_getElem? fun k => ?_
  by_cases hk : k < w.length
  · have hk' : k < (tOrd w).length := by rw [tOrd_len]; exact hk
    have h1 := (tOrd_is w).rk hk'
    have h2 := h _ (tOrd_lt (List.getElem_mem hk'))
    rw [h1] at h2
    unfold nats
    rw [h2, List.getElem?_map, List.getElem?_eq_getElem hk']
    rfl
  · rw [List.getElem?_eq_none (by omega), List.getElem?_eq_none (by unfold nats; rw [List.length_map, tOrd_len]; omega)]
theorem inv_len (o : List Nat) : (inv o).length = o.length := by unfold inv; rw [List.length_map, List.length_range]
theorem isPerm.nodup {o : List Nat} (h : isPerm o) : o.Nodup := List.Perm.nodup_iff h |>.mpr List.nodup_range
theorem isPerm.lt {o : List Nat} (h : isPerm o) {i : Nat} (hi : i ∈ o) : i < o.length := List.mem_range.mp (List.Perm.mem_iff h |>.mp hi)
theorem isPerm.mem {o : List Nat} (h : isPerm o) {i : Nat} (hi : i < o.length) : i ∈ o := List.Perm.mem_iff h |>.mpr (List.mem_range.mpr hi)
theorem inv_get {o : List Nat} {p : Nat} (hp : p < o.length) : (inv o)[p]? = some (o.idxOf p) := by
  unfold inv
  rw [List.getElem?_map, List.getElem?_range hp]
  rfl
theorem idx_of_get {o : List Nat} (h : o.Nodup) {j p : Nat} (e : o[j]? = some p) : o.idxOf p = j := by
  obtain ⟨hj, rfl⟩ := List.getElem?_eq_some_iff.mp e
  exact h.idxOf_getElem j hj
theorem get_idx {o : List Nat} {p : Nat} (h : p ∈ o) : o[o.idxOf p]? = some p := by
  have := List.idxOf_lt_length_of_mem h
  rw [List.getElem?_eq_getElem this, List.getElem_idxOf]
/-- ranks filled in by their places -/
theorem filled_inv {o : List Nat} {F : List D} (ho : isPerm o) (hl : F.length = o.length) (h : ∀ (j p : Nat), o[j]? = some p → F[p]? = some (.int j)) : F = nats (inv o) := by
  refine List.ext_getElem? fun p => ?_
  by_cases hp : p < o.length
  · unfold nats
    rw [List.getElem?_map, inv_get hp, h _ _ (get_idx (ho.mem hp))]
    rfl
  · rw [List.getElem?_eq_none (by omega), List.getElem?_eq_none (by unfold nats; rw [List.length_map, inv_len]; omega)]
theorem tOrd_perm (w : List Nat) : isPerm (tOrd w) := by
  unfold isPerm
  rw [tOrd_len]
  exact (tOrd_is w).1
theorem inv_TO (w : List Nat) : inv (tOrd w) = (List.range w.length).map (rk w) := by
  refine List.ext_getElem? fun p => ?_
  by_cases hp : p < w.length
  · rw [inv_get (by rw [tOrd_len]; exact hp), idx_of_get (tOrd_perm w).nodup (rk_at hp), List.getElem?_map, List.getElem?_range hp]
    rfl
  · rw [List.getElem?_eq_none (by rw [inv_len, tOrd_len]; omega), List.getElem?_eq_none (by rw [List.length_map, List.length_range]; omega)]
theorem nats_get {o : List Nat} {i : Nat} {d : D} (h : (nats o)[i]? = some d) : ∃ p : Nat, o[i]? = some p ∧ d = .int p := by
  unfold nats at h
  rw [List.getElem?_map] at h
  cases hp : o[i]? with
  | none => rw [hp] at h; cases h
  | some p => rw [hp] at h; cases h; exact ⟨p, rfl, rfl⟩
theorem nats_len (o : List Nat) : (nats o).length = o.length := by unfold nats; rw [List.length_map]
theorem en_get {ds : List D} {i : Nat} {d : D} (h : (enL 0 ds)[i]? = some d) : ∃ e, ds[i]? = some e ∧ d = .tup [.int (i : Nat), e] := by
  rw [enL_get, Nat.zero_add] at h
  cases hp : ds[i]? with
  | none => rw [hp] at h; cases h
  | some p => rw [hp] at h; cases h; exact ⟨p, rfl, rfl⟩
theorem enL_len : ∀ (ds : List D) (n : Nat), (enL n ds).length = ds.length
  | [], _ => rfl
  | d :: ds, n => by show (enL (n + 1) ds).length + 1 = _; rw [enL_len ds (n + 1)]; rfl
theorem allW_len (L : List Nat) : ∀ (n : Nat), ∀ w ∈ allW L n, w.length = n
  | 0, w, h => by rw [List.mem_singleton.mp h]; rfl
  | n + 1, w, h => by
    obtain ⟨v, hv, hw⟩ := List.mem_flatMap.mp h
    obtain ⟨c, hc, rfl⟩ := List.mem_map.mp hw
    rw [List.length_append, allW_len L n v hv]
    rfl
theorem allW_count {L : List Nat} (hL : L.length ≤ 4) : ∀ n, (allW L n).length ≤ 4 ^ n
  | 0 => Nat.le_refl _
  | n + 1 => by
    have ih := allW_count hL n
    have f : ∀ l : List (List Nat), (l.flatMap fun h => L.map fun c => h ++ [c]).length = l.length * L.length := fun l => by
      induction l with
      | nil => simp
      | cons a l ih => rw [List.flatMap_cons, List.length_append, ih, List.length_map, List.length_cons, Nat.succ_mul]; omega
    show ((allW L n).flatMap fun h => L.map fun c => h ++ [c]).length ≤ _
    rw [f, Nat.pow_succ]
    exact Nat.mul_le_mul ih hL
theorem foldl_max : ∀ (xs : List Nat) (a : Nat), a ≤ xs.foldl max a ∧ (∀ y ∈ xs, y ≤ xs.foldl max a) ∧ (xs.foldl max a = a ∨ xs.foldl max a ∈ xs)
  | [], a => ⟨Nat.le_refl _, (fun _ h => by cases h), .inl rfl⟩
  | x :: xs, a => by
    obtain ⟨h1, h2, h3⟩ := foldl_max xs (max a x)
    refine ⟨Nat.le_trans (Nat.le_max_left _ _) h1, fun y hy => ?_, ?_⟩
    · rcases List.mem_cons.mp hy with rfl | hy
      · exact Nat.le_trans (Nat.le_max_right _ _) h1
      · exact h2 y hy
    · show xs.foldl max (max a x) = a ∨ _
      rcases h3 with h3 | h3
      · rw [List.foldl_cons]
        rcases Nat.le_total a x with c | c
        · rw [Nat.max_eq_right c] at h3 ⊢
          exact .inr (by rw [h3]; exact List.mem_cons_self)
        · rw [Nat.max_eq_left c] at h3 ⊢
          exact .inl h3
      · exact .inr (List.mem_cons_of_mem _ h3)
theorem lyn_one (c : Nat) : lynW [c] = true := by rfl
theorem lngW_max {w : List Nat} {b : Nat} (h : b < w.length) : lngW w b ∈ (((List.range' (b + 1) (w.length - b)).filter fun e => lynW ((w.drop b).take (e - b))).map fun e => e - b) ∧
    ∀ y ∈ (((List.range' (b + 1) (w.length - b)).filter fun e => lynW ((w.drop b).take (e - b))).map fun e => e - b), y ≤ lngW w b := by
  have one : 1 ∈ (((List.range' (b + 1) (w.length - b)).filter fun e => lynW ((w.drop b).take (e - b))).map fun e => e - b) := by
    refine List.mem_map.mpr ⟨b + 1, List.mem_filter.mpr ⟨List.mem_range'_1.mpr ⟨Nat.le_refl _, by omega⟩, ?_⟩, by omega⟩
    rw [show b + 1 - b = 1 by omega, List.drop_eq_getElem_cons h]
    exact lyn_one _
  obtain ⟨_, h2, h3⟩ := foldl_max (((List.range' (b + 1) (w.length - b)).filter fun e => lynW ((w.drop b).take (e - b))).map fun e => e - b) 0
  refine ⟨?_, h2⟩
  rcases h3 with h3 | h3
  · have := h2 1 one
    rw [h3] at this
    omega
  · exact h3
theorem lngW_pos {w : List Nat} {b : Nat} (h : b < w.length) : 1 ≤ lngW w b ∧ b + lngW w b ≤ w.length := by
  obtain ⟨h1, h2⟩ := lngW_max h
  obtain ⟨e, he, h3⟩ := List.mem_map.mp h1
  have he3 := List.mem_range'_1.mp (List.mem_filter.mp he).1
  omega
theorem lt_app : ∀ (x y z : List Nat), (x ++ y < x ++ z) ↔ y < z
  | [], y, z => Iff.rfl
  | a :: x, y, z => by
    rw [List.cons_append, List.cons_append, List.cons_lt_cons_iff, lt_app x y z]
    simp
theorem one_lt (a b : Nat) : ([a] < [b]) ↔ a < b := by
  rw [List.cons_lt_cons_iff]
  simp
theorem cutW_len (w : List Nat) : ∀ f b, (cutW w f b).length ≤ f
  | 0, _ => Nat.le_refl _
  | f + 1, b => by
    unfold cutW
    split
    · have := cutW_len w f (b + lngW w b)
      rw [List.length_cons]; omega
    · simp
theorem cutW_mem (w : List Nat) : ∀ f b, ∀ v ∈ cutW w f b, v.length ≤ w.length
  | 0, _, v, h => by cases h
  | f + 1, b, v, h => by
    unfold cutW at h
    split at h
    · rcases List.mem_cons.mp h with rfl | h
      · rw [List.length_take, List.length_drop]; omega
      · exact cutW_mem w f _ v h
    · cases h
end DL
set_option Elab.async false
set_option linter.all false
set_option maxRecDepth 100000
set_option maxHeartbeats 1000000
namespace DL
open PySem L2
/-- shown in at most n signs, nested at most k levels -/
structure RB (n k : Nat) (d : D) : Prop where
  show_ : (py d).showable = true
  pl : pln d = true
  dep : (py d).depth ≤ k
  len : (py d).shown.length ≤ n
theorem RB.mono {n m k l : Nat} {d : D} (h : RB n k d) (a : n ≤ m) (b : k ≤ l) : RB m l d := ⟨h.1, h.2, Nat.le_trans h.3 b, Nat.le_trans h.4 a⟩
theorem RB.ok {n k : Nat} {d : D} (h : RB n k d) (a : n ≤ 16777216) (b : k ≤ 60) : repOk d := ⟨h.1, h.2, Nat.le_trans h.3 b, by rw [sizeLine_eq]; exact Nat.le_trans h.4 a⟩
theorem rb_non : RB 4 0 .non := ⟨rfl, rfl, Nat.le_refl _, by decide⟩
theorem rb_bl (b : Bool) : RB 5 0 (.bl b) := by cases b <;> exact ⟨rfl, rfl, Nat.le_refl _, by decide⟩
theorem rb_int {i : Int} {k : Nat} (hk : 0 < k) (h : i.natAbs < 10 ^ k) (hk2 : k ≤ 400) : RB (k + 1) 0 (.int i) := by
  refine ⟨?_, rfl, Nat.le_refl _, ?_⟩
  · refine decide_eq_true ?_
    by_cases h0 : i.natAbs = 0
    · rw [h0]; decide
    · have e : 10 ^ k ≤ 2 ^ (4 * k) := by
        rw [Nat.pow_mul]
        exact Nat.pow_le_pow_left (by decide) k
      have : i.natAbs.log2 < 4 * k := (Nat.log2_lt h0).mpr (Nat.lt_of_lt_of_le h e)
      omega
  · show (Str.ofString (toString i)).length ≤ k + 1
    rw [PySem.ofString_length]
    exact PySem.int_text_length_le10 hk h
theorem rb_nat {i : Nat} (h : i < 1000) : RB 4 0 (.int (i : Int)) := rb_int (k := 3) (by decide) (by simpa using h) (by decide)
theorem rb_str {x : List Nat} (h : ∀ c ∈ x, c < 1114112) : RB (10 * x.length + 2) 0 (.str x) := by
  refine ⟨rfl, rfl, Nat.le_refl _, ?_⟩
  have := PySem.StrLaws.reprText_len (S x) (by
    rw [S_list]
    intro c hc
    exact Nat.lt_of_lt_of_le (h c hc) (by decide))
  rw [str_len (S x), S_list] at this
  exact this
theorem textFrom_le : ∀ (ts : List Str) (k : Nat) (acc : Str), (textFrom k acc ts).length ≤ acc.length + piled ts
  | [], k, acc => Nat.le_refl _
  | t :: r, k, acc => by
    have ih := textFrom_le r (k + 1) (acc ++ (if k > 0 then ", " else "" : String) ++ t)
    show (textFrom (k + 1) _ r).length ≤ _
    refine Nat.le_trans ih ?_
    rw [strLen_append, strLen_append, piled_cons]
    have : ((if k > 0 then ", " else "" : String) : Str).length ≤ 2 := by split <;> decide
    omega
theorem list_le (ts : List Str) : (listText ts).length ≤ piled ts + 2 := by
  unfold listText
  rw [strLen_append]
  have := textFrom_le ts 0 "["
  have e : (("[" : String) : Str).length = 1 := rfl
  have e2 : (("]" : String) : Str).length = 1 := rfl
  omega
theorem tuple_le (ts : List Str) : (tupleText ts).length ≤ piled ts + 3 := by
  unfold tupleText
  rw [strLen_append, strLen_append]
  have e : (("(" : String) : Str).length = 1 := rfl
  have e2 : ((if ts.length == 1 then ",)" else ")" : String) : Str).length ≤ 2 := by split <;> decide
  by_cases h : ts = []
  · subst h
    have : (Str.join ", " []).length = 0 := rfl
    omega
  · have := join_length_add ts h
    omega
theorem rbA {n k : Nat} : ∀ {ds : List D}, (∀ d ∈ ds, RB n k d) → PyData.showableAll (pyA ds) = true ∧ plnA ds = true ∧ PyData.depthAll (pyA ds) ≤ k ∧ piled (PyData.shownAll (pyA ds)) ≤ (n + 2) * ds.length
  | [], _ => ⟨rfl, rfl, Nat.zero_le _, Nat.zero_le _⟩
  | d :: ds, h => by
    obtain ⟨h1, h3, h4, h5⟩ := rbA fun x hx => h x (List.mem_cons_of_mem _ hx)
    have q := h d List.mem_cons_self
    refine ⟨?_, ?_, ?_, ?_⟩
    · simp [pyA, PyData.showableAll, q.1, h1]
    · simp [plnA, q.2, h3]
    · simp only [pyA, PyData.depthAll]
      exact Nat.max_le.mpr ⟨q.3, h4⟩
    · simp only [pyA, PyData.shownAll, piled_cons, List.length_cons]
      have := q.4
      rw [Nat.mul_add]
      omega
theorem rb_lst {n k : Nat} {ds : List D} (h : ∀ d ∈ ds, RB n k d) : RB ((n + 2) * ds.length + 2) (k + 1) (.lst ds) := by
  obtain ⟨h1, h3, h4, h5⟩ := rbA h
  refine ⟨by simpa [py, PyData.showable] using h1, by simpa [pln] using h3, ?_, ?_⟩
  · simp only [py, PyData.depth]; omega
  · simp only [py, PyData.shown]
    have := list_le (PyData.shownAll (pyA ds))
    omega
theorem rb_tup {n k : Nat} {ds : List D} (h : ∀ d ∈ ds, RB n k d) : RB ((n + 2) * ds.length + 3) (k + 1) (.tup ds) := by
  obtain ⟨h1, h3, h4, h5⟩ := rbA h
  refine ⟨by simpa [py, PyData.showable] using h1, by simpa [pln] using h3, ?_, ?_⟩
  · simp only [py, PyData.depth]; omega
  · simp only [py, PyData.shown]
    have := tuple_le (PyData.shownAll (pyA ds))
    omega
theorem rb_nats {xs : List Nat} (h : ∀ i ∈ xs, i < 1000) : RB (6 * xs.length + 3) 1 (.tup (nats xs)) := by
  have := rb_tup (n := 4) (k := 0) (ds := nats xs) fun d hd => by
    obtain ⟨i, hi, rfl⟩ := List.mem_map.mp hd
    exact rb_nat (h i hi)
  unfold nats at this
  rw [List.length_map] at this
  exact this
theorem rb_dic0 : RB 2 1 (.dic []) := ⟨rfl, rfl, by decide, by decide⟩
theorem rb_dic1 : RB 8 1 (.dic [(.inr (S [97]), .int 1)]) := ⟨by decide +kernel, rfl, by decide +kernel, by decide +kernel⟩
/-- a call of repr -/
theorem rep_call {d : D} {q : D → Prop} {n k : Nat} (h : RB n k d) (a : n ≤ 16777216) (b : k ≤ 60) (hq : q (.str (rep d))) : cRepr [d] q := ⟨d, rfl, h.ok a b, hq⟩
theorem rep_two (a b : D) : rep (.lst [a, b]) = [91] ++ rep a ++ [44, 32] ++ rep b ++ [93] := by
  unfold rep
  simp only [py, pyA, PyData.shown, PyData.shownAll, listText, textFrom, str_app]
  rfl
end DL
set_option Elab.async false
set_option linter.all false
set_option maxRecDepth 100000
set_option maxHeartbeats 1000000
namespace DL
open PySem L2
theorem jn_ones : ∀ xs : List Nat, jn [] (xs.map fun c => [c]) = xs
  | [] => rfl
  | [a] => rfl
  | a :: b :: r => by
    have := jn_ones (b :: r)
    show [a] ++ ([] ++ TL.joinL [] ((b :: r).map fun c => [c])) = _
    rw [show TL.joinL [] ((b :: r).map fun c => [c]) = b :: r from this]
    rfl
theorem ones_sum (xs : List Nat) : ((xs.map fun c => [c]).map (·.length)).sum = xs.length := by
  induction xs with
  | nil => rfl
  | cons a r ih => simp at ih ⊢; omega
/-- a letter as a text -/
def IsL (d : D) : Prop := ∃ c, d = .str [c] ∧ 97 ≤ c ∧ c < 123
theorem isL_all : ∀ {ys : List D}, (∀ d ∈ ys, IsL d) → ∃ cs : List Nat, ys = cs.map (fun c => D.str [c]) ∧ Lets cs ∧ cs.length = ys.length
  | [], _ => ⟨[], rfl, (fun _ h => by cases h), rfl⟩
  | y :: ys, h => by
    obtain ⟨cs, e, l, hl⟩ := isL_all fun d hd => h d (List.mem_cons_of_mem _ hd)
    obtain ⟨c, rfl, h1, h2⟩ := h y List.mem_cons_self
    refine ⟨c :: cs, by rw [e]; rfl, fun x hx => ?_, by rw [List.length_cons, List.length_cons, hl]⟩
    rcases List.mem_cons.mp hx with rfl | hx
    · exact ⟨h1, h2⟩
    · exact l x hx
theorem paired_all {α : Type} {P : D → Prop} : ∀ {xs : List α} {ys : List D}, Paired (fun _ d => P d) xs ys → (∀ d ∈ ys, P d) ∧ ys.length = xs.length
  | _, _, .nil => ⟨(fun _ h => by cases h), rfl⟩
  | _, _, .cons h t => by
    obtain ⟨h1, h2⟩ := paired_all t
    refine ⟨fun d hd => ?_, by rw [List.length_cons, List.length_cons, h2]⟩
    rcases List.mem_cons.mp hd with rfl | hd
    · exact h
    · exact h1 d hd
theorem ite_dec {P : Prop} [Decidable P] {a b : Prop} (h : if decide P = true then a else b) : if P then a else b := by
  by_cases c : P
  · simpa [c] using h
  · simpa [c] using h
theorem join_letters {ys : List D} {q : D → Prop} (hy : ∀ d ∈ ys, IsL d) (hl : ys.length ≤ 1000) (h : ∀ cs : List Nat, Lets cs → cs.length = ys.length → q (.str cs)) : oJoin [] (.lst ys) q := by
  obtain ⟨cs, rfl, hL, hc⟩ := isL_all hy
  refine ⟨_, cs.map fun c => [c], .inl rfl, by rw [List.map_map]; rfl, by rw [ones_sum, List.length_nil, Nat.mul_zero]; omega, ?_⟩
  rw [jn_ones]
  exact h cs hL hc
theorem lets_take {w : List Nat} (h : Lets w) (n : Nat) : Lets (w.take n) := fun c hc => h c (List.mem_of_mem_take hc)
theorem lets_drop {w : List Nat} (h : Lets w) (n : Nat) : Lets (w.drop n) := fun c hc => h c (List.mem_of_mem_drop hc)
theorem lets_app {w v : List Nat} (h : Lets w) (h' : Lets v) : Lets (w ++ v) := fun c hc => (List.mem_append.mp hc).elim (h c) (h' c)
theorem lets_rep {w : List Nat} (h : Lets w) (n : Nat) : Lets (List.replicate n w).flatten := fun c hc => by
  obtain ⟨v, hv, hc⟩ := List.mem_flatten.mp hc
  rw [List.eq_of_mem_replicate hv] at hc
  exact h c hc
theorem rep_len {α : Type} (w : List α) (n : Nat) : (List.replicate n w).flatten.length = n * w.length := by
  induction n with
  | zero => simp
  | succ n ih => rw [List.replicate_succ, List.flatten_cons, List.length_append, ih, Nat.succ_mul]; omega
end DL
set_option Elab.async false
set_option linter.all false
set_option maxRecDepth 100000
set_option maxHeartbeats 1000000
namespace DL
open PySem L2
/-- may be compared: nested at most k levels -/
structure Sh (k : Nat) (d : D) : Prop where
  lay : (py d).canLay0 = true
  dep : (py d).depth ≤ k
  pl : pln d = true
theorem Sh.mono {k l : Nat} {d : D} (h : Sh k d) (a : k ≤ l) : Sh l d := ⟨h.1, Nat.le_trans h.2 a, h.3⟩
theorem Sh.ok {k : Nat} {d : D} (h : Sh k d) (a : k ≤ 64) : shp d = true := by
  unfold shp SeqAt.shaped
  rw [h.1, h.3, decide_eq_true (Nat.le_trans h.2 a)]
  rfl
theorem sh_non : Sh 0 .non := ⟨rfl, Nat.le_refl _, rfl⟩
theorem sh_bl (b : Bool) : Sh 0 (.bl b) := ⟨rfl, Nat.le_refl _, rfl⟩
theorem sh_int (i : Int) : Sh 0 (.int i) := ⟨rfl, Nat.le_refl _, rfl⟩
theorem sh_str (x : List Nat) (h : ∀ c ∈ x, c < 1114112) : Sh 0 (.str x) := ⟨by
  show PyData.strOk (S x) = true
  unfold PyData.strOk
  rw [← Array.all_toList, S_list, List.all_eq_true]
  exact fun c hc => decide_eq_true (h c hc), Nat.le_refl _, rfl⟩
theorem shA {k : Nat} : ∀ {ds : List D}, (∀ d ∈ ds, Sh k d) → PyData.canLayAll0 (pyA ds) = true ∧ PyData.depthAll (pyA ds) ≤ k ∧ plnA ds = true
  | [], _ => ⟨rfl, Nat.zero_le _, rfl⟩
  | d :: ds, h => by
    obtain ⟨h1, h2, h3⟩ := shA fun x hx => h x (List.mem_cons_of_mem _ hx)
    have q := h d List.mem_cons_self
    refine ⟨?_, ?_, ?_⟩
    · simp [pyA, PyData.canLayAll0, q.1, h1]
    · simp only [pyA, PyData.depthAll]
      exact Nat.max_le.mpr ⟨q.2, h2⟩
    · simp [plnA, q.3, h3]
theorem sh_lst {k : Nat} {ds : List D} (h : ∀ d ∈ ds, Sh k d) : Sh (k + 1) (.lst ds) := by
  obtain ⟨h1, h2, h3⟩ := shA h
  refine ⟨by simpa [py, PyData.canLay0] using h1, ?_, by simpa [pln] using h3⟩
  simp only [py, PyData.depth]; omega
theorem sh_tup {k : Nat} {ds : List D} (h : ∀ d ∈ ds, Sh k d) : Sh (k + 1) (.tup ds) := by
  obtain ⟨h1, h2, h3⟩ := shA h
  refine ⟨by simpa [py, PyData.canLay0] using h1, ?_, by simpa [pln] using h3⟩
  simp only [py, PyData.depth]; omega
theorem sh_nats (xs : List Nat) : ∀ d ∈ nats xs, Sh 0 d := fun d hd => by
  obtain ⟨i, hi, rfl⟩ := List.mem_map.mp hd
  exact sh_int _
mutual
def nb : D → Bool
  | .non => true
  | .int _ => true
  | .str _ => true
  | .lst ds => nbA ds
  | .tup ds => nbA ds
  | _ => false
def nbA : List D → Bool
  | [] => true
  | d :: ds => nb d && nbA ds
end
mutual
theorem deq_iff : ∀ (d e : D), nb d = true → nb e = true → (deq d e = true ↔ d = e)
  | .non, e, _, he => by cases e <;> simp_all [deq, py, PyData.eqv, nb]
  | .int i, e, _, he => by cases e <;> simp_all [deq, py, PyData.eqv, nb]
  | .str x, e, _, he => by
    cases e with
    | str y =>
      simp only [deq, py, PyData.eqv]
      rw [str_beq, S_list, S_list]
      simp
    | _ => simp_all [deq, py, PyData.eqv, nb]
  | .lst xs, e, hd, he => by
    cases e with
    | lst ys =>
      have := deqA_iff xs ys (by simpa [nb] using hd) (by simpa [nb] using he)
      simp only [deq, py, PyData.eqv]
      rw [this]
      simp
    | _ => simp_all [deq, py, PyData.eqv, nb]
  | .tup xs, e, hd, he => by
    cases e with
    | tup ys =>
      have := deqA_iff xs ys (by simpa [nb] using hd) (by simpa [nb] using he)
      simp only [deq, py, PyData.eqv]
      rw [this]
      simp
    | _ => simp_all [deq, py, PyData.eqv, nb]
  | .bl b, _, hd, _ => by simp [nb] at hd
  | .dic b, _, hd, _ => by simp [nb] at hd
  | .ob b, _, hd, _ => by simp [nb] at hd
  | .exn _ _ _, _, hd, _ => by simp [nb] at hd
  | .tx _, _, hd, _ => by simp [nb] at hd
theorem deqA_iff : ∀ (ds es : List D), nbA ds = true → nbA es = true → (PyData.eqvAll (pyA ds) (pyA es) = true ↔ ds = es)
  | [], [], _, _ => by simp [pyA, PyData.eqvAll]
  | [], _ :: _, _, _ => by simp [pyA, PyData.eqvAll]
  | _ :: _, [], _, _ => by simp [pyA, PyData.eqvAll]
  | d :: ds, e :: es, hd, he => by
    have h1 : nb d = true ∧ nbA ds = true := by simpa [nbA] using hd
    have h2 : nb e = true ∧ nbA es = true := by simpa [nbA] using he
    have a := deq_iff d e h1.1 h2.1
    have b := deqA_iff ds es h1.2 h2.2
    simp only [pyA, PyData.eqvAll, Bool.and_eq_true, List.cons.injEq]
    exact and_congr a b
end
theorem nbA_all {ds : List D} : nbA ds = true ↔ ∀ d ∈ ds, nb d = true := by
  induction ds with
  | nil => simp [nbA]
  | cons d ds ih => simp [nbA, ih]
theorem nb_nats (xs : List Nat) : nbA (nats xs) = true := nbA_all.mpr fun d hd => by
  obtain ⟨i, hi, rfl⟩ := List.mem_map.mp hd
  rfl
theorem nb_txts (xs : List (List Nat)) : nbA (txts xs) = true := nbA_all.mpr fun d hd => by
  obtain ⟨i, hi, rfl⟩ := List.mem_map.mp hd
  rfl
theorem nb_ints (xs : List Int) : nbA (xs.map D.int) = true := nbA_all.mpr fun d hd => by
  obtain ⟨i, hi, rfl⟩ := List.mem_map.mp hd
  rfl
theorem deq_refl {d : D} (h : nb d = true) : deq d d = true := (deq_iff d d h h).mpr rfl
theorem deq_dec {d e : D} (hd : nb d = true) (he : nb e = true) {P : Prop} [Decidable P] (h : d = e ↔ P) : deq d e = decide P := by
  rw [Bool.eq_iff_iff, deq_iff d e hd he, decide_eq_true_eq]
  exact h
theorem map_inj {α β : Type} {f : α → β} (hf : ∀ a b, f a = f b → a = b) : ∀ {xs ys : List α}, xs.map f = ys.map f → xs = ys
  | [], [], _ => rfl
  | [], _ :: _, h => by cases h
  | _ :: _, [], h => by cases h
  | x :: xs, y :: ys, h => by
    injection h with h1 h2
    rw [hf _ _ h1, map_inj hf h2]
theorem nats_inj {xs ys : List Nat} : nats xs = nats ys ↔ xs = ys := ⟨fun h => by
  unfold nats at h
  exact map_inj (fun a b h => by have : (a : Int) = (b : Int) := by simpa using h
                                 omega) h, fun h => by rw [h]⟩
theorem txts_inj {xs ys : List (List Nat)} : txts xs = txts ys ↔ xs = ys := ⟨fun h => by
  unfold txts at h
  exact map_inj (fun a b h => by simpa using h) h, fun h => by rw [h]⟩
theorem deq_nil {ds : List D} (h : nbA ds = true) : deq (.lst ds) (.lst []) = ds.isEmpty := by
  rw [Bool.eq_iff_iff, deq_iff _ _ (by simpa [nb] using h) rfl, List.isEmpty_iff]
  simp
end DL
set_option Elab.async false
set_option linter.all false
set_option maxRecDepth 100000
set_option maxHeartbeats 1000000
namespace DL
open PySem L2
/-- while, by what goes down -/
theorem while_of {M : Ghost} {c : TW M} {wb : SW M} {k : K3 M} (I : Nat → DEnv → M.G → Prop) {n : Nat} {ρ : DEnv} {g : M.G} (h0 : I n ρ g)
    (step : ∀ (n : Nat) (ρ : DEnv) (g : M.G) (nx : DEnv → M.G → Prop), I n ρ g → (∀ (m : Nat) (ρ' : DEnv) (g' : M.G), m < n → I m ρ' g' → nx ρ' g') →
      c ρ g fun t g' => if t = true then wb { nx := nx, rt := k.rt, bk := k.nx, ct := nx } ρ g' else k.nx ρ g') : wWhile c wb k ρ g := by
  have key : ∀ (f n : Nat) (ρ : DEnv) (g : M.G), n < f → I n ρ g → whN c wb f k ρ g := by
    intro f
    induction f with
    | zero => intro n ρ g h; omega
    | succ f ih => exact fun n ρ g h hI => step n ρ g _ hI fun m ρ' g' hm hI' => ih m ρ' g' (by omega) hI'
  exact ⟨n + 1, key _ _ _ _ (Nat.lt_succ_self n) h0⟩
theorem isPl_inv {n : Nat} {d : D} (h : isPl n d = true) : ∃ i : Nat, d = .int i ∧ i < n := by
  unfold isPl isInt at h
  cases d with
  | int i =>
    simp at h
    exact ⟨i.toNat, by congr 1; omega, by omega⟩
  | _ => cases h
theorem isPl_nat {n i : Nat} : isPl n (.int i) = decide (i < n) := by
  unfold isPl isInt
  by_cases c : i < n
  · simp [c]; omega
  · simp [c]; omega
@[simp] theorem natD_int {i : Nat} : natD (.int i) = i := rfl
theorem ok_int {i : Int} : okD (.int i) := ⟨_, rfl⟩
theorem ok_str {x : List Nat} : okD (.str x) := ⟨_, rfl⟩
theorem ok_bl {b : Bool} : okD (.bl b) := ⟨_, rfl⟩
theorem ok_non : okD .non := ⟨_, rfl⟩
theorem ok_tup {ds : List D} : okD (.tup ds) := ⟨_, rfl⟩
theorem ok_lst {ds : List D} : okD (.lst ds) := ⟨_, rfl⟩
/-- letter by letter -/
theorem tlt_step {w : List Nat} {i j : Nat} (hi : i < w.length) (hj : j < w.length) : tlt w i j = if w[i] = w[j] then tlt w (i + 1) (j + 1) else decide (w[i] < w[j]) := by
  unfold tlt
  rw [List.drop_eq_getElem_cons hi, List.drop_eq_getElem_cons hj]
  by_cases c : w[i] = w[j]
  · rw [if_pos c, c]
    exact decide_eq_decide.mpr (by rw [List.cons_lt_cons_iff]; simp)
  · rw [if_neg c]
    exact decide_eq_decide.mpr (by rw [List.cons_lt_cons_iff]; simp [c])
theorem tlt_end1 {w : List Nat} {j : Nat} (hj : j ≤ w.length) : tlt w w.length j = decide (j < w.length) := by
  unfold tlt
  rw [List.drop_length]
  by_cases c : j < w.length
  · rw [List.drop_eq_getElem_cons c]
    exact (decide_eq_true (List.nil_lt_cons _ _)).trans (decide_eq_true c).symm
  · rw [show j = w.length by omega, List.drop_length]
    simp
theorem tlt_end2 {w : List Nat} {i : Nat} : tlt w i w.length = false := by
  unfold tlt
  rw [List.drop_length]
  simp
theorem at2 (a b : Int) (i : Nat) : ∃ x, atI [D.int a, D.int b] ((i : Int) % 2) = some (.int x) ∧ (x = a ∨ x = b) := by
  have h : (i : Int) % 2 = ((i % 2 : Nat) : Int) := by omega
  rw [h]
  have h2 : i % 2 < 2 := Nat.mod_lt _ (by decide)
  generalize i % 2 = j at h2
  match j, h2 with
  | 0, _ => exact ⟨a, rfl, .inl rfl⟩
  | 1, _ => exact ⟨b, rfl, .inr rfl⟩
/-- the odd values have types and can be shown -/
def fineD (v : D) : Prop := okD v ∧ RB 40 3 v
theorem fine_int {i : Int} (h : i.natAbs < 10 ^ 30) : fineD (.int i) := ⟨⟨_, rfl⟩, (rb_int (k := 30) (by decide) h (by decide)).mono (by decide) (by decide)⟩
theorem fine_nat {i : Nat} (h : i < 1000) : fineD (.int (i : Int)) := ⟨⟨_, rfl⟩, (rb_nat h).mono (by decide) (by decide)⟩
theorem fine_bl {b : Bool} : fineD (.bl b) := ⟨⟨_, rfl⟩, (rb_bl b).mono (by decide) (by decide)⟩
theorem fine_non : fineD .non := ⟨⟨_, rfl⟩, rb_non.mono (by decide) (by decide)⟩
theorem fine_str {x : List Nat} (h : ∀ c ∈ x, c < 1114112) (hl : x.length ≤ 3) : fineD (.str x) := ⟨⟨_, rfl⟩, (rb_str h).mono (by omega) (by decide)⟩
theorem fine_tup0 : fineD (.tup []) := ⟨⟨_, rfl⟩, (rb_tup (n := 5) (k := 0) (ds := []) fun d hd => nomatch hd).mono (by decide) (by decide)⟩
theorem fine_lst0 : fineD (.lst []) := ⟨⟨_, rfl⟩, (rb_lst (n := 5) (k := 0) (ds := []) fun d hd => nomatch hd).mono (by decide) (by decide)⟩
theorem fine_tup1 {v : D} {n : Nat} (h : RB n 0 v) (hn : n ≤ 20) : fineD (.tup [v]) := ⟨⟨_, rfl⟩, (rb_tup (n := 20) (k := 0) (ds := [v]) fun d hd => by rw [List.mem_singleton.mp hd]; exact h.mono hn (Nat.le_refl _)).mono (by simp) (by decide)⟩
theorem fine_lst1 {v : D} {n : Nat} (h : RB n 0 v) (hn : n ≤ 20) : fineD (.lst [v]) := ⟨⟨_, rfl⟩, (rb_lst (n := 20) (k := 0) (ds := [v]) fun d hd => by rw [List.mem_singleton.mp hd]; exact h.mono hn (Nat.le_refl _)).mono (by simp) (by decide)⟩
theorem all_cons {α : Type} {P : α → Prop} {x : α} {xs : List α} (h : P x) (t : ∀ y ∈ xs, P y) : ∀ y ∈ x :: xs, P y := fun y hy => by
  rcases List.mem_cons.mp hy with rfl | hy
  · exact h
  · exact t y hy
theorem all_nil {α : Type} {P : α → Prop} : ∀ y ∈ ([] : List α), P y := fun y hy => nomatch hy
theorem all_app {α : Type} {P : α → Prop} {xs ys : List α} (h : ∀ y ∈ xs, P y) (t : ∀ y ∈ ys, P y) : ∀ y ∈ xs ++ ys, P y := fun y hy => by
  rcases List.mem_append.mp hy with hy | hy
  · exact h y hy
  · exact t y hy
theorem big29 : ((10 : Int) ^ 29).natAbs < 10 ^ 30 := by
  rw [Int.natAbs_pow]
  exact Nat.pow_lt_pow_right (by decide) (by decide)
theorem odd_fine : ∀ v ∈ oddL, fineD v :=
  all_cons fine_non (all_cons fine_bl (all_cons fine_bl (all_cons (fine_int (by decide)) (all_cons (fine_int (by decide)) (all_cons (fine_int (by decide)) (all_cons (fine_int (by decide)) (all_cons (fine_int (by decide)) (all_cons (fine_int (by decide)) (all_cons (fine_int big29)
  (all_cons (fine_str (by simp) (by decide)) (all_cons (fine_str (by simp) (by decide)) (all_cons (fine_str (by simp) (by decide)) (all_cons (fine_str (by simp) (by decide)) (all_cons (fine_str (by simp) (by decide))
  (all_cons fine_tup0 (all_cons fine_lst0 (all_cons ⟨⟨_, rfl⟩, rb_dic0.mono (by decide) (by decide)⟩ (all_cons (fine_tup1 (rb_nat (i := 0) (by decide)) (by decide)) (all_cons (fine_lst1 (rb_nat (i := 0) (by decide)) (by decide)) (all_cons (fine_tup1 (rb_bl true) (by decide))
  (all_cons (fine_tup1 (rb_str (x := [97]) (by simp)) (by decide)) (all_cons ⟨⟨_, rfl⟩, rb_dic1.mono (by decide) (by decide)⟩ (all_cons (fine_str (by simp) (by decide)) (all_cons (fine_str (by simp) (by decide)) all_nil))))))))))))))))))))))))
theorem flat_nats {xs : List Nat} : ∀ x ∈ nats xs, flatD x = true := fun x hx => by
  obtain ⟨i, _, rfl⟩ := List.mem_map.mp hx
  rfl
theorem mem_nats {xs : List Nat} {k : Int} {j : Nat} (e : k = j) : (∃ x, x ∈ nats xs ∧ eqF x (.int k) = true) ↔ j ∈ xs := by
  subst e
  constructor
  · rintro ⟨x, hx, h⟩
    obtain ⟨i, hi, rfl⟩ := List.mem_map.mp hx
    have : i = j := by
      have h2 : ((i : Int) == (j : Int)) = true := h
      have := beq_iff_eq.mp h2
      omega
    rw [← this]
    exact hi
  · intro h
    exact ⟨_, List.mem_map.mpr ⟨j, h, rfl⟩, show ((j : Int) == (j : Int)) = true from beq_self_eq_true _⟩
theorem abc_mem {c : Nat} : c ∈ abcW ↔ 97 ≤ c ∧ c < 123 := by
  simp only [abcW, List.mem_cons, List.not_mem_nil, or_false]
  omega
theorem abc_in {c : Nat} : decide (c ∈ abcW) = isLt c := by
  rw [Bool.eq_iff_iff, decide_eq_true_iff, abc_mem]
  simp [isLt]
theorem abc_any {c : Nat} : ((abcW.map fun c => D.str [c]).any fun y => eqF y (.str [c])) = isLt c := by
  rw [← abc_in, Bool.eq_iff_iff, List.any_eq_true, decide_eq_true_iff]
  constructor
  · rintro ⟨y, hy, e⟩
    obtain ⟨a, ha, rfl⟩ := List.mem_map.mp hy
    have e2 : (([a] : List Nat) == [c]) = true := e
    have e3 : a = c := by simpa using e2
    rw [← e3]
    exact ha
  · intro h
    exact ⟨_, List.mem_map.mpr ⟨c, h, rfl⟩, show (([c] : List Nat) == [c]) = true from beq_self_eq_true _⟩
theorem signs_flat {xs : List Nat} : (xs.map fun c => D.str [c]).all flatD = true := by
  rw [List.all_eq_true]
  intro x hx
  obtain ⟨i, _, rfl⟩ := List.mem_map.mp hx
  rfl
theorem wErr_str {x : List Nat} : wErr (.str x) = if x = [] ∨ 24 < x.length then .tup [.non, .str sWord] else match x.findIdx? (fun c => !isLt c) with
    | some i => .tup [.int (i : Int), .str sLetter]
    | none => .non := rfl
theorem wErr_bad {x : List Nat} (h : x = [] ∨ 24 < x.length) : wErr (.str x) = .tup [.non, .str sWord] := by rw [wErr_str, if_pos h]
theorem wErr_at {x : List Nat} (h : ¬ (x = [] ∨ 24 < x.length)) {i : Nat} (hi : i < x.length) (hb : isLt x[i] = false) (ha : ∀ j (hj : j < i), isLt (x[j]'(Nat.lt_trans hj hi)) = true) : wErr (.str x) = .tup [.int (i : Int), .str sLetter] := by
  have e : x.findIdx? (fun c => !isLt c) = some i := List.findIdx?_eq_some_iff_getElem.mpr ⟨hi, by rw [hb]; rfl, fun j hj => by rw [ha j hj]; exact Bool.false_ne_true⟩
  rw [wErr_str, if_neg h, e]
theorem wErr_ok {x : List Nat} (h : ¬ (x = [] ∨ 24 < x.length)) (ha : ∀ c ∈ x, isLt c = true) : wErr (.str x) = .non := by
  have e : x.findIdx? (fun c => !isLt c) = none := List.findIdx?_eq_none_iff.mpr fun c hc => by rw [ha c hc]; rfl
  rw [wErr_str, if_neg h, e]
theorem wErr_fine {v : D} : RB 200 4 (wErr v) := by
  have h1 : RB 200 4 (.tup [.non, .str sWord]) := (rb_tup (n := 42) (k := 3) (ds := [.non, .str sWord]) (all_cons (rb_non.mono (by decide) (by decide)) (all_cons ((rb_str (x := sWord) (by simp)).mono (by decide) (by decide)) all_nil))).mono (by decide) (by decide)
  cases v with
  | str x =>
    by_cases c : x = [] ∨ 24 < x.length
    · rw [wErr_bad c]; exact h1
    · rw [wErr_str, if_neg c]
      cases e : x.findIdx? (fun c => !isLt c) with
      | none => exact rb_non.mono (by decide) (by decide)
      | some i =>
        have hi : i < x.length := (List.findIdx?_eq_some_iff_getElem.mp e).1
        exact (rb_tup (n := 62) (k := 0) (ds := [.int (i : Int), .str sLetter]) (all_cons ((rb_nat (by omega)).mono (by decide) (by decide)) (all_cons ((rb_str (x := sLetter) (by simp)).mono (by decide) (by decide)) all_nil))).mono (by simp) (by decide)
  | _ => exact h1
theorem oErr_tup {xs : List D} : oErr (.tup xs) = if xs = [] ∨ 24 < xs.length then .tup [.non, .str sOrder] else match (List.range xs.length).find? (badO xs) with
    | some i => .tup [.int (i : Int), .str sPlace]
    | none => .non := rfl
theorem oErr_bad {xs : List D} (h : xs = [] ∨ 24 < xs.length) : oErr (.tup xs) = .tup [.non, .str sOrder] := by rw [oErr_tup, if_pos h]
theorem oErr_at {xs : List D} (h : ¬ (xs = [] ∨ 24 < xs.length)) {i : Nat} (hi : i < xs.length) (hb : badO xs i = true) (ha : ∀ j, j < i → badO xs j = false) : oErr (.tup xs) = .tup [.int (i : Int), .str sPlace] := by
  have e : (List.range xs.length).find? (badO xs) = some i := by
    rw [List.find?_range_eq_some]
    exact ⟨hb, List.mem_range.mpr hi, fun j hj => by rw [ha j hj]; rfl⟩
  rw [oErr_tup, if_neg h, e]
theorem oErr_ok {xs : List D} (h : ¬ (xs = [] ∨ 24 < xs.length)) (ha : ∀ j, j < xs.length → badO xs j = false) : oErr (.tup xs) = .non := by
  have e : (List.range xs.length).find? (badO xs) = none := List.find?_eq_none.mpr fun j hj => by rw [ha j (List.mem_range.mp hj)]; exact Bool.false_ne_true
  rw [oErr_tup, if_neg h, e]
theorem oErr_fine {v : D} : RB 200 4 (oErr v) := by
  have h1 : RB 200 4 (.tup [.non, .str sOrder]) := (rb_tup (n := 52) (k := 3) (ds := [.non, .str sOrder]) (all_cons (rb_non.mono (by decide) (by decide)) (all_cons ((rb_str (x := sOrder) (by simp)).mono (by decide) (by decide)) all_nil))).mono (by decide) (by decide)
  cases v with
  | tup x =>
    by_cases c : x = [] ∨ 24 < x.length
    · rw [oErr_bad c]; exact h1
    · rw [oErr_tup, if_neg c]
      cases e : (List.range x.length).find? (badO x) with
      | none => exact rb_non.mono (by decide) (by decide)
      | some i =>
        have hi : i < x.length := List.mem_range.mp (List.mem_of_find?_eq_some e)
        exact (rb_tup (n := 62) (k := 0) (ds := [.int (i : Int), .str sPlace]) (all_cons ((rb_nat (by omega)).mono (by decide) (by decide)) (all_cons ((rb_str (x := sPlace) (by simp)).mono (by decide) (by decide)) all_nil))).mono (by simp) (by decide)
  | _ => exact h1
theorem badO_get {xs : List D} {i : Nat} (h : i < xs.length) : badO xs i = (!isPl xs.length xs[i] || decide (natD xs[i] ∈ (xs.take i).map natD)) := by
  unfold badO
  rw [List.getElem?_eq_getElem h]
theorem badO_good {xs : List D} {i : Nat} (h : i < xs.length) (hb : badO xs i = false) : ∃ p : Nat, xs[i] = .int p ∧ p < xs.length ∧ p ∉ (xs.take i).map natD := by
  rw [badO_get h, Bool.or_eq_false_iff] at hb
  obtain ⟨p, hp, hp2⟩ := isPl_inv (by simpa using hb.1)
  refine ⟨p, hp, hp2, ?_⟩
  have := hb.2
  rw [hp] at this
  simpa using this
end DL
set_option Elab.async false
set_option linter.all false
set_option maxRecDepth 100000
set_option maxHeartbeats 1000000
namespace DL
open PySem L2
theorem cdiv_small {i j : Int} (h : 0 < j) (h2 : j < 1073741824) : CDiv i j := ⟨h, h2⟩
theorem stpW_len (o : List Nat) : (stpW o).length ≤ o.length - 1 := by
  unfold stpW
  rw [List.length_map]
  refine Nat.le_trans (List.length_filter_le _ _) ?_
  rw [List.length_range]
  exact Nat.le_refl _
theorem getD_get {α : Type} {o : List α} {i : Nat} {p z : α} (h : o[i]? = some p) : o.getD i z = p := by
  rw [List.getD_eq_getElem?_getD, h]; rfl
theorem nats_at {o : List Nat} {i : Nat} (h : i < o.length) : (nats o)[i]? = some (.int (o.getD i 0)) := by
  unfold nats
  rw [List.getElem?_map, List.getElem?_eq_getElem h, List.getD_eq_getElem?_getD, List.getElem?_eq_getElem h]
  rfl
/-- neighbours with their indexes -/
theorem enz_next (o : List Nat) : enL 0 (zipL (nats o) (cutL (nats o) (some 1) none)) = (List.range (o.length - 1)).map fun i => D.tup [.int (i : Nat), .tup [.int (o.getD i 0), .int (o.getD (i + 1) 0)]] := by
  have e : cutL (nats o) (some 1) none = (nats o).drop 1 := cut_from (nats o) 1
  rw [e]
  refine List.ext_getElem? fun i => ?_
  rw [enL_get, Nat.zero_add]
  unfold zipL
  rw [List.getElem?_map, List.getElem?_map]
  by_cases h : i < o.length - 1
  · have h1 := nats_at (o := o) (i := i) (by omega)
    have h2 := nats_at (o := o) (i := i + 1) (by omega)
    have h3 : ((nats o).zip ((nats o).drop 1))[i]? = some (D.int (o.getD i 0), D.int (o.getD (i + 1) 0)) := List.getElem?_zip_eq_some.mpr ⟨h1, by rw [List.getElem?_drop, Nat.add_comm]; exact h2⟩
    rw [List.getElem?_range h, h3]
    rfl
  · have h3 : ((nats o).zip ((nats o).drop 1))[i]? = none := List.getElem?_eq_none (by rw [List.length_zip, List.length_drop, nats_len]; omega)
    have h4 : (List.range (o.length - 1))[i]? = none := List.getElem?_eq_none (by rw [List.length_range]; omega)
    rw [h3, h4]
    rfl
theorem rkE_at {o : List Nat} {p : Nat} (h : p ≤ o.length) : atI (nats (inv o) ++ [.int (-1)]) ((p : Nat) : Int) = some (.int (rkE o p)) := by
  refine atI_ofNat ?_
  unfold rkE
  rw [List.getD_eq_getElem?_getD]
  have e : nats (inv o) ++ [D.int (-1)] = (((inv o).map fun (i : Nat) => (i : Int)) ++ [-1]).map D.int := by
    unfold nats
    rw [List.map_append, List.map_map]
    rfl
  rw [e, List.getElem?_map, List.getElem?_eq_getElem (by rw [List.length_append, List.length_map, inv_len]; simp; omega)]
  rfl
theorem tls_of {w : List Nat} {ys : List (List Nat × Int)} (hp : ys.Perm ((List.range w.length).map fun i : Nat => (w.drop i, (i : Int)))) (hs : ys.Pairwise leTI) : ys.map pairTI = tlsW w := by
  have h1 := sorted_TO hp hs
  obtain ⟨o, ho, rfl⟩ := perm_map_inv (f := fun i : Nat => (w.drop i, (i : Int))) hp _ rfl
  have h2 : nats o = nats (tOrd w) := by
    rw [← h1, List.map_map]
    rfl
  have h3 := nats_inj.mp h2
  subst h3
  unfold tlsW
  rw [List.map_map]
  rfl
theorem eulS_len (c : List Int) (n : Int) : (eulS c n).length = c.length := by unfold eulS; rw [List.length_map, List.length_range]
theorem eulR_len (c : List Int) : ∀ k, (eulR c k).length = c.length
  | 0 => rfl
  | k + 1 => by rw [eulR, eulS_len, eulR_len c k]
theorem cut_but {α : Type} (xs : List α) : cutL xs none (some (-1)) = xs.dropLast := by
  unfold cutL HT.sIx
  rw [List.dropLast_eq_take]
  simp
  omega
theorem ints_at {c : List Int} {i : Nat} (h : i < c.length) : (c.map D.int)[i]? = some (.int (c.getD i 0)) := by
  rw [List.getElem?_map, List.getElem?_eq_getElem h, List.getD_eq_getElem?_getD, List.getElem?_eq_getElem h]
  rfl
/-- a row beside itself, one later -/
theorem enz_low {c : List Int} (hc : c ≠ []) : enL 0 (zipL (c.map D.int) (D.int 0 :: (c.map D.int).dropLast)) = (List.range c.length).map fun i => D.tup [.int (i : Nat), .tup [.int (c.getD i 0), .int ((0 :: c).getD i 0)]] := by
  have hl : 0 < c.length := List.length_pos_iff.mpr hc
  refine List.ext_getElem? fun i => ?_
  rw [enL_get, Nat.zero_add]
  unfold zipL
  rw [List.getElem?_map, List.getElem?_map]
  by_cases h : i < c.length
  · have h1 := ints_at h
    have h2 : (D.int 0 :: (c.map D.int).dropLast)[i]? = some (.int ((0 :: c).getD i 0)) := by
      cases i with
      | zero => rfl
      | succ i =>
        rw [List.getElem?_cons_succ, List.getElem?_dropLast, if_pos (by rw [List.length_map]; omega), ints_at (by omega)]
        rfl
    have h3 : ((c.map D.int).zip (D.int 0 :: (c.map D.int).dropLast))[i]? = some (D.int (c.getD i 0), D.int ((0 :: c).getD i 0)) := List.getElem?_zip_eq_some.mpr ⟨h1, h2⟩
    rw [List.getElem?_range h, h3]
    rfl
  · have h3 : ((c.map D.int).zip (D.int 0 :: (c.map D.int).dropLast))[i]? = none := List.getElem?_eq_none (by rw [List.length_zip, List.length_map]; omega)
    have h4 : (List.range c.length)[i]? = none := List.getElem?_eq_none (by rw [List.length_range]; omega)
    rw [h3, h4]
    rfl
/-- an order, grown by a first place of a rank -/
def grwW (o : List Nat) (s : Nat) : List Nat := (o.take s).map (· + 1) ++ 0 :: (o.drop s).map (· + 1)
theorem grw_len (o : List Nat) (s : Nat) : (grwW o s).length = o.length + 1 := by
  unfold grwW
  rw [List.length_append, List.length_cons, List.length_map, List.length_map, List.length_take, List.length_drop]
  omega
theorem grw_perm {o : List Nat} (h : isPerm o) (s : Nat) : isPerm (grwW o s) := by
  unfold isPerm
  rw [grw_len, List.range_succ_eq_map]
  unfold grwW
  refine List.perm_middle.trans (List.Perm.cons _ ?_)
  rw [← List.map_append, List.take_append_drop]
  exact List.Perm.map _ h
theorem grw_nats (o : List Nat) (s : Nat) : ((o.take s).map fun i : Nat => D.int ((i : Int) + 1)) ++ D.int 0 :: ((o.drop s).map fun i : Nat => D.int ((i : Int) + 1)) = nats (grwW o s) := by
  unfold grwW nats
  rw [List.map_append, List.map_cons, List.map_map, List.map_map]
  rfl
end DL
set_option Elab.async false
set_option linter.all false
set_option maxRecDepth 100000
set_option maxHeartbeats 1000000
namespace DL
open PySem L2
theorem adj_all {α : Type} {R : α → α → Prop} (tr : ∀ {a b c}, R a b → R b c → R a c) {n : Nat} {f : Nat → α} (h : ∀ k, 1 ≤ k → k < n → R (f (k - 1)) (f k)) : ∀ j i, i < j → j < n → R (f i) (f j) := by
  intro j
  induction j with
  | zero => intro i h; omega
  | succ j ih =>
    intro i hi hj
    have h1 : R (f j) (f (j + 1)) := h (j + 1) (by omega) hj
    by_cases c : i = j
    · rw [c]; exact h1
    · exact tr (ih i (by omega) (by omega)) h1
theorem pw_getD {α : Type} {R : α → α → Prop} {o : List α} {z : α} (h : ∀ j i, i < j → j < o.length → R (o.getD i z) (o.getD j z)) : o.Pairwise R := by
  rw [List.pairwise_iff_getElem]
  intro i j hi hj hij
  have := h j i hij hj
  rwa [List.getD_eq_getElem?_getD, List.getD_eq_getElem?_getD, List.getElem?_eq_getElem hi, List.getElem?_eq_getElem hj] at this
theorem getD_pw {α : Type} {R : α → α → Prop} {o : List α} {z : α} (h : o.Pairwise R) {i j : Nat} (hij : i < j) (hj : j < o.length) : R (o.getD i z) (o.getD j z) := by
  rw [List.pairwise_iff_getElem] at h
  rw [List.getD_eq_getElem?_getD, List.getD_eq_getElem?_getD, List.getElem?_eq_getElem (Nat.lt_trans hij hj), List.getElem?_eq_getElem hj]
  exact h i j _ hj hij
theorem isTO_of_adj {w o : List Nat} (ho : isPerm o) (hl : o.length = w.length) (h : ∀ k, 1 ≤ k → k < o.length → w.drop (o.getD (k - 1) 0) < w.drop (o.getD k 0)) : o = tOrd w :=
  IsTO.eq ⟨hl ▸ ho, pw_getD (z := 0) fun j i hij hj => adj_all (R := fun a b => w.drop a < w.drop b) (f := fun k => o.getD k 0) (fun h1 h2 => List.lt_trans h1 h2) h j i hij hj⟩
theorem adj_of_isTO {w o : List Nat} (e : o = tOrd w) {i j : Nat} (hij : i < j) (hj : j < o.length) : w.drop (o.getD i 0) < w.drop (o.getD j 0) := by
  subst e
  exact getD_pw (R := fun a b => w.drop a < w.drop b) (tOrd_is w).2 hij hj
theorem perm_lt {o : List Nat} (ho : isPerm o) {k : Nat} (hk : k < o.length) : o.getD k 0 < o.length := by
  rw [List.getD_eq_getElem?_getD, List.getElem?_eq_getElem hk]
  exact ho.lt (List.getElem_mem hk)
theorem perm_inj {o : List Nat} (ho : isPerm o) {i j : Nat} (hi : i < o.length) (hj : j < o.length) (e : o.getD i 0 = o.getD j 0) : i = j := by
  rw [List.getD_eq_getElem?_getD, List.getElem?_eq_getElem hi, List.getD_eq_getElem?_getD, List.getElem?_eq_getElem hj] at e
  have e' : o[i] = o[j] := e
  have h1 := idx_of_get ho.nodup (List.getElem?_eq_getElem hi)
  have h2 := idx_of_get ho.nodup (List.getElem?_eq_getElem hj)
  rw [e'] at h1
  exact h1.symm.trans h2
theorem rkE_in {o : List Nat} {p : Nat} (h : p < o.length) : rkE o p = o.idxOf p := by
  unfold rkE
  rw [List.getD_eq_getElem?_getD, List.getElem?_append_left (by rw [List.length_map, inv_len]; exact h), List.getElem?_map, inv_get h]
  rfl
theorem rkE_end {o : List Nat} : rkE o o.length = -1 := by
  unfold rkE
  rw [List.getD_eq_getElem?_getD, List.getElem?_append_right (by rw [List.length_map, inv_len]; exact Nat.le_refl _), List.length_map, inv_len, Nat.sub_self]
  rfl
theorem idx_lt {o : List Nat} (ho : isPerm o) {p : Nat} (h : p < o.length) : o.idxOf p < o.length := by
  have := get_idx (o := o) (ho.mem h)
  exact (List.getElem?_eq_some_iff.mp this).1
theorem idx_getD {o : List Nat} (ho : isPerm o) {p : Nat} (h : p < o.length) : o.getD (o.idxOf p) 0 = p := by
  rw [List.getD_eq_getElem?_getD, get_idx (ho.mem h)]
  rfl
theorem rkE_inj {o : List Nat} (ho : isPerm o) {p p' : Nat} (h : p ≤ o.length) (h' : p' ≤ o.length) (e : rkE o p = rkE o p') : p = p' := by
  by_cases c : p < o.length
  · by_cases c' : p' < o.length
    · rw [rkE_in c, rkE_in c'] at e
      have e2 : o.idxOf p = o.idxOf p' := by omega
      have := idx_getD ho c
      rw [e2, idx_getD ho c'] at this
      exact this.symm
    · have : p' = o.length := by omega
      subst this
      rw [rkE_in c, rkE_end] at e
      omega
  · have : p = o.length := by omega
    subst this
    by_cases c' : p' < o.length
    · rw [rkE_in c', rkE_end] at e
      omega
    · omega
/-- the letter at an index of an order -/
def ltrW (w o : List Nat) (k : Nat) : Nat := w.getD (o.getD k 0) 0
theorem mem_stp {o : List Nat} {k : Nat} (h1 : 1 ≤ k) (h2 : k < o.length) : k ∈ stpW o ↔ rkE o (o.getD k 0 + 1) < rkE o (o.getD (k - 1) 0 + 1) := by
  unfold stpW
  rw [List.mem_map]
  constructor
  · rintro ⟨i, hi, rfl⟩
    have := (List.mem_filter.mp hi).2
    simpa using this
  · intro h
    refine ⟨k - 1, List.mem_filter.mpr ⟨List.mem_range.mpr (by omega), ?_⟩, by omega⟩
    rw [show k - 1 + 1 = k by omega]
    simpa using h
/-- no letter falls, and each strict step rises -/
def fitB (w o : List Nat) (k : Nat) : Bool := decide (ltrW w o k < ltrW w o (k - 1)) || (decide (ltrW w o k = ltrW w o (k - 1)) && decide (k ∈ stpW o))
theorem drop_ltr {w o : List Nat} (ho : isPerm o) (hl : o.length = w.length) {k : Nat} (hk : k < o.length) : w.drop (o.getD k 0) = ltrW w o k :: w.drop (o.getD k 0 + 1) := by
  have h := perm_lt ho hk
  rw [hl] at h
  unfold ltrW
  rw [List.drop_eq_getElem_cons h, List.getD_eq_getElem?_getD (l := w), List.getElem?_eq_getElem h]
  rfl
theorem fits_lt {w o : List Nat} (ho : isPerm o) (hl : o.length = w.length) (h : ∀ k, 1 ≤ k → k < o.length → fitB w o k = false) : ∀ m i j, i < j → j < o.length → o.length - o.getD i 0 ≤ m → w.drop (o.getD i 0) < w.drop (o.getD j 0) := by
  have up : ∀ j i, i < j → j < o.length → ltrW w o i ≤ ltrW w o j := adj_all (R := fun a b : Nat => a ≤ b) (fun a b => Nat.le_trans a b) fun k h1 h2 => by
    have := h k h1 h2
    unfold fitB at this
    simp at this
    omega
  have up' : ∀ j i, i ≤ j → j < o.length → ltrW w o i ≤ ltrW w o j := fun j i hij hj => by
    by_cases c : i = j
    · rw [c]; exact Nat.le_refl _
    · exact up j i (by omega) hj
  intro m
  induction m with
  | zero =>
    intro i j hij hj hm
    have := perm_lt ho (Nat.lt_trans hij hj)
    omega
  | succ m ih =>
    intro i j hij hj hm
    have hi := Nat.lt_trans hij hj
    rw [drop_ltr ho hl hi, drop_ltr ho hl hj, List.cons_lt_cons_iff]
    have u := up j i hij hj
    by_cases c : ltrW w o i = ltrW w o j
    · refine .inr ⟨c, ?_⟩
      -- the ranks behind never fall in between
      have r : rkE o (o.getD i 0 + 1) ≤ rkE o (o.getD j 0 + 1) := by
        have key : ∀ d, i + d ≤ j → rkE o (o.getD i 0 + 1) ≤ rkE o (o.getD (i + d) 0 + 1) := by
          intro d
          induction d with
          | zero => intro _; exact Int.le_refl _
          | succ d ihd =>
            intro hd
            have h0 := ihd (by omega)
            have h1 := h (i + (d + 1)) (by omega) (by omega)
            have e : ltrW w o (i + (d + 1)) = ltrW w o (i + (d + 1) - 1) := by
              have a1 := up' (i + (d + 1)) (i + (d + 1) - 1) (by omega) (by omega)
              have a2 := up' (i + (d + 1) - 1) i (by omega) (by omega)
              have a3 := up' j (i + (d + 1)) hd hj
              omega
            unfold fitB at h1
            rw [e] at h1
            simp at h1
            have h2 : ¬ _ := fun z => h1 ((mem_stp (o := o) (k := i + (d + 1)) (by omega) (by omega)).mpr z)
            rw [show i + (d + 1) - 1 = i + d by omega] at h2
            omega
        have := key (j - i) (by omega)
        rwa [show i + (j - i) = j by omega] at this
      have li := perm_lt ho hi
      have lj := perm_lt ho hj
      have ne : rkE o (o.getD i 0 + 1) ≠ rkE o (o.getD j 0 + 1) := fun e => by
        have := rkE_inj ho (by omega) (by omega) e
        have := perm_inj ho hi hj (by omega)
        omega
      have lt : rkE o (o.getD i 0 + 1) < rkE o (o.getD j 0 + 1) := by omega
      by_cases ci : o.getD i 0 + 1 = o.length
      · rw [ci, hl, List.drop_length]
        have : o.getD j 0 + 1 < w.length := by
          have : o.getD i 0 ≠ o.getD j 0 := fun e => by have := perm_inj ho hi hj e; omega
          omega
        rw [List.drop_eq_getElem_cons this]
        exact List.nil_lt_cons _ _
      · have ci' : o.getD i 0 + 1 < o.length := by omega
        rw [rkE_in ci'] at lt
        have cj : o.getD j 0 + 1 ≠ o.length := fun e => by
          rw [e, rkE_end] at lt
          omega
        have cj' : o.getD j 0 + 1 < o.length := by omega
        rw [rkE_in cj'] at lt
        have := ih (o.idxOf (o.getD i 0 + 1)) (o.idxOf (o.getD j 0 + 1)) (by omega) (idx_lt ho cj') (by rw [idx_getD ho ci']; omega)
        rwa [idx_getD ho ci', idx_getD ho cj'] at this
    · exact .inl (by omega)
theorem fits_iff {w o : List Nat} (ho : isPerm o) (hl : o.length = w.length) : (∀ k, 1 ≤ k → k < o.length → fitB w o k = false) ↔ o = tOrd w := by
  constructor
  · exact fun h => isTO_of_adj ho hl fun k h1 h2 => fits_lt ho hl h _ (k - 1) k (by omega) h2 (Nat.le_refl _)
  · intro e k h1 h2
    have a := adj_of_isTO e (i := k - 1) (j := k) (by omega) h2
    rw [drop_ltr ho hl (show k - 1 < o.length by omega), drop_ltr ho hl h2, List.cons_lt_cons_iff] at a
    unfold fitB
    rcases a with a | ⟨a, b⟩
    · simp
      omega
    · rw [a]
      simp
      rw [mem_stp h1 h2]
      have li := perm_lt ho (show k - 1 < o.length by omega)
      have lj := perm_lt ho h2
      have cj : o.getD k 0 + 1 ≠ o.length := fun z => by
        rw [z, hl, List.drop_length] at b
        exact List.not_lt_nil _ b
      rw [rkE_in (p := o.getD k 0 + 1) (by omega)]
      by_cases ci : o.getD (k - 1) 0 + 1 = o.length
      · rw [ci, rkE_end]
        omega
      · rw [rkE_in (p := o.getD (k - 1) 0 + 1) (by omega)]
        intro lt
        have lt' : o.idxOf (o.getD k 0 + 1) < o.idxOf (o.getD (k - 1) 0 + 1) := by omega
        have := adj_of_isTO e lt' (idx_lt ho (by omega))
        rw [idx_getD ho (by omega), idx_getD ho (by omega)] at this
        exact lt_asymmL b this
theorem has_iff {w o : List Nat} (ho : isPerm o) (hl : o.length = w.length) : (∀ k, 1 ≤ k → k < o.length → w.drop (o.getD (k - 1) 0) < w.drop (o.getD k 0)) ↔ o = tOrd w :=
  ⟨isTO_of_adj ho hl, fun e k h1 h2 => adj_of_isTO e (by omega) h2⟩
theorem deq_tups {a b : List Nat} : deq (.tup (nats a)) (.tup (nats b)) = decide (a = b) := deq_dec (d := .tup (nats a)) (e := .tup (nats b)) (nb_nats a) (nb_nats b) ⟨fun h => nats_inj.mp (D.tup.inj h), fun h => by rw [h]⟩
theorem shp_tups {a : List Nat} : shp (.tup (nats a)) = true := (sh_tup (sh_nats a)).ok (by decide)
theorem oEq_tups {a b : List Nat} {q : D → Prop} (h : q (.bl (decide (a = b)))) : oEq (.tup (nats a)) (.tup (nats b)) q := by
  rw [sm_eqt, deq_tups]
  exact ⟨shp_tups, shp_tups, h⟩
theorem nats_take {a : List Nat} {n : Nat} : (nats a).take n = nats (a.take n) := by unfold nats; rw [List.map_take]
theorem nats_drop {a : List Nat} {n : Nat} : (nats a).drop n = nats (a.drop n) := by unfold nats; rw [List.map_drop]
theorem nats_rev {a : List Nat} : (nats a).reverse = nats a.reverse := by unfold nats; rw [List.map_reverse]
theorem nats_app {a b : List Nat} : nats a ++ nats b = nats (a ++ b) := by unfold nats; rw [List.map_append]
/-- neighbours exchanged -/
def nearW (o : List Nat) (s : Nat) : List Nat := o.take s ++ ((o.drop s).take 2).reverse ++ o.drop (s + 2)
theorem near_perm {o : List Nat} (s : Nat) : (nearW o s).Perm o := by
  unfold nearW
  have e : o = o.take s ++ (o.drop s).take 2 ++ o.drop (s + 2) := by
    rw [List.append_assoc, ← List.drop_drop, List.take_append_drop, List.take_append_drop]
  conv => rhs; rw [e]
  exact ((List.reverse_perm _).append_left _).append_right _
theorem isPerm_of {o x : List Nat} (h : x.Perm o) (ho : isPerm o) : isPerm x := by
  unfold isPerm at *
  rw [h.length_eq]
  exact h.trans ho
end DL
set_option Elab.async false
set_option linter.all false
set_option maxRecDepth 100000
set_option maxHeartbeats 1000000
namespace DL
open PySem L2
theorem agr_self : ∀ a : List Nat, agrL a a = a.length
  | [] => rfl
  | x :: a => by
    show (if x = x then agrL a a + 1 else 0) = _
    rw [if_pos rfl, agr_self a]
    rfl
theorem agr_comm : ∀ a b : List Nat, agrL a b = agrL b a
  | [], [] => rfl
  | [], _ :: _ => rfl
  | _ :: _, [] => rfl
  | x :: a, y :: b => by
    show (if x = y then agrL a b + 1 else 0) = (if y = x then agrL b a + 1 else 0)
    by_cases c : x = y
    · rw [if_pos c, if_pos c.symm, agr_comm a b]
    · rw [if_neg c, if_neg (fun z => c z.symm)]
theorem agr_nil (a : List Nat) : agrL a [] = 0 := by cases a <;> rfl
theorem agr_le : ∀ a b : List Nat, agrL a b ≤ a.length
  | [], _ => Nat.zero_le _
  | _ :: _, [] => Nat.zero_le _
  | x :: a, y :: b => by
    show (if x = y then agrL a b + 1 else 0) ≤ a.length + 1
    have := agr_le a b
    split <;> omega
theorem agr_min : ∀ {a b c : List Nat}, a < b → b < c → agrL a c = min (agrL a b) (agrL b c)
  | [], b, c, _, _ => by simp [agrL]
  | x :: a, [], c, h, _ => absurd h (List.not_lt_nil _)
  | x :: a, y :: b, [], _, h => absurd h (List.not_lt_nil _)
  | x :: a, y :: b, z :: c, h1, h2 => by
    rw [List.cons_lt_cons_iff] at h1 h2
    show (if x = z then agrL a c + 1 else 0) = min (if x = y then agrL a b + 1 else 0) (if y = z then agrL b c + 1 else 0)
    rcases h1 with h1 | ⟨rfl, h1⟩
    · rcases h2 with h2 | ⟨rfl, h2⟩
      · rw [if_neg (by omega), if_neg (show ¬ x = y by omega)]; simp
      · rw [if_neg (by omega), if_neg (show ¬ x = y by omega)]; simp
    · rcases h2 with h2 | ⟨rfl, h2⟩
      · rw [if_neg (by omega), if_neg (show ¬ x = z by omega)]; simp
      · rw [if_pos rfl, if_pos rfl, if_pos rfl, agr_min h1 h2]
        omega
theorem agr_at : ∀ (i : Nat) (a b : List Nat), i ≤ a.length → i ≤ b.length → (∀ j, j < i → a[j]? = b[j]?) → (a[i]? = none ∨ b[i]? = none ∨ a[i]? ≠ b[i]?) → agrL a b = i
  | 0, [], _, _, _, _, _ => rfl
  | 0, _ :: _, [], _, _, _, _ => rfl
  | 0, x :: a, y :: b, _, _, _, h => by
    show (if x = y then agrL a b + 1 else 0) = 0
    rw [if_neg]
    rcases h with h | h | h
    · simp at h
    · simp at h
    · simpa using h
  | i + 1, [], _, h, _, _, _ => by simp at h
  | i + 1, _ :: _, [], _, h, _, _ => by simp at h
  | i + 1, x :: a, y :: b, h1, h2, h3, h4 => by
    have e : x = y := by simpa using h3 0 (Nat.succ_pos i)
    show (if x = y then agrL a b + 1 else 0) = i + 1
    rw [if_pos e, agr_at i a b (by simpa using h1) (by simpa using h2) (fun j hj => by simpa using h3 (j + 1) (by omega)) (by simpa using h4)]
theorem zip_len : ∀ (as bs : List D), (zipL as bs).length = min as.length bs.length
  | [], _ => by simp [zipL]
  | _ :: _, [] => by simp [zipL]
  | x :: as, y :: bs => by simp [zipL]
theorem hds_len (w : List Nat) : (hdsW w).length = w.length - 1 := by unfold hdsW; simp
theorem hds_at {w : List Nat} {k : Nat} (h : k < w.length - 1) : (hdsW w)[k]? = some (lcpW w ((tOrd w).getD k 0) ((tOrd w).getD (k + 1) 0)) := by
  unfold hdsW
  rw [List.getElem?_map, List.getElem?_range h]
  rfl
theorem to_lt {w : List Nat} {i j : Nat} (hij : i < j) (hj : j < w.length) : w.drop ((tOrd w).getD i 0) < w.drop ((tOrd w).getD j 0) := adj_of_isTO rfl hij (by rw [tOrd_len]; exact hj)
/-- the least of the heads in between -/
theorem hd_min {w : List Nat} {low : Nat} : ∀ d, low + d + 1 < w.length → ∃ a as, ((hdsW w).drop low).take (d + 1) = a :: as ∧ as.foldl min a = lcpW w ((tOrd w).getD low 0) ((tOrd w).getD (low + d + 1) 0)
  | 0, h => by
    have hl : low < (hdsW w).length := by rw [hds_len]; omega
    have e := hds_at (w := w) (k := low) (by omega)
    rw [List.getElem?_eq_getElem hl] at e
    refine ⟨(hdsW w)[low], [], ?_, ?_⟩
    · rw [List.drop_eq_getElem_cons hl]
      rfl
    · show (hdsW w)[low] = _
      exact Option.some.inj e
  | d + 1, h => by
    obtain ⟨a, as, e1, e2⟩ := hd_min (w := w) (low := low) d (by omega)
    have hl : low + (d + 1) < (hdsW w).length := by rw [hds_len]; omega
    have e := hds_at (w := w) (k := low + (d + 1)) (by omega)
    rw [List.getElem?_eq_getElem hl] at e
    have e' := Option.some.inj e
    refine ⟨a, as ++ [(hdsW w)[low + (d + 1)]], ?_, ?_⟩
    · rw [List.take_succ, e1, List.getElem?_drop, List.getElem?_eq_getElem hl]
      rfl
    · rw [List.foldl_append, e2, e']
      have := agr_min (to_lt (w := w) (i := low) (j := low + d + 1) (by omega) (by omega)) (to_lt (w := w) (i := low + d + 1) (j := low + d + 1 + 1) (by omega) (by omega))
      show min _ _ = _
      rw [show low + (d + 1) = low + d + 1 by omega]
      exact this.symm
theorem fold_cast : ∀ (as : List Nat) (a : Nat), (as.map fun i : Nat => (i : Int)).foldl min (a : Int) = ((as.foldl min a : Nat) : Int)
  | [], _ => rfl
  | x :: as, a => by
    show (as.map fun i : Nat => (i : Int)).foldl min (min (a : Int) (x : Int)) = _
    rw [show min (a : Int) (x : Int) = ((min a x : Nat) : Int) by omega, fold_cast as]
    rfl
/-- heads of neighbours, one letter on -/
theorem head_step {w : List Nat} {i j : Nat} (hi : i < w.length) (hj : j < w.length) (h : 0 < lcpW w i j) : lcpW w i j = lcpW w (i + 1) (j + 1) + 1 := by
  unfold lcpW at h ⊢
  rw [List.drop_eq_getElem_cons hi, List.drop_eq_getElem_cons hj] at h ⊢
  by_cases c : w[i] = w[j]
  · show (if w[i] = w[j] then _ else 0) = _
    rw [if_pos c]
  · have : (if w[i] = w[j] then agrL (w.drop (i + 1)) (w.drop (j + 1)) + 1 else 0) = 0 := if_neg c
    exact absurd h (by show ¬ 0 < (if w[i] = w[j] then agrL (w.drop (i + 1)) (w.drop (j + 1)) + 1 else 0); rw [this]; omega)
theorem head_lt {w : List Nat} {i j : Nat} (hi : i < w.length) (hj : j < w.length) (h : 0 < lcpW w i j) (lt : w.drop i < w.drop j) : w.drop (i + 1) < w.drop (j + 1) := by
  unfold lcpW at h
  rw [List.drop_eq_getElem_cons hi, List.drop_eq_getElem_cons hj] at h lt
  rw [List.cons_lt_cons_iff] at lt
  rcases lt with lt | ⟨_, lt⟩
  · have : (if w[i] = w[j] then agrL (w.drop (i + 1)) (w.drop (j + 1)) + 1 else 0) = 0 := if_neg (by omega)
    exact absurd h (by show ¬ 0 < (if w[i] = w[j] then agrL (w.drop (i + 1)) (w.drop (j + 1)) + 1 else 0); rw [this]; omega)
  · exact lt
/-- ranks rise with the tails -/
theorem rk_mono {w : List Nat} {p q : Nat} (hp : p < w.length) (hq : q < w.length) (h : w.drop p < w.drop q) : (tOrd w).idxOf p < (tOrd w).idxOf q := by
  have ho := tOrd_perm w
  have hl := tOrd_len w
  have h1 := idx_lt ho (p := p) (by omega)
  have h2 := idx_lt ho (p := q) (by omega)
  have e1 := idx_getD ho (p := p) (by omega)
  have e2 := idx_getD ho (p := q) (by omega)
  by_cases c : (tOrd w).idxOf p < (tOrd w).idxOf q
  · exact c
  · by_cases e : (tOrd w).idxOf p = (tOrd w).idxOf q
    · rw [e, e2] at e1
      rw [e1] at h
      exact absurd h (List.lt_irrefl _)
    · have := to_lt (w := w) (i := (tOrd w).idxOf q) (j := (tOrd w).idxOf p) (by omega) (by omega)
      rw [e1, e2] at this
      exact absurd h fun z => lt_asymmL z this
end DL
set_option Elab.async false
set_option linter.all false
set_option maxRecDepth 100000
set_option maxHeartbeats 1000000
namespace DL
open PySem L2
theorem grn_eq (o : List Nat) (s : Nat) : grnW o s = grwW o s := rfl
theorem allO_ok : ∀ n, ∀ o ∈ allO n, isPerm o ∧ o.length = n
  | 0, o, h => by
    rw [List.mem_singleton.mp h]
    exact ⟨.refl _, rfl⟩
  | n + 1, o, h => by
    obtain ⟨p, hp, ho⟩ := List.mem_flatMap.mp h
    obtain ⟨s, _, rfl⟩ := List.mem_map.mp ho
    obtain ⟨h1, h2⟩ := allO_ok n p hp
    exact ⟨grw_perm h1 s, by rw [grn_eq, grw_len, h2]⟩
theorem allO_small : ∀ n : Nat, n < 7 → (allO n).length ≤ 1000 := by decide +kernel
def lens (o : List Nat) : List Nat := (List.range (o.length + 1)).map fun s => (stpW (grnW o s)).length
def ok25 (n : Nat) : Bool := ((allO n).all fun o => (lens o).count (stpW o).length == (stpW o).length + 1 && (lens o).count ((stpW o).length + 1) == n - (stpW o).length && (lens o).all fun x => decide (x < 9)) && decide ((allO n).length ≤ 1000) &&
  (List.range 9).all fun s => (((((allO n).map lens).flatten.count s : Nat)) : Int) == eulW (n + 1) s
theorem ok25_all : ∀ n : Nat, n < 6 → 1 ≤ n → ok25 n = true := by decide +kernel
/-- how often each number stands in a row -/
def csD (xs : List Nat) : List D := (List.range 9).map fun s => D.int (xs.count s : Nat)
theorem cs_len (xs : List Nat) : (csD xs).length = 9 := by unfold csD; rw [List.length_map, List.length_range]
theorem cs_at {xs : List Nat} {x : Nat} (h : x < 9) : (csD xs)[x]? = some (.int (xs.count x : Nat)) := by
  unfold csD
  rw [List.getElem?_map, List.getElem?_range h]
  rfl
theorem cs_step {xs : List Nat} {x : Nat} (h : x < 9) : (csD xs).set x (.int ((xs.count x : Nat) + 1)) = csD (xs ++ [x]) := by
  apply List.ext_getElem?
  intro i
  by_cases c : i < 9
  · rw [cs_at c]
    by_cases e : i = x
    · subst e
      rw [List.getElem?_set_self (by rw [cs_len]; exact h)]
      simp
    · rw [List.getElem?_set_ne (fun z => e z.symm), cs_at c]
      simp [Ne.symm e]
  · rw [List.getElem?_eq_none (by rw [List.length_set, cs_len]; omega), List.getElem?_eq_none (by rw [cs_len]; omega)]
theorem count_ints (xs : List Nat) (k : Nat) {z : Int} (e : z = k) : (xs.map fun x : Nat => D.int (x : Int)).countP (fun y => eqF y (.int z)) = xs.count k := by
  subst e
  rw [List.countP_map, List.count]
  apply List.countP_congr
  intro x _
  show ((x : Int) == (k : Int)) = true ↔ (x == k) = true
  simp
  omega
theorem ok25_use {n : Nat} (h1 : 1 ≤ n) (h2 : n < 6) : (∀ o ∈ allO n, (lens o).count (stpW o).length = (stpW o).length + 1 ∧ (lens o).count ((stpW o).length + 1) = n - (stpW o).length ∧ ∀ x ∈ lens o, x < 9) ∧ ∀ s, s < 9 → ((((allO n).map lens).flatten.count s : Nat) : Int) = eulW (n + 1) s := by
  have h := ok25_all n h2 h1
  unfold ok25 at h
  rw [Bool.and_eq_true, Bool.and_eq_true] at h
  obtain ⟨⟨h, _⟩, h3⟩ := h
  constructor
  · intro o ho
    have := List.all_eq_true.mp h o ho
    simp at this
    exact ⟨this.1.1, this.1.2, this.2⟩
  · intro s hs
    have := List.all_eq_true.mp h3 s (List.mem_range.mpr hs)
    simpa using this
end DL
set_option Elab.async false
set_option linter.all false
set_option maxRecDepth 100000
set_option maxHeartbeats 1000000
namespace DL
open PySem L2
theorem shr_perm {o : List Nat} (h : isPerm o) (hn : o ≠ []) : isPerm (shrW o) ∧ (shrW o).length + 1 = o.length := by
  have pos : 0 < o.length := List.length_pos_iff.mpr hn
  obtain ⟨n, hn⟩ : ∃ n, o.length = n + 1 := ⟨o.length - 1, by omega⟩
  have h' : o.Perm (List.range (n + 1)) := by unfold isPerm at h; rwa [hn] at h
  have p1 : (o.filter fun p => decide (0 < p)).Perm ((List.range (n + 1)).filter fun p => decide (0 < p)) := h'.filter _
  have e : (List.range (n + 1)).filter (fun p => decide (0 < p)) = (List.range n).map (· + 1) := by
    rw [List.range_succ_eq_map, List.filter_cons, if_neg (by decide)]
    refine List.filter_eq_self.mpr fun x hx => ?_
    obtain ⟨i, _, rfl⟩ := List.mem_map.mp hx
    simp
  rw [e] at p1
  have p2 : (shrW o).Perm (((List.range n).map (· + 1)).map (· - 1)) := p1.map _
  have e2 : (((List.range n).map (· + 1)).map (· - 1)) = List.range n := by
    rw [List.map_map]
    apply List.ext_getElem?
    intro i
    rw [List.getElem?_map]
    cases (List.range n)[i]? <;> simp
  rw [e2] at p2
  have hl : (shrW o).length = n := by rw [p2.length_eq, List.length_range]
  exact ⟨by unfold isPerm; rw [hl]; exact p2, by omega⟩
theorem shr_TO {w : List Nat} (hn : w ≠ []) : shrW (tOrd w) = tOrd (w.drop 1) := by
  have pos : 0 < w.length := List.length_pos_iff.mpr hn
  have ho := tOrd_perm w
  have hl := tOrd_len w
  obtain ⟨p1, l1⟩ := shr_perm ho (fun e => by rw [e] at hl; simp at hl; omega)
  have hl2 : (w.drop 1).length = (shrW (tOrd w)).length := by rw [List.length_drop]; omega
  refine IsTO.eq ⟨by rw [hl2]; exact p1, ?_⟩
  unfold shrW
  rw [List.pairwise_map]
  have pw := (tOrd_is w).2
  refine List.Pairwise.imp_of_mem ?_ (pw.filter (fun p => decide (0 < p)))
  intro a b ha hb hab
  have ha2 : 0 < a := of_decide_eq_true (List.mem_filter.mp ha).2
  have hb2 : 0 < b := of_decide_eq_true (List.mem_filter.mp hb).2
  rw [List.drop_drop, List.drop_drop, show 1 + (a - 1) = a by omega, show 1 + (b - 1) = b by omega]
  exact hab
/-- the places whose tails are less stand in front -/
theorem front {α : Type} {R : α → α → Prop} {P : α → Bool} (dn : ∀ a b, R a b → P b = true → P a = true) : ∀ {l : List α}, l.Pairwise R → (∀ a ∈ l.take (l.countP P), P a = true) ∧ ∀ a ∈ l.drop (l.countP P), P a = false
  | [], _ => ⟨by simp, by simp⟩
  | x :: l, h => by
    obtain ⟨h1, h2⟩ := List.pairwise_cons.mp h
    obtain ⟨i1, i2⟩ := front dn h2
    by_cases c : P x = true
    · rw [List.countP_cons_of_pos c]
      refine ⟨fun a ha => ?_, i2⟩
      rw [List.take_succ_cons] at ha
      rcases List.mem_cons.mp ha with rfl | ha
      · exact c
      · exact i1 a ha
    · have all_ : ∀ a ∈ l, P a = false := fun a ha => by
        cases e : P a with
        | false => rfl
        | true => exact absurd (dn x a (h1 a ha) e) c
      have z : (x :: l).countP P = 0 := by
        rw [List.countP_eq_zero]
        intro a ha
        rcases List.mem_cons.mp ha with rfl | ha
        · exact c
        · rw [all_ a ha]; exact Bool.false_ne_true
      rw [z]
      refine ⟨by simp, fun a ha => ?_⟩
      rcases List.mem_cons.mp ha with rfl | ha
      · simpa using c
      · exact all_ a ha
/-- the number of later tails that are less -/
def lessW (w : List Nat) : Nat := (List.range' 1 (w.length - 1)).countP fun p => tlt w p 0
theorem grn_TO {w : List Nat} (hn : w ≠ []) : grnW (tOrd (w.drop 1)) (lessW w) = tOrd w := by
  have pos : 0 < w.length := List.length_pos_iff.mpr hn
  have hl : (tOrd (w.drop 1)).length = w.length - 1 := by rw [tOrd_len, List.length_drop]
  have cnt : lessW w = (tOrd (w.drop 1)).countP fun p => tlt w (p + 1) 0 := by
    have p := (tOrd_is (w.drop 1)).1
    rw [List.length_drop] at p
    rw [p.countP_eq]
    unfold lessW
    have e : List.range' 1 (w.length - 1) = (List.range (w.length - 1)).map (· + 1) := by
      apply List.ext_getElem?
      intro i
      rw [List.getElem?_map]
      by_cases c : i < w.length - 1
      · rw [List.getElem?_range' c, List.getElem?_range c]
        simp [Nat.add_comm]
      · rw [List.getElem?_eq_none (by rw [List.length_range']; omega), List.getElem?_eq_none (by rw [List.length_range]; omega)]
        rfl
    rw [e, List.countP_map]
    rfl
  have pw := (tOrd_is (w.drop 1)).2
  obtain ⟨f1, f2⟩ := front (P := fun p => tlt w (p + 1) 0) (fun a b hab hb => by
    have hb' : w.drop (b + 1) < w.drop 0 := of_decide_eq_true hb
    rw [List.drop_drop, List.drop_drop, Nat.add_comm 1 a, Nat.add_comm 1 b] at hab
    exact decide_eq_true (List.lt_trans hab hb')) pw
  rw [← cnt] at f1 f2
  have pg := grw_perm (tOrd_perm (w.drop 1)) (lessW w)
  have lg := grw_len (tOrd (w.drop 1)) (lessW w)
  rw [grn_eq]
  refine IsTO.eq ⟨?_, ?_⟩
  · unfold isPerm at pg
    rw [lg, hl, show w.length - 1 + 1 = w.length by omega] at pg
    exact pg
  · unfold grwW
    have up : ∀ {l : List Nat}, (∀ x, x ∈ l → True) → l.Pairwise (fun i j => (w.drop 1).drop i < (w.drop 1).drop j) → (l.map (· + 1)).Pairwise (fun i j => w.drop i < w.drop j) := fun _ h => by
      rw [List.pairwise_map]
      refine h.imp fun {a b} hab => ?_
      rw [List.drop_drop, List.drop_drop, Nat.add_comm 1 a, Nat.add_comm 1 b] at hab
      exact hab
    rw [List.pairwise_append]
    refine ⟨up (fun _ _ => trivial) (pw.sublist (List.take_sublist _ _)), ?_, ?_⟩
    · rw [List.pairwise_cons]
      refine ⟨fun b hb => ?_, up (fun _ _ => trivial) (pw.sublist (List.drop_sublist _ _))⟩
      obtain ⟨p, hp, rfl⟩ := List.mem_map.mp hb
      have h1 : ¬ w.drop (p + 1) < w.drop 0 := of_decide_eq_false (f2 p hp)
      have hp2 : p < w.length - 1 := by have := tOrd_lt (List.mem_of_mem_drop hp); rw [List.length_drop] at this; exact this
      by_cases c : w.drop 0 < w.drop (p + 1)
      · exact c
      · have e := List.le_antisymm (List.not_lt.mp h1) (List.not_lt.mp c)
        have := drop_inj (w := w) (i := 0) (j := p + 1) pos (by omega) e
        omega
    · intro a ha b hb
      obtain ⟨p, hp, rfl⟩ := List.mem_map.mp ha
      have h1 : w.drop (p + 1) < w.drop 0 := of_decide_eq_true (f1 p hp)
      rcases List.mem_cons.mp hb with rfl | hb
      · exact h1
      · obtain ⟨r, hr, rfl⟩ := List.mem_map.mp hb
        have h2 : ¬ w.drop (r + 1) < w.drop 0 := of_decide_eq_false (f2 r hr)
        by_cases c : w.drop (r + 1) < w.drop (p + 1)
        · exact absurd (List.lt_trans c h1) h2
        · by_cases e : w.drop (p + 1) < w.drop (r + 1)
          · exact e
          · have e' := List.le_antisymm (List.not_lt.mp c) (List.not_lt.mp e)
            rw [e'] at h1
            exact absurd h1 h2
theorem oNe_tups {a b : List Nat} {q : D → Prop} (h : q (.bl (!decide (a = b)))) : oNe (.tup (nats a)) (.tup (nats b)) q := by
  rw [sm_net, deq_tups]
  exact ⟨shp_tups, shp_tups, h⟩
theorem oNe_same {a : List Nat} {q : D → Prop} (h : q (.bl false)) : oNe (.tup (nats a)) (.tup (nats a)) q := oNe_tups (by rw [decide_eq_true rfl]; exact h)
theorem less_le (w : List Nat) : lessW w ≤ w.length - 1 := by
  unfold lessW
  have := List.countP_le_length (p := fun p => tlt w p 0) (l := List.range' 1 (w.length - 1))
  rw [List.length_range'] at this
  exact this
theorem tOrd_one {w : List Nat} (h : w.length = 1) : tOrd w = [0] := by
  have p := tOrd_perm w
  have l := tOrd_len w
  rw [h] at l
  match hO : tOrd w, l with
  | [x], _ =>
    rw [hO] at p
    have := p.mem_iff (a := x)
    simp at this
    rw [this]
end DL
set_option Elab.async false
set_option linter.all false
set_option maxRecDepth 100000
set_option maxHeartbeats 1000000
namespace DL
open PySem L2
def insT (w : List Nat) (p : Nat) : List Nat → List Nat
  | [] => [p]
  | r :: l => if w.drop p < w.drop r then p :: r :: l else r :: insT w p l
def ordK (w : List Nat) : List Nat := (List.range w.length).foldr (insT w) []
theorem insT_perm (w : List Nat) (p : Nat) : ∀ l, (insT w p l).Perm (p :: l)
  | [] => .refl _
  | r :: l => by
    unfold insT
    split
    · exact .refl _
    · exact ((insT_perm w p l).cons r).trans (.swap _ _ _)
theorem insT_srt (w : List Nat) (p : Nat) : ∀ l : List Nat, l.Pairwise (fun i j => ¬ w.drop j < w.drop i) → (insT w p l).Pairwise fun i j => ¬ w.drop j < w.drop i
  | [], _ => by simp [insT]
  | r :: l, h => by
    obtain ⟨h1, h2⟩ := List.pairwise_cons.mp h
    unfold insT
    split
    · rename_i c
      refine List.pairwise_cons.mpr ⟨fun j hj => ?_, h⟩
      rcases List.mem_cons.mp hj with rfl | hj
      · exact fun z => lt_asymmL c z
      · exact fun z => h1 j hj (List.lt_trans z c)
    · rename_i c
      refine List.pairwise_cons.mpr ⟨fun j hj => ?_, insT_srt w p l h2⟩
      rcases List.mem_cons.mp ((insT_perm w p l).mem_iff.mp hj) with rfl | hj
      · exact c
      · exact h1 j hj
theorem ordK_eq (w : List Nat) : tOrd w = ordK w := by
  refine (IsTO.eq (isTO_of_le ?_ ?_)).symm
  · unfold ordK
    generalize List.range w.length = l
    induction l with
    | nil => exact .refl _
    | cons a l ih => exact (insT_perm w a _).trans (ih.cons a)
  · unfold ordK
    generalize List.range w.length = l
    induction l with
    | nil => exact .nil
    | cons a l ih => exact insT_srt w a _ ih
def hdsK (w : List Nat) : List Nat := (List.range (w.length - 1)).map fun k => lcpW w ((ordK w).getD k 0) ((ordK w).getD (k + 1) 0)
theorem hdsK_eq (w : List Nat) : hdsW w = hdsK w := by
  unfold hdsW hdsK
  rw [ordK_eq]
theorem mem_allW (L : List Nat) : ∀ (n : Nat) (w : List Nat), w ∈ allW L n ↔ w.length = n ∧ ∀ c ∈ w, c ∈ L
  | 0, w => by
    show w ∈ [[]] ↔ _
    rw [List.mem_singleton, List.length_eq_zero_iff]
    exact ⟨fun h => ⟨h, by rw [h]; simp⟩, fun h => h.1⟩
  | n + 1, w => by
    show w ∈ (allW L n).flatMap _ ↔ _
    rw [List.mem_flatMap]
    constructor
    · rintro ⟨h, hh, hw⟩
      obtain ⟨c, hc, rfl⟩ := List.mem_map.mp hw
      obtain ⟨h1, h2⟩ := (mem_allW L n h).mp hh
      refine ⟨by simp [h1], fun x hx => ?_⟩
      rcases List.mem_append.mp hx with hx | hx
      · exact h2 x hx
      · rw [List.mem_singleton.mp hx]; exact hc
    · rintro ⟨h1, h2⟩
      have ne : w ≠ [] := fun e => by rw [e] at h1; simp at h1
      refine ⟨w.dropLast, (mem_allW L n _).mpr ⟨by rw [List.length_dropLast]; omega, fun c hc => h2 c ((List.dropLast_sublist w).mem hc)⟩, List.mem_map.mpr ⟨w.getLast ne, h2 _ (List.getLast_mem ne), List.dropLast_concat_getLast ne⟩⟩
def ok44w (n : Nat) (w : List Nat) : Bool := ordK (bldW (ordK w) (hdsK w)) == ordK w && hdsK (bldW (ordK w) (hdsK w)) == hdsK w && !decide (w < bldW (ordK w) (hdsK w)) && (hdsK w).all fun h => decide (h + 1 ≤ n)
def ok44 (n : Nat) : Bool := (allW ([97, 98, 99, 100].take n) n).all (ok44w n)
theorem ok44_all : ∀ n : Nat, n < 5 → 1 ≤ n → ok44 n = true := by decide +kernel
theorem bld_in {o xs : List Nat} {n : Nat} (hn : n ≤ 4) (ho : o.length = n) (hx : xs.length + 1 = n) : bldW o xs ∈ allW ([97, 98, 99, 100].take n) n := by
  refine (mem_allW _ _ _).mpr ⟨by unfold bldW; simp [ho], fun c hc => ?_⟩
  unfold bldW at hc
  obtain ⟨p, _, rfl⟩ := List.mem_map.mp hc
  have h1 : (xs.take (o.idxOf p)).count 0 ≤ xs.length := Nat.le_trans List.count_le_length (by rw [List.length_take]; omega)
  generalize (xs.take (o.idxOf p)).count 0 = k at h1
  have hk : k < n := by omega
  match n, hn, k, hk with
  | 1, _, 0, _ => simp
  | 2, _, 0, _ => simp
  | 2, _, 1, _ => simp
  | 3, _, 0, _ => simp
  | 3, _, 1, _ => simp
  | 3, _, 2, _ => simp
  | 4, _, 0, _ => simp
  | 4, _, 1, _ => simp
  | 4, _, 2, _ => simp
  | 4, _, 3, _ => simp
theorem isInt_eq {d : D} {a b : Int} (h : isInt d a b = true) : ∃ i, d = .int i ∧ a ≤ i ∧ i ≤ b := by
  cases d with
  | int i => simp [isInt] at h; exact ⟨i, rfl, h⟩
  | _ => cases h
theorem rb_due {n : Nat} (h1 : 1 ≤ n) (h4 : n ≤ 4) {o : List Nat} (ho : o.length = n) {v u : D} (h : dueR (allW ([97, 98, 99, 100].take n) n) o v u) : u = rbW o v := by
  unfold dueR at h
  by_cases c : okR v = true
  · rw [if_pos c] at h
    cases v with
    | tup xs =>
      have all_ : ∀ d ∈ xs, ∃ i, d = D.int i := fun d hd => by
        obtain ⟨i, e, _⟩ := isInt_eq (List.all_eq_true.mp c d hd)
        exact ⟨i, e⟩
      rcases h with ⟨h, rfl⟩ | ⟨m, hm, hmin, rfl⟩
      · show _ = if _ then _ else _
        rw [if_neg]
        rintro ⟨k1, k2, k3⟩
        unfold hdOk at k1
        rw [Bool.and_eq_true, decide_eq_true_eq] at k1
        have hin := bld_in (o := o) (xs := xs.map natD) h4 ho (by rw [List.length_map, k1.1]; omega)
        have e : xs.map natD = (xs.map natD) := rfl
        have : bldW o (xs.map natD) ∈ (allW ([97, 98, 99, 100].take n) n).filter (dueF o (.tup xs)) := by
          refine List.mem_filter.mpr ⟨hin, ?_⟩
          unfold dueF
          rw [k2, k3, decide_eq_true rfl, Bool.true_and]
          refine decide_eq_true ?_
          show _ = xs.map intD
          rw [List.map_map]
          refine List.map_congr_left fun d hd => ?_
          obtain ⟨i, rfl, hi, _⟩ := isInt_eq (List.all_eq_true.mp k1.2 d hd)
          show ((i.toNat : Nat) : Int) = i
          omega
        rw [h] at this
        cases this
      · obtain ⟨hm1, hm2⟩ := List.mem_filter.mp hm
        unfold dueF at hm2
        rw [Bool.and_eq_true, decide_eq_true_eq, decide_eq_true_eq] at hm2
        obtain ⟨e1, e2⟩ := hm2
        have e2' : (hdsW m).map (fun (n : Nat) => (n : Int)) = xs.map intD := e2
        have e3 : xs.map natD = hdsW m := by
          have : xs.map natD = (xs.map intD).map Int.toNat := by
            rw [List.map_map]
            refine List.map_congr_left fun d hd => ?_
            obtain ⟨i, rfl⟩ := all_ d hd
            rfl
          rw [this, ← e2', List.map_map]
          exact (List.map_congr_left (g := id) fun a _ => by simp).trans (List.map_id _)
        have ok := List.all_eq_true.mp (ok44_all n (by omega) h1) m hm1
        unfold ok44w at ok
        simp only [Bool.and_eq_true, beq_iff_eq, Bool.not_eq_true', decide_eq_false_iff_not] at ok
        rw [← ordK_eq, ← ordK_eq, ← hdsK_eq, ← hdsK_eq] at ok
        obtain ⟨⟨⟨k1, k2⟩, k3⟩, k4⟩ := ok
        rw [e1] at k1 k2 k3
        have ml := ((mem_allW _ _ _).mp hm1).1
        have hl : xs.length = o.length - 1 := by
          have := congrArg List.length e3
          rw [List.length_map, hds_len] at this
          omega
        have hin := bld_in (o := o) (xs := hdsW m) h4 ho (by rw [hds_len]; omega)
        have fin : bldW o (hdsW m) ∈ (allW ([97, 98, 99, 100].take n) n).filter (dueF o (.tup xs)) := by
          refine List.mem_filter.mpr ⟨hin, ?_⟩
          unfold dueF
          rw [k1, k2, decide_eq_true rfl, Bool.true_and]
          exact decide_eq_true e2
        have em : m = bldW o (hdsW m) := List.le_antisymm (List.not_lt.mp (hmin _ fin)) (List.not_lt.mp k3)
        show _ = if _ then _ else _
        rw [if_pos, e3, ← em]
        refine ⟨?_, by rw [e3]; exact k1, by rw [e3]; exact k2⟩
        show (decide (xs.length = o.length - 1) && _) = true
        rw [decide_eq_true hl, Bool.true_and, List.all_eq_true]
        intro d hd
        obtain ⟨i, rfl⟩ := all_ d hd
        have hi : natD (.int i) ∈ hdsW m := by rw [← e3]; exact List.mem_map_of_mem hd
        have hb := List.all_eq_true.mp k4 _ hi
        have hI : intD (.int i) ∈ xs.map intD := List.mem_map_of_mem hd
        rw [← e2'] at hI
        obtain ⟨j, _, ej⟩ := List.mem_map.mp hI
        have hb2 : i.toNat + 1 ≤ n := of_decide_eq_true hb
        have ej2 : (j : Int) = i := ej
        show (decide ((0 : Int) ≤ i) && decide (i ≤ ((o.length - 1 : Nat) : Int))) = true
        rw [Bool.and_eq_true, decide_eq_true_eq, decide_eq_true_eq]
        omega
    | _ => cases c
  · rw [if_neg c] at h
    rw [h]
    cases v with
    | tup xs =>
      show _ = if _ then _ else _
      rw [if_neg]
      rintro ⟨k, _⟩
      refine c ?_
      unfold hdOk at k
      rw [Bool.and_eq_true] at k
      refine List.all_eq_true.mpr fun d hd => ?_
      obtain ⟨i, rfl, a, b⟩ := isInt_eq (List.all_eq_true.mp k.2 d hd)
      simp [isInt]
      omega
    | _ => rfl
theorem abc_at {k : Nat} (h : k < 26) : abcW[k]? = some (97 + k) := by
  revert k
  decide
theorem jn_call {cs : List Nat} {q : D → Prop} (hl : cs.length ≤ 1000) (h : q (.str cs)) : oJoin [] (.lst (cs.map fun c => D.str [c])) q := by
  refine ⟨_, cs.map fun c => [c], .inl rfl, by rw [List.map_map]; rfl, by rw [ones_sum, List.length_nil, Nat.mul_zero]; omega, ?_⟩
  rw [jn_ones]
  exact h
theorem hd_nats {n : Nat} {xs : List D} (h : hdOk n (.tup xs) = true) : nats (xs.map natD) = xs ∧ xs.length = n := by
  unfold hdOk at h
  rw [Bool.and_eq_true, decide_eq_true_eq] at h
  refine ⟨?_, h.1⟩
  unfold nats
  rw [List.map_map]
  refine (List.map_congr_left (g := id) fun d hd => ?_).trans (List.map_id _)
  obtain ⟨i, rfl, a, _⟩ := isInt_eq (List.all_eq_true.mp h.2 d hd)
  show D.int ((i.toNat : Nat) : Int) = .int i
  congr 1
  omega
theorem bld_of {o xs : List Nat} {F : List D} (ho : isPerm o) (hl : F.length = o.length) (h : ∀ j p, o[j]? = some p → F[p]? = some (D.str [97 + (xs.take j).count 0])) : F = (bldW o xs).map fun c => D.str [c] := by
  apply List.ext_getElem?
  intro p
  unfold bldW
  rw [List.map_map, List.getElem?_map]
  by_cases c : p < o.length
  · rw [List.getElem?_range c, h _ p (get_idx (ho.mem c))]
    rfl
  · rw [List.getElem?_eq_none (by omega), List.getElem?_eq_none (by rw [List.length_range]; omega)]
    rfl
theorem oEq_ints {a b : List Int} {q : D → Prop} (h : q (.bl (decide (a = b)))) : oEq (.tup (a.map D.int)) (.tup (b.map D.int)) q := by
  have sh : ∀ c : List Int, shp (.tup (c.map D.int)) = true := fun c => (sh_tup (k := 0) fun d hd => by
    obtain ⟨i, _, rfl⟩ := List.mem_map.mp hd
    exact sh_int i).ok (by decide)
  rw [sm_eqt, deq_dec (P := a = b) (by simpa [nb] using nb_ints a) (by simpa [nb] using nb_ints b) ⟨fun e => map_inj (f := D.int) (fun a b h => by injection h) (by injection e), fun e => by rw [e]⟩]
  exact ⟨sh _, sh _, h⟩
theorem nats_ints (a : List Nat) : nats a = (a.map fun (n : Nat) => (n : Int)).map D.int := by
  unfold nats
  rw [List.map_map]
  rfl
theorem cnt_step {xs : List Nat} {i : Nat} (h1 : 1 ≤ i) (hi : i - 1 < xs.length) : (xs.take i).count 0 = (xs.take (i - 1)).count 0 + if xs.getD (i - 1) 0 = 0 then 1 else 0 := by
  obtain ⟨j, rfl⟩ : ∃ j, i = j + 1 := ⟨i - 1, by omega⟩
  simp only [Nat.add_sub_cancel] at hi ⊢
  rw [List.take_succ_eq_append_getElem hi, List.count_append, List.getD_eq_getElem?_getD, List.getElem?_eq_getElem hi]
  simp [List.count_singleton]
theorem odd_tupF : ∀ v ∈ oddL, ∀ xs, v = .tup xs → xs.length ≤ 1 ∧ ∀ d ∈ xs, fineD d := by
  have b : fineD (.bl true) := fine_bl
  have a : fineD (.str [97]) := fine_str (by simp) (by decide)
  have n0 : fineD (.int 0) := fine_int (by decide)
  unfold oddL
  repeat (first | exact all_nil | refine all_cons (fun xs e => by first | (cases e; done) | (cases e; first | exact ⟨by decide, all_nil⟩ | exact ⟨by decide, all_cons n0 all_nil⟩ | exact ⟨by decide, all_cons b all_nil⟩ | exact ⟨by decide, all_cons a all_nil⟩)) ?_)
def fineV (v : D) : Prop := okD v ∧ itD v ∧ RB 3000 4 v ∧ (itmD v).length ≤ 10000
theorem fineV_tup {xs : List D} (hl : xs.length ≤ 30) (h : ∀ d ∈ xs, fineD d) : fineV (.tup xs) :=
  ⟨ok_tup, fun d hd => (h d hd).1, (rb_tup (n := 40) (k := 3) fun d hd => (h d hd).2).mono (by omega) (by decide), by show xs.length ≤ 10000; omega⟩
theorem fineV_lst {xs : List D} (hl : xs.length ≤ 30) (h : ∀ d ∈ xs, fineD d) : fineV (.lst xs) :=
  ⟨ok_lst, trivial, (rb_lst (n := 40) (k := 3) fun d hd => (h d hd).2).mono (by omega) (by decide), Nat.zero_le _⟩
theorem fineV_odd {v : D} (h : v ∈ oddL) : fineV v := by
  have f := odd_fine v h
  refine ⟨f.1, ?_, f.2.mono (by decide) (by decide), ?_⟩
  · cases v with
    | tup xs => exact fun d hd => ((odd_tupF _ h xs rfl).2 d hd).1
    | _ => trivial
  · cases v with
    | tup xs => have := (odd_tupF _ h xs rfl).1; show xs.length ≤ 10000; omega
    | _ => exact Nat.zero_le _
theorem fine_nats {xs : List Nat} (h : ∀ i ∈ xs, i < 1000) : ∀ d ∈ nats xs, fineD d := fun d hd => by
  obtain ⟨i, hi, rfl⟩ := List.mem_map.mp hd
  exact fine_nat (h i hi)
theorem hds_le {w : List Nat} : ∀ i ∈ hdsW w, i ≤ w.length := fun i hi => by
  unfold hdsW at hi
  obtain ⟨k, _, rfl⟩ := List.mem_map.mp hi
  refine Nat.le_trans (agr_le _ _) ?_
  rw [List.length_drop]
  omega
theorem dec_small : ∀ h : Nat, h < 25 → ((dec h).all fun c => decide (c < 1114112)) = true ∧ (dec h).length ≤ 3 := by decide +kernel
theorem dec_fine {h : Nat} (hh : h < 25) : fineD (.str (dec h)) := by
  obtain ⟨a, b⟩ := dec_small h hh
  exact fine_str (fun c hc => of_decide_eq_true (List.all_eq_true.mp a c hc)) b
end DL
set_option Elab.async false
set_option linter.all false
set_option maxRecDepth 100000
set_option maxHeartbeats 1000000
namespace DL
open PySem L2
theorem rk_iff {w : List Nat} {i j : Nat} (hi : i < w.length) (hj : j < w.length) : (tOrd w).idxOf i < (tOrd w).idxOf j ↔ tlt w i j = true := by
  unfold tlt
  rw [decide_eq_true_eq]
  refine ⟨fun h => ?_, rk_mono hi hj⟩
  by_cases c : w.drop i < w.drop j
  · exact c
  · by_cases c2 : w.drop j < w.drop i
    · have := rk_mono hj hi c2
      omega
    · have e := List.le_antisymm (List.not_lt.mp c) (List.not_lt.mp c2)
      have := drop_inj (w := w) (i := j) (j := i) (by omega) (by omega) e
      rw [this] at h
      omega
theorem fdR_uniq {a b : List Nat} {d e : D} (h : fdR a b d) (h' : fdR a b e) : d = e := by
  rcases h with ⟨i, j, h1, h2, h3, h4, rfl⟩ | ⟨h, rfl⟩
  · rcases h' with ⟨k, l, k1, k2, k3, k4, rfl⟩ | ⟨h', rfl⟩
    · have a1 : ¬ (i < k ∨ (i = k ∧ j < l)) := fun z => h3 (k4 i j h1 h2 z)
      have a2 : ¬ (k < i ∨ (k = i ∧ l < j)) := fun z => k3 (h4 k l k1 k2 z)
      have e1 : i = k := by omega
      have e2 : j = l := by omega
      rw [e1, e2]
    · exact absurd (h' i j h1 h2) h3
  · rcases h' with ⟨k, l, k1, k2, k3, k4, rfl⟩ | ⟨h', rfl⟩
    · exact absurd (h k l k1 k2) k3
    · rfl
theorem ndR_uniq {a b : List Nat} {d e : D} (h : ndR a b d) (h' : ndR a b e) : d = e := by
  unfold ndR at h h'
  split at h
  · rename_i c
    rw [if_pos c] at h'
    exact fdR_uniq h h'
  · rename_i c
    rw [if_neg c] at h'
    rw [h, h']
theorem ndR_rb {a b : List Nat} {d : D} (h : ndR a b d) (ha : a.length ≤ 900) : RB 3000 4 d := by
  unfold ndR at h
  split at h
  · rcases h with ⟨i, j, h1, h2, h3, h4, rfl⟩ | ⟨h, rfl⟩
    · exact (rb_tup (n := 4) (k := 0) (ds := [.int i, .int j]) (all_cons (rb_nat (by omega)) (all_cons (rb_nat (by omega)) all_nil))).mono (by simp) (by decide)
    · exact rb_non.mono (by decide) (by decide)
  · rw [h]
    exact (rb_lst (n := 200) (k := 0) (ds := [.str sAlike, .int 1]) (all_cons ((rb_str (by simp)).mono (by simp) (by decide)) (all_cons ((rb_nat (i := 1) (by decide)).mono (by decide) (by decide)) all_nil))).mono (by simp) (by decide)
theorem cut_neg {α : Type} (xs : List α) {k : Nat} (h1 : 1 ≤ k) (h : k ≤ xs.length) : cutL xs (some (-(k : Int))) none = xs.drop (xs.length - k) := by
  have e : HT.sIx xs.length 0 (some (-(k : Int))) = xs.length - k := by
    unfold HT.sIx
    show (if (-(k : Int)) < 0 then (-(k : Int) + (xs.length : Int)).toNat else min (-(k : Int)).toNat xs.length) = _
    rw [if_pos (by omega)]
    omega
  unfold cutL
  rw [e, HT.sIx_none, List.take_of_length_le (by rw [List.length_drop]; omega)]
theorem nodup_len_le {α : Type} [DecidableEq α] : ∀ {l m : List α}, l.Nodup → (∀ x ∈ l, x ∈ m) → l.length ≤ m.length
  | [], _, _, _ => Nat.zero_le _
  | x :: l, m, nd, sub => by
    obtain ⟨n1, n2⟩ := List.nodup_cons.mp nd
    have mx := sub x List.mem_cons_self
    have := nodup_len_le (m := m.erase x) n2 fun y hy => (List.mem_erase_of_ne (fun e : y = x => n1 (by rw [← e]; exact hy))).mpr (sub y (List.mem_cons_of_mem _ hy))
    rw [List.length_erase_of_mem mx] at this
    have pos := List.length_pos_of_mem mx
    rw [List.length_cons]
    omega
theorem nodup_len_eq {α : Type} [DecidableEq α] {l m : List α} (h1 : l.Nodup) (h2 : m.Nodup) (h : ∀ x, x ∈ l ↔ x ∈ m) : l.length = m.length :=
  Nat.le_antisymm (nodup_len_le h1 fun x hx => (h x).mp hx) (nodup_len_le h2 fun x hx => (h x).mpr hx)
theorem lt_nodup {ys : List (List Nat)} (h : ys.Pairwise (· < ·)) : ys.Nodup := List.Pairwise.imp (fun {a b} (z : a < b) (e : a = b) => List.lt_irrefl a (by rw [← e] at z; exact z)) h
theorem letters_few {w : List Nat} {ys : List (List Nat)} (hL : Lets w) (nd : ys.Nodup) (h : ∀ y ∈ ys, y ∈ w.map fun c => [c]) : ys.length ≤ 26 := by
  have := nodup_len_le (m := abcW.map fun c => [c]) nd fun y hy => by
    obtain ⟨c, hc, rfl⟩ := List.mem_map.mp (h y hy)
    exact List.mem_map_of_mem (abc_mem.mpr (hL c hc))
  simpa using this
theorem ix_strs {ys : List (List Nat)} {y : List Nat} {q : D → Prop} (nd : ys.Nodup) (hy : y ∈ ys) (h : ∀ j : Nat, ys[j]? = some y → q (.int j)) : ixD (.str y) (ys.map D.str) q := by
  obtain ⟨j, hj, e⟩ := List.getElem_of_mem hy
  refine ⟨rfl, List.all_eq_true.mpr fun d hd => ?_, j, ⟨.str y, ?_, ?_⟩, fun m z hm hz => ?_, h j ?_⟩
  · obtain ⟨x, _, rfl⟩ := List.mem_map.mp hd
    rfl
  · rw [List.getElem?_map, List.getElem?_eq_getElem hj, e]
    rfl
  · exact beq_self_eq_true (α := List Nat) y
  · rw [List.getElem?_map, List.getElem?_eq_getElem (Nat.lt_trans hm hj)] at hz
    cases hz
    refine Bool.eq_false_iff.mpr fun z => ?_
    have z' : ys[m] = y := beq_iff_eq.mp (show (ys[m] == y) = true from z)
    have := (List.nodup_iff_pairwise_ne.mp nd)
    rw [List.pairwise_iff_getElem] at this
    exact this m j (Nat.lt_trans hm hj) hj hm (by rw [z', e])
  · rw [List.getElem?_eq_getElem hj, e]
end DL
set_option Elab.async false
set_option linter.all false
set_option maxRecDepth 100000
set_option maxHeartbeats 1000000
namespace DL
open PySem L2
theorem take_lt : ∀ (k : Nat) {p t : List Nat}, p < t → agrL p t < k → k ≤ t.length → p < t.take k
  | 0, _, _, _, h, _ => absurd h (Nat.not_lt_zero _)
  | k + 1, [], [], h, _, _ => absurd h (List.not_lt_nil _)
  | k + 1, [], y :: t, _, _, _ => by
    rw [List.take_succ_cons]
    exact List.nil_lt_cons _ _
  | k + 1, x :: p, [], h, _, _ => absurd h (List.not_lt_nil _)
  | k + 1, x :: p, y :: t, h, ha, hk => by
    rw [List.take_succ_cons, List.cons_lt_cons_iff]
    rw [List.cons_lt_cons_iff] at h
    rcases h with h | ⟨rfl, h⟩
    · exact .inl h
    · have e : agrL (x :: p) (x :: t) = agrL p t + 1 := by
        show (if x = x then _ else _) = _
        rw [if_pos rfl]
      exact .inr ⟨rfl, take_lt k h (by omega) (by simpa using hk)⟩
theorem take_lt_self : ∀ (k : Nat) {t : List Nat}, k < t.length → t.take k < t
  | 0, [], h => absurd h (Nat.not_lt_zero _)
  | 0, y :: t, _ => List.nil_lt_cons _ _
  | k + 1, [], h => absurd h (Nat.not_lt_zero _)
  | k + 1, y :: t, h => by
    rw [List.take_succ_cons, List.cons_lt_cons_iff]
    exact .inr ⟨rfl, take_lt_self k (by simpa using h)⟩
theorem take_lt_take {j k : Nat} {t : List Nat} (h : j < k) (hk : k ≤ t.length) : t.take j < t.take k := by
  have := take_lt_self j (t := t.take k) (by rw [List.length_take]; omega)
  rwa [List.take_take, Nat.min_eq_left (by omega)] at this
theorem agr_take : ∀ (k : Nat) {a b : List Nat}, k ≤ agrL a b → a.take k = b.take k
  | 0, _, _, _ => by rw [List.take_zero, List.take_zero]
  | k + 1, [], b, h => absurd h (by rw [agr_comm, agr_nil]; omega)
  | k + 1, x :: a, [], h => absurd h (by rw [agr_nil]; omega)
  | k + 1, x :: a, y :: b, h => by
    have h' : k + 1 ≤ if x = y then agrL a b + 1 else 0 := h
    by_cases c : x = y
    · rw [if_pos c] at h'
      rw [List.take_succ_cons, List.take_succ_cons, c, agr_take k (a := a) (b := b) (by omega)]
    · rw [if_neg c] at h'
      omega
theorem agr_le2 (a b : List Nat) : agrL a b ≤ b.length := by rw [agr_comm]; exact agr_le b a
theorem beg_len (t : List Nat) (h : Nat) : (begW t h).length = t.length - h := by unfold begW; rw [List.length_map, List.length_range']
theorem beg_mem {t : List Nat} {h : Nat} {x : List Nat} : x ∈ begW t h ↔ ∃ k, h < k ∧ k ≤ t.length ∧ x = t.take k := by
  unfold begW
  rw [List.mem_map]
  constructor
  · rintro ⟨k, hk, rfl⟩
    rw [List.mem_range'_1] at hk
    exact ⟨k, by omega, by omega, rfl⟩
  · rintro ⟨k, h1, h2, rfl⟩
    exact ⟨k, by rw [List.mem_range'_1]; omega, rfl⟩
theorem beg_at {t : List Nat} {h i : Nat} (hi : i < t.length - h) : (begW t h)[i]? = some (t.take (h + i + 1)) := by
  unfold begW
  rw [List.getElem?_map, List.getElem?_range' (by omega)]
  show some (t.take (h + 1 + 1 * i)) = _
  rw [show h + 1 + 1 * i = h + i + 1 by omega]
theorem beg_rise (t : List Nat) (h : Nat) : (begW t h).Pairwise (· < ·) := by
  unfold begW
  rw [List.pairwise_map]
  refine List.Pairwise.imp_of_mem (fun {i j} hi hj hij => ?_) (List.pairwise_lt_range' (s := h + 1) (n := t.length - h))
  rw [List.mem_range'_1] at hj
  exact take_lt_take hij (by omega)
theorem prt_cons (p t : List Nat) (ts : List (List Nat)) : prtL p (t :: ts) = begW t (agrL p t) ++ prtL t ts := by
  unfold prtL
  rw [nwpL, List.flatMap_cons]
theorem nwp_len : ∀ (ts : List (List Nat)) (p : List Nat), (nwpL p ts).length = ts.length
  | [], _ => rfl
  | t :: ts, p => by rw [nwpL, List.length_cons, nwp_len ts t, List.length_cons]
theorem nwp_at : ∀ (ts : List (List Nat)) (p : List Nat) (i : Nat) {t : List Nat}, ts[i]? = some t → (nwpL p ts)[i]? = some (t, agrL ((p :: ts).getD i []) t)
  | [], _, _, _, h => by simp at h
  | t :: ts, p, 0, u, h => by
    cases h
    rfl
  | t :: ts, p, i + 1, u, h => by
    rw [nwpL, List.getElem?_cons_succ, nwp_at ts t i (by simpa using h)]
    rfl
theorem prt_rise : ∀ (ts : List (List Nat)) (p : List Nat), (p :: ts).Pairwise (· < ·) → (∀ x ∈ prtL p ts, p < x) ∧ (prtL p ts).Pairwise (· < ·)
  | [], p, _ => ⟨fun x hx => absurd hx List.not_mem_nil, List.Pairwise.nil⟩
  | t :: ts, p, h => by
    have hpt : p < t := List.rel_of_pairwise_cons h List.mem_cons_self
    obtain ⟨h1, h2⟩ := prt_rise ts t (List.pairwise_cons.mp h).2
    rw [prt_cons]
    refine ⟨fun x hx => ?_, ?_⟩
    · rw [List.mem_append] at hx
      rcases hx with hx | hx
      · obtain ⟨k, k1, k2, rfl⟩ := beg_mem.mp hx
        exact take_lt k hpt k1 k2
      · exact List.lt_trans hpt (h1 x hx)
    · rw [List.pairwise_append]
      refine ⟨beg_rise _ _, h2, fun x hx y hy => ?_⟩
      obtain ⟨k, k1, k2, rfl⟩ := beg_mem.mp hx
      by_cases c : k = t.length
      · rw [c, List.take_length]
        exact h1 y hy
      · exact List.lt_trans (take_lt_self k (by omega)) (h1 y hy)
theorem prt_sub : ∀ (ts : List (List Nat)) (p x : List Nat), x ∈ prtL p ts → ∃ t ∈ ts, ∃ k, 1 ≤ k ∧ k ≤ t.length ∧ x = t.take k
  | [], _, _, h => nomatch h
  | t :: ts, p, x, h => by
    rw [prt_cons, List.mem_append] at h
    rcases h with h | h
    · obtain ⟨k, k1, k2, rfl⟩ := beg_mem.mp h
      exact ⟨t, List.mem_cons_self, k, by omega, k2, rfl⟩
    · obtain ⟨u, hu, r⟩ := prt_sub ts t x h
      exact ⟨u, List.mem_cons_of_mem _ hu, r⟩
theorem prt_all : ∀ (ts : List (List Nat)) (p t : List Nat) (k : Nat), t ∈ ts → 1 ≤ k → k ≤ t.length → t.take k ∈ prtL p ts ∨ ∃ j, 1 ≤ j ∧ j ≤ p.length ∧ t.take k = p.take j
  | [], _, _, _, h, _, _ => nomatch h
  | u :: ts, p, t, k, h, h1, h2 => by
    have first : ∀ j, 1 ≤ j → j ≤ u.length → u.take j ∈ prtL p (u :: ts) ∨ ∃ i, 1 ≤ i ∧ i ≤ p.length ∧ u.take j = p.take i := fun j j1 j2 => by
      by_cases c : j ≤ agrL p u
      · exact .inr ⟨j, j1, Nat.le_trans c (agr_le p u), (agr_take j c).symm⟩
      · exact .inl (by rw [prt_cons]; exact List.mem_append_left _ (beg_mem.mpr ⟨j, by omega, j2, rfl⟩))
    rcases List.mem_cons.mp h with rfl | h
    · exact first k h1 h2
    · rcases prt_all ts u t k h h1 h2 with z | ⟨j, j1, j2, e⟩
      · exact .inl (by rw [prt_cons]; exact List.mem_append_right _ z)
      · rw [e]
        exact first j j1 j2
theorem rise_uniq : ∀ {xs ys : List (List Nat)}, xs.Pairwise (· < ·) → ys.Pairwise (· < ·) → (∀ x, x ∈ xs ↔ x ∈ ys) → xs = ys
  | [], [], _, _, _ => rfl
  | [], y :: ys, _, _, h => absurd ((h y).mpr List.mem_cons_self) List.not_mem_nil
  | x :: xs, [], _, _, h => absurd ((h x).mp List.mem_cons_self) List.not_mem_nil
  | x :: xs, y :: ys, h1, h2, h => by
    rw [List.pairwise_cons] at h1 h2
    have e : x = y := by
      rcases List.mem_cons.mp ((h x).mp List.mem_cons_self) with e | e
      · exact e
      · rcases List.mem_cons.mp ((h y).mpr List.mem_cons_self) with e' | e'
        · exact e'.symm
        · exact (lt_asymmL (h1.1 y e') (h2.1 x e)).elim
    subst e
    rw [rise_uniq h1.2 h2.2 fun z => ⟨fun hz => ?_, fun hz => ?_⟩]
    · rcases List.mem_cons.mp ((h z).mp (List.mem_cons_of_mem _ hz)) with e | e
      · subst e
        exact (List.lt_irrefl _ (h1.1 _ hz)).elim
      · exact e
    · rcases List.mem_cons.mp ((h z).mpr (List.mem_cons_of_mem _ hz)) with e | e
      · subst e
        exact (List.lt_irrefl _ (h2.1 _ hz)).elim
      · exact e
theorem prtW_rise (w : List Nat) : (prtW w).Pairwise (· < ·) := by
  refine (prt_rise _ _ (List.pairwise_cons.mpr ⟨fun t ht => ?_, ?_⟩)).2
  · obtain ⟨p, hp, rfl⟩ := List.mem_map.mp ht
    have := tOrd_lt hp
    rw [List.drop_eq_getElem_cons this]
    exact List.nil_lt_cons _ _
  · unfold tailsW
    rw [List.pairwise_map]
    exact (tOrd_is w).2
theorem prtW_mem {w x : List Nat} : x ∈ prtW w ↔ ∃ b e, b < e ∧ e ≤ w.length ∧ x = (w.drop b).take (e - b) := by
  constructor
  · intro h
    obtain ⟨t, ht, k, k1, k2, rfl⟩ := prt_sub _ _ _ h
    obtain ⟨p, hp, rfl⟩ := List.mem_map.mp ht
    rw [List.length_drop] at k2
    have := tOrd_lt hp
    exact ⟨p, p + k, by omega, by omega, by rw [show p + k - p = k by omega]⟩
  · rintro ⟨b, e, h1, h2, rfl⟩
    have hb : b ∈ tOrd w := (tOrd_is w).1.mem_iff.mpr (List.mem_range.mpr (by omega))
    rcases prt_all (tailsW w) [] (w.drop b) (e - b) (List.mem_map.mpr ⟨b, hb, rfl⟩) (by omega) (by rw [List.length_drop]; omega) with z | ⟨j, j1, j2, _⟩
    · exact z
    · simp at j2
      omega
/-- all parts, begin by begin -/
def allP (w : List Nat) : List (List Nat) := (List.range w.length).flatMap fun b => (List.range' (b + 1) (w.length - b)).map fun e => (w.drop b).take (e - b)
theorem allP_mem {w x : List Nat} : x ∈ allP w ↔ x ∈ prtW w := by
  rw [prtW_mem]
  unfold allP
  rw [List.mem_flatMap]
  constructor
  · rintro ⟨b, hb, h⟩
    obtain ⟨e, he, rfl⟩ := List.mem_map.mp h
    rw [List.mem_range] at hb
    rw [List.mem_range'_1] at he
    exact ⟨b, e, by omega, by omega, rfl⟩
  · rintro ⟨b, e, h1, h2, rfl⟩
    exact ⟨b, List.mem_range.mpr (by omega), List.mem_map.mpr ⟨e, by rw [List.mem_range'_1]; omega, rfl⟩⟩
theorem prt_uniq {w : List Nat} {ys : List (List Nat)} (h : ys.Pairwise (· < ·)) (m : ∀ x, x ∈ ys ↔ x ∈ allP w) : ys = prtW w :=
  rise_uniq h (prtW_rise w) fun x => (m x).trans allP_mem
theorem tails_at {w : List Nat} {i : Nat} (h : i < w.length) : (tailsW w)[i]? = some (w.drop ((tOrd w).getD i 0)) := by
  unfold tailsW
  rw [List.getElem?_map, List.getD_eq_getElem?_getD, List.getElem?_eq_getElem (by rw [tOrd_len]; exact h)]
  rfl
theorem tails_len (w : List Nat) : (tailsW w).length = w.length := by unfold tailsW; rw [List.length_map, tOrd_len]
theorem new_len (w : List Nat) : (newW w).length = w.length := by unfold newW; rw [nwp_len, tails_len]
theorem new_at {w : List Nat} {i : Nat} (h : i < w.length) : (newW w)[i]? = some (w.drop ((tOrd w).getD i 0), (0 :: hdsW w).getD i 0) := by
  unfold newW
  rw [nwp_at _ _ _ (tails_at h)]
  cases i with
  | zero =>
    show some (_, agrL [] _) = _
    rw [agr_comm, agr_nil]
    rfl
  | succ k =>
    rw [List.getD_cons_succ, getD_get (tails_at (show k < w.length by omega)), List.getD_cons_succ, getD_get (hds_at (show k < w.length - 1 by omega))]
    rfl
theorem new_zip (w : List Nat) : zipL ((tailsW w).map D.str) (.int 0 :: nats (hdsW w)) = (newW w).map fun x => D.tup [.str x.1, .int (x.2 : Nat)] := by
  refine List.ext_getElem? fun i => ?_
  by_cases h : i < w.length
  · have e2 : (D.int 0 :: nats (hdsW w))[i]? = some (.int ((0 :: hdsW w).getD i 0 : Nat)) := by
      cases i with
      | zero => rfl
      | succ k =>
        rw [List.getElem?_cons_succ, nats_at (by rw [hds_len]; omega), List.getD_cons_succ]
    unfold zipL
    have e1 : ((tailsW w).map D.str)[i]? = some (.str (w.drop ((tOrd w).getD i 0))) := by
      rw [List.getElem?_map, tails_at h]
      rfl
    have e3 : (((tailsW w).map D.str).zip (D.int 0 :: nats (hdsW w)))[i]? = some (.str (w.drop ((tOrd w).getD i 0)), .int ((0 :: hdsW w).getD i 0 : Nat)) := List.getElem?_zip_eq_some.mpr ⟨e1, e2⟩
    rw [List.getElem?_map, List.getElem?_map, new_at h, e3]
    rfl
  · rw [List.getElem?_eq_none (by rw [zip_len, List.length_map, tails_len]; omega), List.getElem?_eq_none (by rw [List.length_map, new_len]; omega)]
theorem prt_len (w : List Nat) : (prtW w).length = ((newW w).map fun x => x.1.length - x.2).sum := by
  unfold prtW prtL newW
  rw [List.length_flatMap]
  refine congrArg List.sum (List.map_congr_left fun x _ => ?_)
  exact beg_len _ _
theorem nwp_le : ∀ (ts : List (List Nat)) (p : List Nat), ∀ x ∈ nwpL p ts, x.2 ≤ x.1.length ∧ x.1 ∈ ts
  | [], _, x, h => absurd h List.not_mem_nil
  | t :: ts, p, x, h => by
    rcases List.mem_cons.mp h with rfl | h
    · exact ⟨agr_le2 p t, List.mem_cons_self⟩
    · obtain ⟨h1, h2⟩ := nwp_le ts t x h
      exact ⟨h1, List.mem_cons_of_mem _ h2⟩
theorem new_le {w : List Nat} {x : List Nat × Nat} (h : x ∈ newW w) : x.2 ≤ x.1.length ∧ x.1.length ≤ w.length := by
  obtain ⟨h1, h2⟩ := nwp_le _ _ x h
  obtain ⟨p, _, e⟩ := List.mem_map.mp h2
  exact ⟨h1, by rw [← e, List.length_drop]; omega⟩
theorem sum_cast : ∀ xs : List Nat, (xs.map fun n : Nat => (n : Int)).sum = ((xs.sum : Nat) : Int)
  | [] => rfl
  | x :: xs => by
    rw [List.map_cons, List.sum_cons, List.sum_cons, sum_cast xs]
    omega
theorem sum_le {α : Type} {f : α → Nat} {c : Nat} : ∀ {xs : List α}, (∀ x ∈ xs, f x ≤ c) → (xs.map f).sum ≤ xs.length * c
  | [], _ => by simp
  | x :: xs, h => by
    rw [List.map_cons, List.sum_cons, List.length_cons, Nat.succ_mul]
    have := sum_le (xs := xs) fun y hy => h y (List.mem_cons_of_mem _ hy)
    have := h x List.mem_cons_self
    omega
theorem prt_small (w : List Nat) : (prtW w).length ≤ w.length * w.length := by
  rw [prt_len]
  have := sum_le (f := fun x : List Nat × Nat => x.1.length - x.2) (c := w.length) (xs := newW w) fun x hx => by
    have := new_le hx
    show x.1.length - x.2 ≤ _
    omega
  rwa [new_len] at this
theorem allP_len (w : List Nat) : (allP w).length ≤ w.length * w.length := by
  unfold allP
  rw [List.length_flatMap]
  have := sum_le (f := fun b : Nat => ((List.range' (b + 1) (w.length - b)).map fun e => (w.drop b).take (e - b)).length) (c := w.length) (xs := List.range w.length) fun x hx => by
    rw [List.length_map, List.length_range']
    omega
  rwa [List.length_range] at this
theorem prt_pos {w : List Nat} (h : 1 ≤ w.length) : 1 ≤ (prtW w).length :=
  List.length_pos_of_mem (prtW_mem.mpr ⟨0, 1, by omega, h, rfl⟩)
theorem prt_each {w x : List Nat} (h : x ∈ prtW w) : x.length ≤ w.length ∧ ∀ c ∈ x, c ∈ w := by
  obtain ⟨b, e, h1, h2, rfl⟩ := prtW_mem.mp h
  exact ⟨by rw [List.length_take, List.length_drop]; omega, fun c hc => List.mem_of_mem_drop (List.mem_of_mem_take hc)⟩
/-- the parts from a tail on -/
def prtF (w : List Nat) (i : Nat) : List (List Nat) := ((newW w).drop i).flatMap fun x => begW x.1 x.2
theorem prtF_zero (w : List Nat) : prtF w 0 = prtW w := rfl
theorem prtF_step {w : List Nat} {i : Nat} {x : List Nat × Nat} (h : (newW w)[i]? = some x) : prtF w i = begW x.1 x.2 ++ prtF w (i + 1) := by
  unfold prtF
  obtain ⟨hi, e⟩ := List.getElem?_eq_some_iff.mp h
  rw [List.drop_eq_getElem_cons hi, e, List.flatMap_cons]
theorem prtF_end (w : List Nat) : prtF w w.length = [] := by
  unfold prtF
  rw [← new_len w, List.drop_length]
  rfl
end DL
set_option Elab.async false
set_option linter.all false
set_option maxRecDepth 100000
set_option maxHeartbeats 1000000
namespace DL
theorem prt_ne {w x : List Nat} (h : x ∈ prtW w) : x ≠ [] := fun e => by
  obtain ⟨b, f, h1, h2, h3⟩ := prtW_mem.mp h
  rw [e] at h3
  have := congrArg List.length h3
  rw [List.length_take, List.length_drop, List.length_nil] at this
  omega
theorem sub_prt {w x : List Nat} (hx : x ≠ []) : subB x w = true ↔ x ∈ prtW w := by
  have lx := List.length_pos_iff.mpr hx
  unfold subB
  rw [List.any_eq_true, prtW_mem]
  constructor
  · rintro ⟨p, h1, h2⟩
    have h2 := of_decide_eq_true h2
    have h3 := congrArg List.length h2
    rw [List.length_take, List.length_drop] at h3
    exact ⟨p, p + x.length, by omega, by omega, by rw [Nat.add_sub_cancel_left]; exact h2.symm⟩
  · rintro ⟨b, e, h1, h2, h3⟩
    refine ⟨b, List.mem_range.mpr (by omega), decide_eq_true ?_⟩
    have h4 := congrArg List.length h3
    rw [List.length_take, List.length_drop] at h4
    rw [show x.length = e - b by omega]
    exact h3.symm
theorem prt_nodup (w : List Nat) : (prtW w).Nodup := lt_nodup (prtW_rise w)
theorem idx_get {xs : List (List Nat)} (nd : xs.Nodup) {i : Nat} {x : List Nat} (h : xs[i]? = some x) : xs.idxOf x = i := by
  obtain ⟨hi, rfl⟩ := List.getElem?_eq_some_iff.mp h
  exact nd.idxOf_getElem i hi
theorem beg_nodup (t : List Nat) (h : Nat) : (begW t h).Nodup := lt_nodup (beg_rise t h)
/-- where a part stands among the new beginnings of a tail -/
theorem beg_idx {t x : List Nat} {s : Nat} (h : t.take x.length = x) (hs : s < x.length) : x ∈ begW t s ∧ (begW t s).idxOf x = x.length - s - 1 := by
  have lx := congrArg List.length h
  rw [List.length_take] at lx
  have at_ := beg_at (t := t) (h := s) (i := x.length - s - 1) (by omega)
  rw [show s + (x.length - s - 1) + 1 = x.length by omega, h] at at_
  exact ⟨List.mem_of_getElem? at_, idx_get (beg_nodup t s) at_⟩
theorem beg_not {t x : List Nat} {s : Nat} (h : t.take x.length ≠ x) : x ∉ begW t s := fun m => by
  obtain ⟨k, h1, h2, rfl⟩ := beg_mem.mp m
  refine h ?_
  rw [List.length_take, Nat.min_eq_left h2]
/-- neighbours that agree begin alike -/
theorem hds_take {w x : List Nat} {i : Nat} (hi : i < w.length) (hx : x.length ≤ (0 :: hdsW w).getD i 0) (h0 : x ≠ []) (h : (w.drop ((tOrd w).getD i 0)).take x.length = x) :
    ∃ j, j + 1 = i ∧ (w.drop ((tOrd w).getD j 0)).take x.length = x := by
  have lx := List.length_pos_iff.mpr h0
  have n1 := new_at hi
  have n2 := nwp_at (tailsW w) [] i (tails_at hi)
  have e : (newW w)[i]? = (nwpL [] (tailsW w))[i]? := rfl
  rw [e, n2] at n1
  have n3 := congrArg (fun z => z.map Prod.snd) n1
  simp only [Option.map_some] at n3
  have n4 := Option.some.inj n3
  rw [← n4] at hx
  cases i with
  | zero =>
    rw [List.getD_cons_zero] at hx
    have : agrL [] (w.drop ((tOrd w).getD 0 0)) = 0 := rfl
    omega
  | succ j =>
    refine ⟨j, rfl, ?_⟩
    rw [List.getD_cons_succ] at hx
    have e2 : (tailsW w).getD j [] = w.drop ((tOrd w).getD j 0) := by
      rw [List.getD_eq_getElem?_getD, tails_at (by omega)]
      rfl
    rw [e2] at hx
    rw [agr_take _ hx]
    exact h
end DL
set_option Elab.async false
set_option linter.all false
set_option maxRecDepth 100000
set_option maxHeartbeats 1000000
namespace DL
open PySem L2
def d_l_by_tails_x : DSp stg := fun ds g q _ => ∃ w, ds = [.str w] ∧ w.length ≤ 1000 ∧ q (.tx (nats (tOrd w))) g
def d_l_ordered_x : DSp stg := fun ds (g : Nat) q _ => ∃ most : Nat, ds = [.ob 0, .int most] ∧ 1 ≤ most ∧ most ≤ 30 ∧ g + 150 ≤ 2 ^ 60 ∧ ∀ o : List Nat, 1 ≤ o.length → o.length ≤ most → isPerm o → q (.tx (nats o)) (g + 150)
def d_heads_of_x : DSp stg := fun ds g q _ => ∃ w : List Nat, ds = [.str w] ∧ w.length ≤ 1000 ∧ q (.tx (nats (hdsW w))) g
/-- the places at which a text stands -/
def plcW (w x : List Nat) : List Nat := (List.range w.length).filter fun p => decide ((w.drop p).take x.length = x)
/-- the greatest head -/
def lgW (w : List Nat) : Nat := (hdsW w).foldl max 0
def twP (w : List Nat) : List Nat := (w.drop ((tOrd w).getD ((hdsW w).idxOf (lgW w)) 0)).take (lgW w)
def ptD (w x : List Nat) : D := .tup [.str x, .tup (nats (plcW w x))]
/-- the longest part that stands at two places -/
def twW (w : List Nat) : D := if lgW w = 0 then .non else ptD w (twP w)
def d_longest_twice : DSp stg := fun ds g q _ => ∃ w : List Nat, ds = [.str w] ∧ w.length ≤ 1000 ∧ q (twW w) g
end DL
set_option Elab.async false
set_option linter.all false
set_option maxRecDepth 100000
set_option maxHeartbeats 1000000
namespace DL
open PySem L2
theorem idx_cast : ∀ (x : List Nat) (k : Nat), (x.map fun n : Nat => (n : Int)).idxOf (k : Int) = x.idxOf k
  | [], _ => rfl
  | a :: x, k => by
    rw [List.map_cons, List.idxOf_cons, List.idxOf_cons, idx_cast x k]
    by_cases e : a = k
    · subst e
      simp
    · have h1 : (a == k) = false := beq_eq_false_iff_ne.mpr e
      have h2 : ((a : Int) == (k : Int)) = false := beq_eq_false_iff_ne.mpr fun z => e (by omega)
      rw [h1, h2]
theorem cut_zero {x : List Nat} (h : isPerm x) (h1 : 0 < x.length) : x.take (x.idxOf 0) ++ x.drop (x.idxOf 0 + 1) = x.filter fun p => decide (0 < p) := by
  have hs := idx_lt h h1
  have e0 := idx_getD h h1
  have e : x = x.take (x.idxOf 0) ++ 0 :: x.drop (x.idxOf 0 + 1) := by
    conv => lhs; rw [← List.take_append_drop (x.idxOf 0) x, List.drop_eq_getElem_cons hs]
    congr 2
    rw [List.getD_eq_getElem?_getD, List.getElem?_eq_getElem hs] at e0
    exact e0
  have nd := h.nodup
  generalize x.take (x.idxOf 0) = a at *
  generalize x.drop (x.idxOf 0 + 1) = b at *
  rw [e] at nd ⊢
  obtain ⟨_, nb, dis⟩ := List.nodup_append.mp nd
  have hb := (List.nodup_cons.mp nb).1
  rw [List.filter_append, List.filter_cons_of_neg (by decide), List.filter_eq_self.mpr, List.filter_eq_self.mpr]
  · intro p hp
    exact decide_eq_true (Nat.pos_of_ne_zero fun z => hb (z ▸ hp))
  · intro p hp
    exact decide_eq_true (Nat.pos_of_ne_zero fun z => dis p hp 0 (List.mem_cons_self ..) z)
theorem ixD_rest {o : List Nat} (ho : isPerm o) {p : Nat} (hp : p < o.length) {q : D → Prop} (h : q (.int (o.idxOf p : Nat))) : ixD (.int (p : Int)) (nats o ++ [.int (o.length : Nat)]) q := by
  have hi := idx_lt ho hp
  have hg := idx_getD ho hp
  refine ⟨rfl, List.all_eq_true.mpr (all_app (fun d hd => ?_) (all_cons rfl all_nil)), o.idxOf p, ⟨.int (p : Int), ?_, by simp [eqF]⟩, fun m z hm hz => ?_, h⟩
  · obtain ⟨j, _, rfl⟩ := List.mem_map.mp hd
    rfl
  · rw [List.getElem?_append_left (by rw [nats_len]; exact hi), nats_at hi, hg]
  · rw [List.getElem?_append_left (by rw [nats_len]; omega), nats_at (by omega)] at hz
    cases hz
    have : o.getD m 0 ≠ p := fun e => by
      have := perm_inj ho (i := m) (j := o.idxOf p) (by omega) hi (by rw [e, hg])
      omega
    show (((o.getD m 0 : Nat) : Int) == (p : Int)) = false
    exact beq_eq_false_iff_ne.mpr fun z => this (by omega)
end DL
set_option Elab.async false
set_option linter.all false
set_option maxRecDepth 100000
set_option maxHeartbeats 1000000
namespace DL
open PySem L2
theorem fold_max : ∀ (as : List Nat) (a : Nat), a ≤ as.foldl max a ∧ (∀ x ∈ as, x ≤ as.foldl max a) ∧ (as.foldl max a = a ∨ as.foldl max a ∈ as)
  | [], a => ⟨Nat.le_refl _, (fun _ h => by cases h), .inl rfl⟩
  | x :: as, a => by
    obtain ⟨h1, h2, h3⟩ := fold_max as (max a x)
    show a ≤ as.foldl max (max a x) ∧ (∀ y ∈ x :: as, y ≤ as.foldl max (max a x)) ∧ (as.foldl max (max a x) = a ∨ as.foldl max (max a x) ∈ x :: as)
    refine ⟨by omega, all_cons (by omega) h2, ?_⟩
    rcases h3 with h3 | h3
    · rcases Nat.le_total a x with c | c
      · exact .inr (by rw [h3, Nat.max_eq_right c]; exact List.mem_cons_self ..)
      · exact .inl (by rw [h3, Nat.max_eq_left c])
    · exact .inr (List.mem_cons_of_mem _ h3)
theorem fold_min_le : ∀ (as : List Nat) (a : Nat), as.foldl min a ≤ a
  | [], _ => Nat.le_refl _
  | x :: as, a => Nat.le_trans (fold_min_le as (min a x)) (Nat.min_le_left _ _)
theorem agr_ge : ∀ (k : Nat) (a b : List Nat), k ≤ a.length → a.take k = b.take k → k ≤ agrL a b
  | 0, _, _, _, _ => Nat.zero_le _
  | k + 1, [], _, h, _ => by simp at h
  | k + 1, x :: a, [], _, h => by cases h
  | k + 1, x :: a, y :: b, h, e => by
    rw [List.take_succ_cons, List.take_succ_cons] at e
    injection e with e1 e2
    have := agr_ge k a b (by simpa using h) e2
    show k + 1 ≤ if x = y then agrL a b + 1 else 0
    rw [if_pos e1]
    omega
theorem lt_splitT : ∀ (c : Nat) {S P : List Nat}, S < P → S.take c < P.take c ∨ (S.take c = P.take c ∧ S.drop c < P.drop c)
  | 0, S, P, h => .inr ⟨by rw [List.take_zero, List.take_zero], h⟩
  | c + 1, [], [], h => absurd h (List.not_lt_nil _)
  | c + 1, [], y :: P, _ => .inl (by rw [List.take_succ_cons]; exact List.nil_lt_cons _ _)
  | c + 1, x :: S, [], h => absurd h (List.not_lt_nil _)
  | c + 1, x :: S, y :: P, h => by
    rw [List.cons_lt_cons_iff] at h
    rw [List.take_succ_cons, List.take_succ_cons, List.cons_lt_cons_iff]
    rcases h with h | ⟨rfl, h⟩
    · exact .inl (.inl h)
    · rcases lt_splitT c h with z | ⟨z1, z2⟩
      · exact .inl (.inr ⟨rfl, z⟩)
      · exact .inr ⟨by rw [z1], z2⟩
theorem take_mono (k : Nat) {a b : List Nat} (h : a < b) : a.take k < b.take k ∨ a.take k = b.take k := by
  rcases lt_splitT k h with c | c
  · exact .inl c
  · exact .inr c.1
theorem mem_plc {w x : List Nat} {p : Nat} : p ∈ plcW w x ↔ p < w.length ∧ (w.drop p).take x.length = x := by
  unfold plcW
  rw [List.mem_filter, List.mem_range, decide_eq_true_eq]
theorem plc_nodup (w x : List Nat) : (plcW w x).Nodup := List.nodup_range.sublist List.filter_sublist
/-- two places, in the order of the tails -/
theorem two_plc {w x : List Nat} (h : 2 ≤ (plcW w x).length) : ∃ i j, i < j ∧ j < w.length ∧ (w.drop ((tOrd w).getD i 0)).take x.length = x ∧ (w.drop ((tOrd w).getD j 0)).take x.length = x := by
  have ho := tOrd_perm w
  have hl := tOrd_len w
  obtain ⟨p, q, hp, hq, hne⟩ : ∃ p q, p ∈ plcW w x ∧ q ∈ plcW w x ∧ p ≠ q := by
    have nd := plc_nodup w x
    match hL : plcW w x, h, nd with
    | p :: q :: r, _, nd => exact ⟨p, q, List.mem_cons_self .., List.mem_cons_of_mem _ (List.mem_cons_self ..), fun z => (List.nodup_cons.mp nd).1 (z ▸ List.mem_cons_self ..)⟩
  obtain ⟨p1, p2⟩ := mem_plc.mp hp
  obtain ⟨q1, q2⟩ := mem_plc.mp hq
  have ip := idx_lt ho (p := p) (by omega)
  have iq := idx_lt ho (p := q) (by omega)
  have gp := idx_getD ho (p := p) (by omega)
  have gq := idx_getD ho (p := q) (by omega)
  rcases Nat.lt_trichotomy ((tOrd w).idxOf p) ((tOrd w).idxOf q) with c | c | c
  · exact ⟨_, _, c, by omega, by rw [gp]; exact p2, by rw [gq]; exact q2⟩
  · rw [c, gq] at gp
    exact (hne gp.symm).elim
  · exact ⟨_, _, c, by omega, by rw [gq]; exact q2, by rw [gp]; exact p2⟩
/-- a text at two places: some head is as long, and it stands at that tail -/
theorem two_head {w x : List Nat} (h : 2 ≤ (plcW w x).length) : ∃ i, i < (hdsW w).length ∧ x.length ≤ (hdsW w).getD i 0 ∧ (w.drop ((tOrd w).getD i 0)).take x.length = x := by
  obtain ⟨i, j, hij, hj, h1, h2⟩ := two_plc h
  obtain ⟨a, as, e1, e2⟩ := hd_min (w := w) (low := i) (j - i - 1) (by omega)
  rw [show i + (j - i - 1) + 1 = j by omega] at e2
  have ge : x.length ≤ lcpW w ((tOrd w).getD i 0) ((tOrd w).getD j 0) := by
    refine agr_ge _ _ _ ?_ (by rw [h1, h2])
    have := congrArg List.length h1
    rw [List.length_take] at this
    omega
  have ha : (hdsW w).getD i 0 = a := by
    have := congrArg (fun L : List Nat => L[0]?) e1
    simp only [List.getElem?_cons_zero] at this
    rw [List.getElem?_take_of_lt (by omega), List.getElem?_drop] at this
    rw [List.getD_eq_getElem?_getD]
    rw [show i + 0 = i by omega] at this
    rw [this]
    rfl
  have hl := hds_len w
  refine ⟨i, by omega, ?_, h1⟩
  rw [ha]
  have := fold_min_le as a
  omega
/-- what stands at neighbours as far as they agree -/
theorem head_two {w : List Nat} {i : Nat} (hi : i < (hdsW w).length) (hp : 0 < (hdsW w).getD i 0) : let x := (w.drop ((tOrd w).getD i 0)).take ((hdsW w).getD i 0); x.length = (hdsW w).getD i 0 ∧ 2 ≤ (plcW w x).length ∧ x ∈ prtW w := by
  intro x
  have ho := tOrd_perm w
  have hl := tOrd_len w
  have hd := hds_len w
  have e := hds_at (w := w) (k := i) (by omega)
  have eg : (hdsW w).getD i 0 = lcpW w ((tOrd w).getD i 0) ((tOrd w).getD (i + 1) 0) := by rw [List.getD_eq_getElem?_getD, e]; rfl
  have l1 := agr_le (w.drop ((tOrd w).getD i 0)) (w.drop ((tOrd w).getD (i + 1) 0))
  have tk := agr_take ((hdsW w).getD i 0) (a := w.drop ((tOrd w).getD i 0)) (b := w.drop ((tOrd w).getD (i + 1) 0)) (by rw [eg]; exact Nat.le_refl _)
  have b1 := perm_lt ho (k := i) (by omega)
  have b2 := perm_lt ho (k := i + 1) (by omega)
  have ne : (tOrd w).getD i 0 ≠ (tOrd w).getD (i + 1) 0 := fun z => by
    have := perm_inj ho (by omega) (by omega) z
    omega
  have xl : x.length = (hdsW w).getD i 0 := by
    show ((w.drop _).take _).length = _
    rw [List.length_take]
    unfold lcpW at eg
    omega
  have ld : (w.drop ((tOrd w).getD i 0)).length = w.length - (tOrd w).getD i 0 := List.length_drop
  refine ⟨xl, ?_, prtW_mem.mpr ⟨(tOrd w).getD i 0, (tOrd w).getD i 0 + (hdsW w).getD i 0, by omega, by unfold lcpW at eg; omega, by rw [show (tOrd w).getD i 0 + (hdsW w).getD i 0 - (tOrd w).getD i 0 = (hdsW w).getD i 0 by omega]⟩⟩
  have m1 : (tOrd w).getD i 0 ∈ plcW w x := mem_plc.mpr ⟨by omega, by rw [xl]⟩
  have m2 : (tOrd w).getD (i + 1) 0 ∈ plcW w x := mem_plc.mpr ⟨by omega, by rw [xl]; exact tk.symm⟩
  have := List.Nodup.length_le_of_subset (l₁ := [(tOrd w).getD i 0, (tOrd w).getD (i + 1) 0]) (l₂ := plcW w x) (List.nodup_cons.mpr ⟨fun z => ne (List.mem_singleton.mp z), List.nodup_cons.mpr ⟨(fun z => by cases z), .nil⟩⟩) (fun z hz => by
    rcases List.mem_cons.mp hz with rfl | hz
    · exact m1
    · rw [List.mem_singleton.mp hz]
      exact m2)
  exact this
/-- the longest of the parts that stand at two places, so far; the first one of its length -/
def lenO : Option (List Nat) → Nat
  | none => 0
  | some x => x.length
def outO (w : List Nat) : Option (List Nat) → D
  | none => .non
  | some x => ptD w x
def bestI (w : List Nat) (L : List (List Nat)) (c : Option (List Nat)) : Prop := (∀ x ∈ L, 2 ≤ (plcW w x).length → x.length ≤ lenO c) ∧ ∀ x, c = some x → x ∈ L ∧ x ≠ [] ∧ 2 ≤ (plcW w x).length ∧ ∀ y ∈ L, 2 ≤ (plcW w y).length → y.length = x.length → y = x ∨ x < y
theorem best_nil (w : List Nat) : bestI w [] none := ⟨(fun _ h => by cases h), (fun _ h => by cases h)⟩
theorem best_step {w : List Nat} {L : List (List Nat)} {c : Option (List Nat)} {z : List Nat} (h : bestI w L c) (hz : ∀ y ∈ L, y < z) :
    bestI w (L ++ [z]) (if 1 < (plcW w z).length ∧ lenO c < z.length then some z else c) := by
  obtain ⟨h1, h2⟩ := h
  split
  · rename_i hc
    refine ⟨all_app (fun x hx h => ?_) (all_cons (fun _ => Nat.le_refl _) all_nil), fun x hx => ?_⟩
    · have := h1 x hx h
      show x.length ≤ z.length
      omega
    · cases hx
      refine ⟨List.mem_append_right _ (List.mem_singleton.mpr rfl), fun e => by rw [e] at hc; exact absurd hc.2 (Nat.not_lt_zero _), hc.1, all_app (fun y hy h e => ?_) (all_cons (fun _ _ => .inl rfl) all_nil)⟩
      have := h1 y hy h
      omega
  · rename_i hc
    refine ⟨all_app h1 (all_cons (fun h => ?_) all_nil), fun x hx => ?_⟩
    · have : ¬ lenO c < z.length := fun k => hc ⟨h, k⟩
      omega
    · obtain ⟨a1, a2, a3, a4⟩ := h2 x hx
      exact ⟨List.mem_append_left _ a1, a2, a3, all_app a4 (all_cons (fun _ _ => .inr (hz x a1)) all_nil)⟩
theorem best_all {w : List Nat} {c : Option (List Nat)} (h : bestI w (prtW w) c) : outO w c = twW w := by
  obtain ⟨h1, h2⟩ := h
  obtain ⟨_, f2, f3⟩ := fold_max (hdsW w) 0
  have top : ∀ i, i < (hdsW w).length → (hdsW w).getD i 0 ≤ lgW w := fun i hi => by
    rw [List.getD_eq_getElem?_getD, List.getElem?_eq_getElem hi]
    exact f2 _ (List.getElem_mem _)
  unfold twW
  by_cases e0 : lgW w = 0
  · rw [if_pos e0]
    cases c with
    | none => rfl
    | some x =>
      obtain ⟨a1, a2, a3, a4⟩ := h2 x rfl
      obtain ⟨i, i1, i2, i3⟩ := two_head a3
      have := top i i1
      exact (a2 (List.length_eq_zero_iff.mp (by omega))).elim
  · rw [if_neg e0]
    have hm : lgW w ∈ hdsW w := f3.resolve_left e0
    have hi := List.idxOf_lt_length_of_mem hm
    have hg : (hdsW w).getD ((hdsW w).idxOf (lgW w)) 0 = lgW w := by
      rw [List.getD_eq_getElem?_getD, List.getElem?_eq_getElem hi]
      exact List.getElem_idxOf hi
    have two := head_two (w := w) hi (by omega)
    rw [hg] at two
    obtain ⟨t1, t2, t3⟩ := two
    have ge := h1 _ t3 t2
    cases c with
    | none => exact absurd ge (by rw [t1]; show ¬ lgW w ≤ 0; omega)
    | some x =>
      obtain ⟨a1, a2, a3, a4⟩ := h2 x rfl
      obtain ⟨i, i1, i2, i3⟩ := two_head a3
      have le := top i i1
      have ge : ((w.drop ((tOrd w).getD ((hdsW w).idxOf (lgW w)) 0)).take (lgW w)).length ≤ x.length := ge
      have ex : x.length = lgW w := by omega
      have hi2 : (hdsW w).idxOf (lgW w) ≤ i := by
        refine Nat.not_lt.mp fun z => ?_
        have eq : (hdsW w)[i] = lgW w := by
          have : (hdsW w).getD i 0 = (hdsW w)[i] := by rw [List.getD_eq_getElem?_getD, List.getElem?_eq_getElem i1]; rfl
          omega
        have hf := List.not_of_lt_findIdx (p := fun a => a == lgW w) (xs := hdsW w) z
        have ht : ((hdsW w)[i] == lgW w) = true := by rw [eq]; exact beq_self_eq_true _
        exact absurd (hf.symm.trans ht) (by decide)
      show ptD w x = ptD w (twP w)
      have ep : twP w = x := by
        unfold twP
        rcases a4 _ t3 t2 (by rw [t1, ex]) with e | lt
        · exact e
        · exfalso
          rcases Nat.lt_or_eq_of_le hi2 with c | c
          · have hd := hds_len w
            rcases take_mono (lgW w) (to_lt (w := w) c (by omega)) with k | k
            · rw [← ex, i3] at k
              rw [← ex] at lt
              exact List.lt_irrefl _ (List.lt_trans lt k)
            · rw [← ex, i3] at k
              rw [← ex, k] at lt
              exact List.lt_irrefl _ lt
          · rw [c, ← ex, i3] at lt
            exact List.lt_irrefl _ lt
      rw [ep]
end DL
set_option Elab.async false
set_option linter.all false
set_option maxRecDepth 100000
set_option maxHeartbeats 1000000
namespace DL
open PySem L2
def d_each_part : GSpD stg := fun ds g q => ∃ w : List Nat, ds = [.str w] ∧ w.length ≤ 1000 ∧ q (txts (prtW w)) g
/-- the places at which a text stands, in the order of the tails -/
def plaW (w p : List Nat) : List Nat := (tOrd w).filter fun i => decide ((w.drop i).take p.length = p)
def d_each_place : GSpD stg := fun ds g q => ∃ w p : List Nat, ds = [.str w, .str p] ∧ w.length ≤ 1000 ∧ p.length ≤ 1000 ∧ q (nats (plaW w p)) g
def d_places_of : DSp stg := fun ds g q _ => ∃ w p : List Nat, ds = [.str w, .str p] ∧ w.length ≤ 1000 ∧ p.length ≤ 1000 ∧ q (.tup (nats (plcW w p))) g
def d_l_pattern_right : DSp stg := fun ds g q _ => ∃ w p : List Nat, ds = [.str w, .tup (nats (tOrd w)), .lst (txts (prtW w)), .str p] ∧ 1 ≤ w.length ∧ w.length ≤ 24 ∧ 1 ≤ p.length ∧ p.length ≤ 24 ∧ q (.bl true) g
end DL
set_option Elab.async false
set_option linter.all false
set_option maxRecDepth 100000
set_option maxHeartbeats 1000000
namespace DL
open PySem L2
section
variable {M : Ghost} {gw : GW} {wb : YW M}
theorem forY_inv (I : Nat → List D → DEnv → M.G → Prop) (k : Y3 M) : ∀ (xs : List D) (n : Nat) {ds : List D} {ρ : DEnv} {g : M.G}, I n ds ρ g →
    (∀ (i : Nat) d ds ρ g (K : List D → DEnv → M.G → Prop), xs[i]? = some d → I (n + i) ds ρ g → (∀ ds ρ g, I (n + i + 1) ds ρ g → K ds ρ g) → gw d ρ fun ρ' => wb { nx := K, bk := k.nx, ct := K } ds ρ' g) →
    (∀ ds ρ g, I (n + xs.length) ds ρ g → k.nx ds ρ g) → forY gw wb xs k ds ρ g
  | [], n, ds, ρ, g, h0, _, he => he ds ρ g h0
  | x :: xs, n, ds, ρ, g, h0, hs, he =>
    hs 0 x ds ρ g _ rfl h0 fun ds' ρ' g' h => forY_inv I k xs (n + 1) h (fun i d ds ρ g K e hI hK => hs (i + 1) d ds ρ g K e (by rw [show n + (i + 1) = n + 1 + i by omega]; exact hI) (by rw [show n + (i + 1) + 1 = n + 1 + i + 1 by omega]; exact hK))
      (fun ds ρ g h => he ds ρ g (by rw [List.length_cons, show n + (xs.length + 1) = n + 1 + xs.length by omega]; exact h))
theorem forY_word (I : Nat → List D → DEnv → M.G → Prop) (xs : List D) {k : Y3 M} {ds : List D} {ρ : DEnv} {g : M.G} (h0 : I 0 ds ρ g)
    (hs : ∀ (i : Nat) d ds ρ g (K : List D → DEnv → M.G → Prop), xs[i]? = some d → I i ds ρ g → (∀ ds ρ g, I (i + 1) ds ρ g → K ds ρ g) → gw d ρ fun ρ' => wb { nx := K, bk := k.nx, ct := K } ds ρ' g)
    (he : ∀ ds ρ g, I xs.length ds ρ g → k.nx ds ρ g) : forY gw wb xs k ds ρ g :=
  forY_inv I k xs 0 h0 (fun i d ds ρ g K e h K1 => hs i d ds ρ g K e (by rw [Nat.zero_add] at h; exact h) (by rw [Nat.zero_add] at K1; exact K1)) (fun ds ρ g h => he ds ρ g (by rw [Nat.zero_add] at h; exact h))
end
theorem shp_lstN (a : List Nat) : shp (.lst (nats a)) = true := (sh_lst (sh_nats a)).ok (by decide)
theorem seqP {M : Ghost} {A B : SW M} {k : K3 M} {ρ : DEnv} {g : M.G} (Mid : DEnv → M.G → Prop) (hB : ∀ ρ g, Mid ρ g → B k ρ g) (hA : ∀ X : DEnv → M.G → Prop, (∀ ρ g, Mid ρ g → X ρ g) → A { k with nx := X } ρ g) : wSeq A B k ρ g := hA _ hB
section
variable {α : Type}
theorem fil_none {P : α → Bool} : ∀ {L : List α}, (∀ y ∈ L, P y = false) → L.filter P = [] ∧ L.countP P = 0 ∧ L.filter (fun x => !P x) = L
  | [], _ => ⟨rfl, rfl, rfl⟩
  | x :: L, h => by
    have hx := h x List.mem_cons_self
    obtain ⟨h1, h2, h3⟩ := fil_none (L := L) fun y hy => h y (List.mem_cons_of_mem _ hy)
    refine ⟨by rw [List.filter_cons_of_neg (by simp [hx]), h1], by rw [List.countP_cons_of_neg (by simp [hx]), h2], by rw [List.filter_cons_of_pos (by simp [hx]), h3]⟩
theorem fil_cut {P : α → Bool} : ∀ {L : List α}, L.Pairwise (fun x y => P y = true → P x = true) → L.filter P = L.take (L.countP P) ∧ L.filter (fun x => !P x) = L.drop (L.countP P)
  | [], _ => ⟨rfl, rfl⟩
  | x :: L, h => by
    obtain ⟨h1, h2⟩ := List.pairwise_cons.mp h
    by_cases c : P x = true
    · obtain ⟨e1, e2⟩ := fil_cut h2
      rw [List.filter_cons_of_pos c, List.countP_cons_of_pos c, List.take_succ_cons, List.drop_succ_cons, List.filter_cons_of_neg (by simp [c]), e1, e2]
      exact ⟨rfl, rfl⟩
    · have c' : P x = false := by simpa using c
      have all_ : ∀ y ∈ x :: L, P y = false := all_cons c' fun y hy => by
        cases z : P y with
        | false => rfl
        | true => rw [h1 y hy z] at c'; cases c'
      obtain ⟨a1, a2, a3⟩ := fil_none all_
      rw [a1, a2, a3]
      exact ⟨rfl, rfl⟩
end
theorem lst_tri (a b : List Nat) : a < b ∨ a = b ∨ b < a := by
  by_cases c : a < b
  · exact .inl c
  · rcases List.le_iff_lt_or_eq.mp (List.not_lt.mp c) with k | k
    · exact .inr (.inr k)
    · exact .inr (.inl k.symm)
theorem lt_of_take {t p : List Nat} (h : t.take p.length < p) : t < p := by
  rcases lst_tri t p with c | c | c
  · exact c
  · rw [c, List.take_length] at h
    exact (List.lt_irrefl _ h).elim
  · rcases take_mono p.length c with k | k
    · rw [List.take_length] at k
      exact (List.lt_irrefl _ (List.lt_trans k h)).elim
    · rw [List.take_length] at k
      rw [← k] at h
      exact (List.lt_irrefl _ h).elim
theorem to_pair (w : List Nat) : (tOrd w).Pairwise fun a b => w.drop a < w.drop b := (tOrd_is w).2
theorem low_eq (w p : List Nat) : (tOrd w).countP (fun i => decide (w.drop i < p)) = lowW w p := by
  unfold lowW tailsW
  rw [List.countP_map]
  rfl
theorem many_eq (w p : List Nat) : (tOrd w).countP (fun i => decide ((w.drop i).take p.length = p)) = manyW w p := by
  unfold manyW tailsW
  rw [List.countP_map]
  rfl
theorem not_less_pre {t x : List Nat} (h : t.take x.length = x) : ¬ t < x := fun z => by
  by_cases c : x.length < t.length
  · have := take_lt_self x.length c
    rw [h] at this
    exact lt_asymmL z this
  · rw [List.take_of_length_le (by omega)] at h
    rw [h] at z
    exact List.lt_irrefl _ z
theorem low_cut (w p : List Nat) : (tOrd w).filter (fun i => decide (w.drop i < p)) = (tOrd w).take (lowW w p) ∧ (tOrd w).filter (fun i => !decide (w.drop i < p)) = (tOrd w).drop (lowW w p) := by
  have := fil_cut (P := fun i => decide (w.drop i < p)) (L := tOrd w) ((to_pair w).imp fun {a b} h z => decide_eq_true (List.lt_trans h (of_decide_eq_true z)))
  rw [low_eq] at this
  exact this
theorem pla_eq (w p : List Nat) : plaW w p = ((tOrd w).drop (lowW w p)).take (manyW w p) := by
  rw [← (low_cut w p).2]
  have pw : ((tOrd w).filter (fun i => !decide (w.drop i < p))).Pairwise (fun x y => (fun i => decide ((w.drop i).take p.length = p)) y = true → (fun i => decide ((w.drop i).take p.length = p)) x = true) := by
    refine List.Pairwise.imp_of_mem (fun {a b} ha hb hab z => ?_) ((to_pair w).sublist List.filter_sublist)
    have z := of_decide_eq_true z
    have na := (List.mem_filter.mp ha).2
    have na : ¬ w.drop a < p := by simpa using na
    refine decide_eq_true ?_
    rcases take_mono p.length hab with k | k
    · rw [z] at k
      exact (na (lt_of_take k)).elim
    · rw [k, z]
  obtain ⟨e, _⟩ := fil_cut pw
  have ef : ((tOrd w).filter (fun i => !decide (w.drop i < p))).filter (fun i => decide ((w.drop i).take p.length = p)) = plaW w p := by
    rw [List.filter_filter]
    unfold plaW
    refine List.filter_congr fun i _ => ?_
    by_cases c : (w.drop i).take p.length = p
    · rw [decide_eq_true c, decide_eq_false (not_less_pre c)]
      rfl
    · rw [decide_eq_false c]
      rfl
  rw [ef] at e
  have ec : ((tOrd w).filter (fun i => !decide (w.drop i < p))).countP (fun i => decide ((w.drop i).take p.length = p)) = manyW w p := by
    rw [← many_eq, List.countP_eq_length_filter, ef, List.countP_eq_length_filter]
    rfl
  rw [ec] at e
  exact e
theorem pla_len (w p : List Nat) : (plaW w p).length = manyW w p := by
  rw [← many_eq, List.countP_eq_length_filter]
  rfl
theorem more_eq {w p : List Nat} (h : manyW w p = 0) : (tOrd w).filter (fun i => decide (p < w.drop i)) = (tOrd w).drop (lowW w p) := by
  rw [← (low_cut w p).2]
  have hn : ∀ i ∈ tOrd w, ¬ (w.drop i).take p.length = p := fun i hi z => by
    rw [← many_eq, List.countP_eq_zero] at h
    exact h i hi (decide_eq_true z)
  refine List.filter_congr fun i hi => ?_
  by_cases c : w.drop i < p
  · rw [decide_eq_true c, decide_eq_false (lt_asymmL c)]
    rfl
  · rw [decide_eq_false c]
    rcases lst_tri (w.drop i) p with k | k | k
    · exact (c k).elim
    · exact (hn i hi (by rw [k, List.take_length])).elim
    · rw [decide_eq_true k]
      rfl
/-- the places, sorted, are the places from the left -/
theorem pla_sorted {w p ys : List Nat} (h : ys.Perm (plaW w p)) (s : ys.Pairwise (· ≤ ·)) : ys = plcW w p := by
  have p1 : (plaW w p).Perm (plcW w p) := by
    unfold plaW plcW
    exact ((tOrd_is w).1).filter _
  refine List.Perm.eq_of_pairwise (le := (· ≤ ·)) (fun a b _ _ h1 h2 => Nat.le_antisymm h1 h2) s ?_ (h.trans p1)
  unfold plcW
  exact List.pairwise_le_range.sublist List.filter_sublist
theorem plc_len (w p : List Nat) : (plcW w p).length = manyW w p := by
  have p1 : (plaW w p).Perm (plcW w p) := by
    unfold plaW plcW
    exact ((tOrd_is w).1).filter _
  rw [← p1.length_eq, pla_len]
theorem plc_prt {w p : List Nat} (hp : 1 ≤ p.length) : 0 < manyW w p ↔ p ∈ prtW w := by
  rw [← plc_len]
  have ne : p ≠ [] := fun z => by rw [z] at hp; exact absurd hp (by decide)
  constructor
  · intro h
    obtain ⟨i, hi⟩ := List.exists_mem_of_length_pos h
    obtain ⟨h1, h2⟩ := mem_plc.mp hi
    have := congrArg List.length h2
    rw [List.length_take, List.length_drop] at this
    exact prtW_mem.mpr ⟨i, i + p.length, by omega, by omega, by rw [Nat.add_sub_cancel_left]; exact h2.symm⟩
  · intro h
    obtain ⟨b, e, h1, h2, h3⟩ := prtW_mem.mp h
    have := congrArg List.length h3
    rw [List.length_take, List.length_drop] at this
    exact List.length_pos_of_mem (mem_plc.mpr ⟨show b < w.length by omega, by rw [show p.length = e - b by omega]; exact h3.symm⟩)
/-- no part that stands at two places is longer than the greatest head -/
theorem two_le {w x : List Nat} (h : 2 ≤ (plcW w x).length) : x.length ≤ lgW w := by
  obtain ⟨i, i1, i2, _⟩ := two_head h
  obtain ⟨_, f2, _⟩ := fold_max (hdsW w) 0
  have : (hdsW w).getD i 0 ≤ lgW w := by
    rw [List.getD_eq_getElem?_getD, List.getElem?_eq_getElem i1]
    exact f2 _ (List.getElem_mem _)
  omega
theorem tw_len {w : List Nat} (h : lgW w ≠ 0) : (twP w).length = lgW w := by
  obtain ⟨_, f2, f3⟩ := fold_max (hdsW w) 0
  have hm : lgW w ∈ hdsW w := f3.resolve_left h
  have hi := List.idxOf_lt_length_of_mem hm
  have hg : (hdsW w).getD ((hdsW w).idxOf (lgW w)) 0 = lgW w := by
    rw [List.getD_eq_getElem?_getD, List.getElem?_eq_getElem hi]
    exact List.getElem_idxOf hi
  have two := head_two (w := w) hi (by omega)
  rw [hg] at two
  exact two.1
/-- the parts of the first tails -/
def prtU (w : List Nat) (i : Nat) : List (List Nat) := ((newW w).take i).flatMap fun x => begW x.1 x.2
theorem prtU_all (w : List Nat) : prtU w (newW w).length = prtW w := by
  unfold prtU
  rw [List.take_length]
  rfl
theorem prtU_step {w : List Nat} {i : Nat} {x : List Nat × Nat} (h : (newW w)[i]? = some x) : prtU w (i + 1) = prtU w i ++ begW x.1 x.2 := by
  unfold prtU
  rw [List.take_succ, h, List.flatMap_append]
  show _ ++ List.flatMap _ [x] = _
  rw [List.flatMap_singleton]
end DL
set_option Elab.async false
set_option linter.all false
set_option maxRecDepth 100000
set_option maxHeartbeats 4000000
namespace LW
open PySem L2 DL
def topS (i : Nat) : Stmt := PySem.Challenge.pw_tailranks_k56_whole_parts_are_found.main.body.getD i (.Pass ⟨0, 0, 0, 0⟩)
abbrev sStream : Stmt := topS 21
abbrev sDraw : Stmt := topS 22
theorem scStream : FnScope ["_law_script", "_law_cells", "_law_cell"] ["_law_script"] (defScope sStream) := ⟨rfl, rfl, rfl, by decide +kernel, rfl, by decide +kernel, by decide +kernel⟩
section
variable {P : Program} {w : World} {K : PySem.W.Frag} {mg : Str → Option Value} {base : Heap}
theorem ok_stream {f : Addr} {fd : FuncData} (F : Fun K "_law_stream" "_law_stream" sStream f fd) (ml : mg "len" = none) (ma : mg "abs" = none) : FnG P w K mg base 1 f fd ["_law_script"] (spStream K) := by
  refine fng_of F scStream (fun vs H Q E h => ?_) (fun cdv A outer s H vs Q E hr hgd h => ?_)
  · obtain ⟨a, ns, rfl, _⟩ := h
    rfl
  · obtain ⟨a, ns, rfl, hS, hlen, hQ⟩ := h
    refine ⟨_, PSs.nox (pss_cons (ps_setLc (i := 1) (own := [("_law_cell", 2)]) (g := gName 2) (tt := tYes) rfl scStream.nd rfl rfl (sw_true rfl rfl rfl (by decide +kernel)) (pi_list (pv 0))
        (blkOk_by (own := [("_law_cell", 2)]) (N := ["_law_script", "_law_cells", "_law_cell"]) (sc := defScope sStream) (by decide +kernel)) (fun _ _ _ _ _ => pg_name (i := 2) scStream.nd rfl (Or.inl rfl)) (fun _ _ _ _ _ => pts_nil)
        (fun _ _ _ _ _ => pe_callB call_abs (by rfl) ma (by decide +kernel) (pa_cons (pv 2) pa_nil)))
      (pss_one (ps_ret (pe_lst (pa_cons (pe_lc (own := [("_law_cell", 2)]) (g := gName 2) (tt := _) rfl scStream.nd (pi_list (pv 1))
          (blkOk_by (own := [("_law_cell", 2)]) (N := ["_law_script", "_law_cells", "_law_cell"]) (sc := defScope sStream) (by decide +kernel)) (fun _ _ _ _ _ => pg_name (i := 2) scStream.nd rfl (Or.inl rfl))
          (fun _ _ _ _ _ => pts_one (pt_cmpR op_ge (pv 2) (pe_op op_pow pe_int pe_int) (nomark _))) (fun _ _ _ _ _ => pv 2))
        (pa_cons (pe_op op_cat (pv 1) (pe_lst (pa_cons (pe_op op_add (pe_callB call_len_seq (by rfl) ml PySem.boot_len (pa_cons (pv 1) pa_nil)) pe_int) pa_nil))) (pa_cons pe_int pa_nil))))))), ?_⟩
    -- _law_cells
    refine ⟨.ref a, rfl, a, rfl, ⟨_, hS⟩, fun D hD => ?_⟩
    have hAD : ∀ o, H a = some o → a ≠ D := fun o e => ne_of_none e hD
    refine lc_list (K := K) (a := a) (xs := ns.map V.int) (fun i H1 => Same H H1 ∧ H1 D = some (.lst ((ns.take i).map fun n => V.int (if n < 0 then -n else n)))) ⟨same_new hD, upd_same⟩ (fun i H1 _ h => h.1.seq hS) (fun i x H1 hx h => ?_) (fun H1 h => ?_)
    · obtain ⟨j, rfl, hj⟩ := map_int_get hx
      refine ⟨rfl, iteT (B := Same H H1 ∧ H1 D = some (.lst ((ns.take (i + 1)).map fun n => V.int (if n < 0 then -n else n)))) ?_⟩
      refine ⟨.int j, rfl, j, rfl, _, h.2, ?_, ?_, ?_⟩
      · rw [List.length_map, List.length_take]
        exact Nat.lt_of_le_of_lt (Nat.min_le_right _ _) (small1000 (by omega))
      · intro b o e
        rw [upd_ne (show b ≠ D from ne_of_none e hD)]
        exact h.1 _ _ e
      · rw [upd_same, List.take_add_one, hj, List.map_append]
        rfl
    · obtain ⟨sm, hD1⟩ := h
      rw [List.length_map, List.take_length] at hD1
      generalize hcl : ns.map (fun n => if n < 0 then -n else n) = cells at hD1
      have hD2 : H1 D = some (.lst (cells.map V.int)) := by rw [hD1, ← hcl, List.map_map]; rfl
      have clen : cells.length = ns.length := by rw [← hcl, List.length_map]
      -- the large cells
      refine ⟨.ref D, rfl, D, rfl, ⟨_, .of hD2⟩, fun D2 hD3 => ?_⟩
      have dne : D ≠ D2 := ne_of_none hD2 hD3
      refine lc_list (K := K) (a := D) (xs := cells.map V.int) (fun i H2 => Same H1 H2 ∧ ∃ L : List Int, L.length ≤ i ∧ H2 D2 = some (.lst (L.map V.int))) ⟨same_new hD3, [], Nat.le_refl _, upd_same⟩ (fun i H2 _ h => .of (h.1 _ _ hD2)) (fun i x H2 hx h => ?_) (fun H2 h => ?_)
      · obtain ⟨sm2, L, hl, hL⟩ := h
        obtain ⟨j, rfl, hj⟩ := map_int_get hx
        have hi : i < cells.length := (List.getElem?_eq_some_iff.mp hj).1
        refine ⟨rfl, .int j, rfl, 10, 18, rfl, rfl, ⟨by decide, by decide, by decide⟩, j, _, rfl, rfl, _, rfl, ite2 (fun _ => ?_) (fun _ => ?_)⟩
        · refine ⟨.int j, rfl, _, hL, ?_, ?_, L ++ [j], ?_, ?_⟩
          · rw [List.length_map]
            exact small1000 (by omega)
          · intro b o e
            rw [upd_ne (show b ≠ D2 from ne_of_none e hD3)]
            exact sm2 _ _ e
          · rw [List.length_append, List.length_singleton]
            omega
          · rw [upd_same, List.map_append]
            rfl
        · exact ⟨sm2, L, by omega, hL⟩
      · obtain ⟨sm2, L, hl, hL⟩ := h
        have hD4 := sm2 _ _ hD2
        -- all cells
        refine ⟨.ref D, rfl, .ref D, rfl, D, _, rfl, .inl (.of hD4), _, 29, rfl, rfl, by show 1 ≤ sizeLine; decide, fun p np => ?_⟩
        have pD : D ≠ p := ne_of_none hD4 np
        have pD2 : D2 ≠ p := ne_of_none hL np
        refine ⟨D, p, _, _, rfl, rfl, (upd_ne pD).trans hD4, upd_same, ?_, fun c nc => ?_⟩
        · rw [List.length_map, clen]
          exact Nat.le_of_lt (small1000 (by show ns.length + 1 ≤ 1000; omega))
        have cD : D ≠ c := ne_of_none ((upd_ne pD).trans hD4) nc
        have cD2 : D2 ≠ c := ne_of_none ((upd_ne pD2).trans hL) nc
        have cp : p ≠ c := ne_of_none (o := .lst [V.int (((cells.map V.int).length : Nat) + 29)]) upd_same nc
        refine ⟨by show 3 ≤ sizeLine; decide, fun q nq => ?_⟩
        have sm3 := ((sm.trans sm2).trans (same_new (o := .lst [V.int (((cells.map V.int).length : Nat) + 29)]) np)).trans (same_new (o := .lst (cells.map V.int ++ [V.int (((cells.map V.int).length : Nat) + 29)])) nc)
        have hLc := (upd_ne (o := .lst (cells.map V.int ++ [V.int (((cells.map V.int).length : Nat) + 29)])) cD2).trans ((upd_ne (o := .lst [V.int (((cells.map V.int).length : Nat) + 29)]) pD2).trans hL)
        have q2 : D2 ≠ q := ne_of_none hLc nq
        have qc : c ≠ q := ne_of_none (o := .lst (cells.map V.int ++ [V.int (((cells.map V.int).length : Nat) + 29)])) upd_same nq
        refine hQ _ q D2 c L (cells ++ [(((cells.map V.int).length : Nat) : Int) + 29]) (sm3.trans (same_new nq)) (sm3.free nq) (sm.free hD3) ((sm.trans sm2).free ((same_new np).free nc)) (Ne.symm q2) (Ne.symm qc) cD2 upd_same ((upd_ne q2).trans hLc) ((upd_ne qc).trans ?_) (by simp)
        rw [upd_same, List.map_append]
        rfl
end
theorem scDraw : FnScope ["_law_stream_here", "_law_many", "_law_rest", "_law_turn", "_law_cell", "_law_mixed"] ["_law_stream_here", "_law_many"] (defScope sDraw) := ⟨rfl, rfl, rfl, by decide +kernel, rfl, by decide +kernel, by decide +kernel⟩
section
variable {P : Program} {w : World} {K : PySem.W.Frag} {mg : Str → Option Value} {base : Heap}
theorem ok_draw {f : Addr} {fd : FuncData} (F : Fun K "_law_draw" "_law_draw" sDraw f fd) (ml : mg "len" = none) : FnG P w K mg base 1 f fd ["_law_stream_here", "_law_many"] (liftSp K mg 2 dDraw) := by
  refine fng_of F scDraw (fun vs H Q E h => ?_) (fun cdv A outer s H vs Q E hr hgd h => ?_)
  · obtain ⟨W, ds, q, ex, _, _, r, hl, _⟩ := h
    rw [r.length, hl]
    rfl
  · obtain ⟨W, ds, q, ex, rfl, ok, r, hl, ⟨many, rfl, hm0, hm1, hg, hq⟩, hQ, hE⟩ := h
    have hml : many.natAbs.log2 < 9000 := Nat.lt_of_lt_of_le ((Nat.log2_lt (k := 60) (by omega)).mpr (by omega)) (by decide)
    have hu : (A.deeper (PyProof.Rows.envOfC "_law_draw" (defScope sDraw) s.heap.objs.size f cdv)).units + 64 < cLine := hr.units
    refine ⟨_, PSs.nox (pss_cons (ps_while PassesOwn.never (pt_cmpR (op_neD hu) (pe_ix ix_list (pv 0) pe_int (fun _ _ => rfl)) (pe_lst pa_nil) (nomark _))
        (pss_cons (ps_set (i := 2) scDraw.nd rfl (.inl rfl) (pe_ix ix_list (pe_ix ix_list (pv 0) pe_int (fun _ _ => rfl)) pe_int (fun _ _ => rfl)))
        (pss_cons (ps_if (pt_cmpR op_gt (pv 2) pe_int (nomark _))
          (pss_cons (ps_asg (pe_op op_fdivW (pv 2) (pv 1)) (pg_sub (pe_ix ix_list (pv 0) pe_int (fun _ _ => rfl)) pe_int set_list)) (pss_one (ps_ret (pe_op op_mod (pv 2) (pv 1))))) pss_nil)
        (pss_one (ps_expr (pe_bm PySem.F.plainAttrs_list PySem.F.slot_list_pop PySem.F.type_list_pop mt_popAt (pe_ix ix_list (pv 0) pe_int (fun _ _ => rfl)) (pa_cons pe_int pa_nil)))))))
      (pss_cons (ps_set (i := 3) scDraw.nd rfl (.inl rfl) (pe_op op_add (pe_ix ix_list (pv 0) pe_int (fun _ _ => rfl)) pe_int))
      (pss_cons (ps_asg (pv 3) (pg_sub (pv 0) pe_int set_list))
      (pss_cons (ps_set (i := 4) scDraw.nd rfl (.inl rfl) (pe_op op_mod (pe_ix ix_list (pe_ix ix_list (pv 0) pe_int (fun _ _ => rfl)) (pe_op op_mod (pv 3) (pe_callB call_len_seq (by rfl) ml PySem.boot_len (pa_cons (pe_ix ix_list (pv 0) pe_int (fun _ _ => rfl)) pa_nil))) (fun _ _ => rfl)) pe_int))
      (pss_cons (ps_set (i := 5) scDraw.nd rfl (.inl rfl) (pe_op op_mod (pe_op op_add (pe_op op_add (pe_op op_mul (pv 4) (pe_op op_add pe_int (pe_op op_mul pe_int (pv 3)))) (pe_op op_mul (pe_op op_mul pe_int (pv 3)) (pv 3))) pe_int) pe_int))
      (pss_one (ps_ret (pe_op op_mod (pe_op op_fdiv (pe_op op_mod (pe_op op_mul (pv 5) (pv 5)) pe_int) pe_int) (pv 1))))))))), ?_⟩
    obtain ⟨a, b, c, L, cs, m, h1, h2, h3, h4, h5, h6, h7, h8, h9⟩ := ok.gh.2 (Nat.le_trans (Nat.le_succ _) hg)
    obtain ⟨va, vm, rfl, ra, rm⟩ : ∃ va vm, vs = [va, vm] ∧ Rp K W.F W.R va (.ob 0) ∧ Rp K W.F W.R vm (.int many) := by
      cases r with
      | cons x t =>
        cases t with
        | cons y t =>
          cases t
          exact ⟨_, _, rfl, x, y⟩
    cases rm
    obtain rfl : va = .ref a := by
      cases ra with
      | ob e => rw [h1] at e; cases e; rfl
    have d0 : DrawAt K W W a b c L cs m := ⟨Go.refl W, ok, rfl, h1, h2, h3, h4, h5, h6, h7, h8, h9⟩
    refine ⟨fun n σ H => ∃ (W1 : Wd stg) (L : List Int) (y : Option V), W1.H = H ∧ n = L.length ∧ σ = [some (.ref a), some (.int many), y, none, none, none] ∧ DrawAt K W W1 a b c L cs m, ⟨_, W, L, none, rfl, rfl, rfl, d0⟩, ?_⟩
    rintro n σ H ⟨W1, L1, y, rfl, rfl, rfl, d⟩
    -- _law_stream_here[0] != []
    refine ⟨.ref a, rfl, a, _, 0, .ref b, rfl, rfl, .of d.ha, atI_nat (j := 0) rfl, Nat.zero_le _, fun p np => ?_⟩
    have d1 := d.new (o := .lst []) np
    have e1 : Dp K (upd W1.H p (.lst [])) (.ref b) (.list (L1.map PyData.int)) := .lst (.of d1.hb) (by
      clear d1 d
      induction L1 with
      | nil => exact .nil
      | cons x r ih => exact .cons (.int x) ih)
    have sh : SeqAt.shaped (.list (L1.map PyData.int)) = true := by
      have c1 : ∀ L : List Int, PyData.canLayAll0 (L.map PyData.int) = true := fun L => by
        induction L with
        | nil => rfl
        | cons x r ih => simp [PyData.canLayAll0, PyData.canLay0, ih]
      have c2 : ∀ L : List Int, PyData.depthAll (L.map PyData.int) = 0 := fun L => by
        induction L with
        | nil => rfl
        | cons x r ih => simp [PyData.depthAll, PyData.depth, ih]
      simp [SeqAt.shaped, PyData.canLay0, PyData.depth, c1, c2]
    refine ⟨.list (L1.map PyData.int), .list [], e1, .lst (.of upd_same) .nil, sh, by decide, _, rfl, ?_⟩
    cases L1 with
    | nil =>
      refine iteF ?_
      -- _law_turn = _law_stream_here[2] + 1
      refine ⟨.ref a, rfl, a, _, 2, .int m, rfl, rfl, .of d1.ha, atI_nat (j := 2) rfl, m, 1, rfl, rfl, ?_⟩
      -- _law_stream_here[2] = _law_turn
      refine ⟨.int (m + 1), rfl, .ref a, rfl, a, _, 2, 2, rfl, rfl, d1.ha, rfl, ?_⟩
      have hra : a ∈ (W1.new p (.lst [])).R := List.mem_of_getElem? d1.r0
      have hcn : c ≠ a := fun z => by
        have := d1.ok.rf a hra
        rw [← z, d1.hc] at this
        cases this
      have hc1 := d1.ok.sub _ _ d1.hc
      have go2 : Go W ((W1.new p (.lst [])).reg a (.lst [.ref b, .ref c, .int (m + 1)]) (W.g + 1)) := d1.go.trans (Go.reg' hra)
      have ok2 : Wok K ((W1.new p (.lst [])).reg a (.lst [.ref b, .ref c, .int (m + 1)]) (W.g + 1)) := by
        refine d1.ok.reg hra ⟨d1.ok.gh.1, fun hn => ⟨a, b, c, [], cs, m + 1, d1.r0, d1.r1, d1.ne, upd_same, (upd_ne d1.ne.symm).trans d1.hb, d1.hc, by have := d1.m0; omega, ?_, d1.cs0⟩⟩
        show m + 1 ≤ ((W.g : Nat) : Int) + 1
        have := d1.mn
        exact Int.add_le_add_right this 1
      have hA : (upd (upd W1.H p (.lst [])) a (.lst [.ref b, .ref c, .int (m + 1)])) a = some (.lst [.ref b, .ref c, .int (m + 1)]) := upd_same
      have hC : (upd (upd W1.H p (.lst [])) a (.lst [.ref b, .ref c, .int (m + 1)])) c = some (.lst (cs.map V.int)) := (upd_ne hcn).trans hc1
      have hm : m + 1 ≤ 2 ^ 60 := by
        have h1 := d1.mn
        have h2 : ((W.g : Nat) : Int) + 1 ≤ 2 ^ 60 := by
          have : ((W.g + 1 : Nat) : Int) ≤ ((2 ^ 60 : Nat) : Int) := Int.ofNat_le.mpr hg
          exact this
        omega
      have hm0' := d1.m0
      have clen : 0 < ((cs.map V.int).length : Int) := by
        rw [List.length_map]
        cases cs with
        | nil => exact absurd rfl d1.cs0
        | cons x r => rw [List.length_cons]; omega
      have ilt := Int.emod_lt_of_pos (m + 1) clen
      have ige := Int.emod_nonneg (m + 1) (show ((cs.map V.int).length : Int) ≠ 0 by omega)
      obtain ⟨j, hj⟩ := Int.eq_ofNat_of_zero_le ige
      have jlt : j < cs.length := by
        rw [List.length_map] at ilt
        rw [List.length_map] at hj
        omega
      have c0 := Int.emod_nonneg cs[j] (show (2147483587 : Int) ≠ 0 by decide)
      have c1 := Int.emod_lt_of_pos cs[j] (show (0 : Int) < 2147483587 by decide)
      have e64 : (2 : Int) ^ 64 = 18446744073709551616 := by decide
      have e60 : (2 : Int) ^ 60 = 1152921504606846976 := by decide
      have hix : atI (cs.map V.int) ((m + 1) % ((cs.map V.int).length : Int)) = some (.int cs[j]) := by
        rw [hj]
        exact atI_nat (by rw [List.getElem?_map, List.getElem?_eq_getElem jlt]; rfl)
      have c2 : -(2 ^ 64) < cs[j] % 2147483587 ∧ cs[j] % 2147483587 < 2 ^ 64 := ⟨by omega, by omega⟩
      have c3 : -(2 ^ 64) < m + 1 ∧ m + 1 < 2 ^ 64 := ⟨by omega, by omega⟩
      have d64 : ∀ y : Int, -(2 ^ 64) < y % 2147483647 ∧ y % 2147483647 < 2 ^ 64 := fun y => by
        have a1 := Int.emod_nonneg y (show (2147483647 : Int) ≠ 0 by decide)
        have a2 := Int.emod_lt_of_pos y (show (0 : Int) < 2147483647 by decide)
        exact ⟨by omega, by omega⟩
      -- _law_cell
      refine ⟨.ref a, rfl, a, _, 1, .ref c, rfl, rfl, .of hA, atI_nat (j := 1) rfl, .int (m + 1), rfl, .ref a, rfl, a, _, 1, .ref c, rfl, rfl, .of hA, atI_nat (j := 1) rfl, c, cs.map V.int, rfl, .inl (.of hC), ?_⟩
      refine ⟨m + 1, _, rfl, rfl, clen, c, cs.map V.int, _, .int cs[j], rfl, rfl, .of hC, hix, ?_⟩
      refine ⟨cs[j], 2147483587, rfl, rfl, (by decide : (0 : Int) < 2147483587), ?_⟩
      -- _law_mixed
      refine ⟨.int (cs[j] % 2147483587), rfl, .int (m + 1), rfl, _, m + 1, rfl, rfl, .inl ⟨by decide, by decide⟩, _, _, rfl, rfl, cs[j] % 2147483587, _, rfl, rfl, .inl c2, ?_⟩
      refine ⟨.int (m + 1), rfl, _, m + 1, rfl, rfl, .inl ⟨by decide, by decide⟩, .int (m + 1), rfl, _, m + 1, rfl, rfl, .inr c3, _, _, rfl, rfl, _, _, rfl, rfl, _, 2147483647, rfl, rfl, (by decide : (0 : Int) < 2147483647), ?_⟩
      refine ⟨_, rfl, _, rfl, _, _, rfl, rfl, .inl (d64 _), _, 2147483629, rfl, rfl, (by decide : (0 : Int) < 2147483629), _, 16, rfl, rfl, ⟨by decide, by decide⟩, .int many, rfl, _, many, rfl, rfl, hm0, ?_⟩
      exact hQ (.int _) (.int _) _ go2 ok2 (.int _) (hq _ (Int.emod_nonneg _ (by omega)) (Int.emod_lt_of_pos _ hm0))
    | cons x L1 =>
      refine iteT ⟨fun σ H => ∃ (W1 : Wd stg) (y : Option V), W1.H = H ∧ σ = [some (.ref a), some (.int many), y, none, none, none] ∧ DrawAt K W W1 a b c L1 cs m, ?_, ?_⟩
      · rintro σ' H' ⟨W3, y3, e1, e2, e3⟩
        exact ⟨L1.length, by rw [List.length_cons]; omega, W3, L1, y3, e1, rfl, e2, e3⟩
      have ix0 : ixN ((x :: L1).map V.int).length 0 = some 0 := by
        unfold ixN
        rw [if_pos (by decide), if_pos (by rw [List.length_map, List.length_cons]; omega)]
        rfl
      have sx0 := (ixN_seq ix0).1
      -- _law_rest = _law_stream_here[0][0]
      refine ⟨.ref a, rfl, a, _, 0, .ref b, rfl, rfl, .of d1.ha, atI_nat (j := 0) rfl, b, _, 0, .int x, rfl, rfl, .of d1.hb, atI_nat (j := 0) rfl, ?_⟩
      refine ⟨.int x, rfl, x, 0, rfl, rfl, _, rfl, ite2 (fun hx => ?_) (fun hx => ?_)⟩
      · -- _law_stream_here[0][0] = _law_rest // _law_many
        refine ⟨.int x, rfl, .int many, rfl, x, many, rfl, rfl, ⟨hm0, hml⟩, .ref a, rfl, a, _, 0, .ref b, rfl, rfl, .of d1.ha, atI_nat (j := 0) rfl, b, _, 0, 0, rfl, rfl, d1.hb, ix0, ?_⟩
        refine ⟨.int x, rfl, .int many, rfl, x, many, rfl, rfl, hm0, ?_⟩
        have d2 := d1.setB (x / many :: L1)
        have le1 : ((W1.new p (.lst [])).reg b (.lst ((x / many :: L1).map V.int)) (W1.new p (.lst [])).g).g ≤ W.g + 1 := by
          show W1.g ≤ W.g + 1
          rw [show W1.g = W.g from d.g]
          exact Nat.le_succ _
        exact hQ (.int (x % many)) (.int (x % many)) _ (d2.go.trans (go_more (n := W.g + 1))) (wok_more d2.ok le1) (.int _) (hq _ (Int.emod_nonneg _ (by omega)) (Int.emod_lt_of_pos _ hm0))
      · -- _law_stream_here[0].pop(0)
        refine ⟨.ref a, rfl, a, _, 0, .ref b, rfl, rfl, .of d1.ha, atI_nat (j := 0) rfl, .inl ⟨rfl, _, .of d1.hb⟩, b, _, 0, 0, .int x, rfl, rfl, d1.hb, by decide, by decide, sx0, rfl, ?_⟩
        exact ⟨_, some (.int x), rfl, rfl, d1.setB L1⟩
end
abbrev s_is_integer : Stmt := topS 3
abbrev s_tail_order : Stmt := topS 4
abbrev s_agreement : Stmt := topS 6
abbrev s_heads_of : Stmt := topS 7
abbrev s_new_parts : Stmt := topS 8
abbrev s_count_parts : Stmt := topS 9
abbrev s_part_at : Stmt := topS 10
abbrev s_part_index : Stmt := topS 11
abbrev s_each_part : Stmt := topS 12
abbrev s_longest_twice : Stmt := topS 13
abbrev s_find : Stmt := topS 15
abbrev s_each_place : Stmt := topS 16
abbrev s_places_of : Stmt := topS 17
abbrev s_is_whole : Stmt := topS 18
abbrev s_finding_holds : Stmt := topS 19
abbrev s_l_stream : Stmt := topS 21
abbrev s_l_draw : Stmt := topS 22
abbrev s_l_pick : Stmt := topS 23
abbrev s_l_drawn : Stmt := topS 24
abbrev s_l_pattern_right : Stmt := topS 25
abbrev s_law : Stmt := topS 26
theorem sc_is_integer : FnScope ["value", "low", "high"] ["value", "low", "high"] (defScope s_is_integer) := ⟨rfl, rfl, rfl, by decide +kernel, rfl, by decide +kernel, by decide +kernel⟩
def w_is_integer (ex : Exn → stg.G → Prop) : SW stg :=
  (wRet (wAndV (wIsi "int" (wVar 0)) (wAndV (wNotV (wIsi "bool" (wVar 0))) (wChain oLe oLe (wVar 1) (wVar 0) (wVar 2)))))
theorem ok_is_integer {P : Program} {w : World} {K : PySem.W.Frag} {mg : Str → Option Value} {base : Heap} {f : Addr} {fd : FuncData} (F : Fun K "is_integer" "is_integer" s_is_integer f fd) (g : mg "is_integer" = some (.ref f)) (m_bool : mg "bool" = none) (m_int : mg "int" = none) (m_isinstance : mg "isinstance" = none)
    (hp : ∀ (ds : List D) (g : Nat) (q : D → Nat → Prop) (ex : Exn → Nat → Prop), ds.length = 3 → d_is_integer ds g q ex → w_is_integer ex (kEndS q) (startD ["value", "low", "high"] ds) g) : FnB P w K mg base 1 "is_integer" ["value", "low", "high"] (liftSp K mg 3 d_is_integer) :=
  fnB_of F g (fnS_of (wb := w_is_integer) F sc_is_integer (fun cdv A outer s H E W0 ex hr hgd tk => (dss_one (ds_ret (de_and (de_isi kit_int (DE.p (de_var (pv 0))) m_isinstance m_int (by decide +kernel)) (de_and (de_not (de_isi kit_bool (DE.p (de_var (pv 0))) m_isinstance m_bool (by decide +kernel))) (de_one (de_chain opd_le opd_le (DE.p (de_var (pv 1))) (DE.p (de_var (pv 0))) (DE.p (de_var (pv 2)))))))))) hp) (F.binds (ps := ["value", "low", "high"]) fun _ _ _ _ _ _ us hl => match us, hl with | [_, _, _], _ => rfl)
theorem sc_tail_order : FnScope ["word", "tail", "place"] ["word"] (defScope s_tail_order) := ⟨rfl, rfl, rfl, by decide +kernel, rfl, by decide +kernel, by decide +kernel⟩
def w_tail_order (ex : Exn → stg.G → Prop) : SW stg :=
  (wRet (wCB cTuple (wACons (wL (wLc (wItems (wL (wCN cSortedTI (wACons (wL (wLc (wRng1 (wCB cLen (wACons (wVar 0) wANil))) (gwN 2) wYes (wTup (wACons (wSl (wVar 0) (wOSome (wVar 2)) wONone) (wACons (wVar 2) wANil))) [2])) wANil)))) (gwT 2 (gwCons (gwN 1) (gwCons (gwN 2) gwNil))) wYes (wVar 2) [1, 2])) wANil)))
theorem ok_tail_order {P : Program} {w : World} {K : PySem.W.Frag} {mg : Str → Option Value} {base : Heap} {f : Addr} {fd : FuncData} (F : Fun K "tail_order" "tail_order" s_tail_order f fd) (g : mg "tail_order" = some (.ref f)) (m_len : mg "len" = none) (m_range : mg "range" = none) (m_sorted : mg "sorted" = none) (m_tuple : mg "tuple" = none)
    (hp : ∀ (ds : List D) (g : Nat) (q : D → Nat → Prop) (ex : Exn → Nat → Prop), ds.length = 1 → d_tail_order ds g q ex → w_tail_order ex (kEndS q) (startD ["word", "tail", "place"] ds) g) : FnKB P w K mg base 1 "tail_order" ["word"] (liftSp K mg 1 d_tail_order) :=
  fnKB_of F g (fnKS_of (wb := w_tail_order) F sc_tail_order (fun cdv A outer s H E W0 ex hr tk => (dss_one (ds_ret (de_callTy calld_tuple (by rfl) m_tuple (by decide +kernel) (dap_cons (DN.p (dn_lc (own := [("tail", 1), ("place", 2)]) rfl sc_tail_order.nd (di_seq (DN.fr (dn_callB calln_sortedTI (by rfl) m_sorted (by decide +kernel) (dap_cons (DN.p (dn_lc (own := [("place", 2)]) rfl sc_tail_order.nd (di_range1 m_range (de_callB calld_len (by rfl) m_len (by decide +kernel) (dap_cons (DE.p (de_var (pv 0))) dap_nil))) (blkOk_by (own := [("place", 2)]) (N := ["word", "tail", "place"]) (sc := defScope s_tail_order) (by decide +kernel)) (by decide) (fun _ _ _ _ _ => (dg_name (pg_name (i := 2) sc_tail_order.nd rfl (Or.inl rfl)))) (fun _ _ _ _ _ => dts_nil) (fun _ _ _ _ _ => (de_tup (da_cons (de_slice (DE.p (de_var (pv 0))) (do_some (de_var (pv 2))) do_none) (da_cons (de_var (pv 2)) da_nil)))))) dap_nil)))) (blkOk_by (own := [("tail", 1), ("place", 2)]) (N := ["word", "tail", "place"]) (sc := defScope s_tail_order) (by decide +kernel)) (by decide) (fun _ _ _ _ _ => (dg_tup rfl (dgs_cons (dg_name (pg_name (i := 1) sc_tail_order.nd rfl (Or.inl rfl))) (dgs_cons (dg_name (pg_name (i := 2) sc_tail_order.nd rfl (Or.inl rfl))) dgs_nil)))) (fun _ _ _ _ _ => dts_nil) (fun _ _ _ _ _ => (de_var (pv 2))))) dap_nil))))) hp) (F.binds (ps := ["word"]) fun _ _ _ _ _ _ us hl => match us, hl with | [_], _ => rfl)
theorem sc_agreement : FnScope ["one", "other", "found", "letter", "partner"] ["one", "other"] (defScope s_agreement) := ⟨rfl, rfl, rfl, by decide +kernel, rfl, by decide +kernel, by decide +kernel⟩
def w_agreement (ex : Exn → stg.G → Prop) : SW stg :=
  (wSeq (wSet 2 (wI (wC (.int 0))))
    (wSeq (wFor (wZip (wVar 0) (wVar 1)) (gwT 2 (gwCons (gwN 3) (gwCons (gwN 4) gwNil))) (wSeq (wIfS (wB (wBin oNe (wVar 3) (wVar 4))) wBreak wNext)
    (wAug 2 (fun i j => i + j) (wC (.int 1)))))
    (wRet (wVar 2))))
theorem ok_agreement {P : Program} {w : World} {K : PySem.W.Frag} {mg : Str → Option Value} {base : Heap} {f : Addr} {fd : FuncData} (F : Fun K "agreement" "agreement" s_agreement f fd) (g : mg "agreement" = some (.ref f)) (m_zip : mg "zip" = none)
    (hp : ∀ (ds : List D) (g : Nat) (q : D → Nat → Prop) (ex : Exn → Nat → Prop), ds.length = 2 → d_agreement ds g q ex → w_agreement ex (kEndS q) (startD ["one", "other", "found", "letter", "partner"] ds) g) : FnKB P w K mg base 1 "agreement" ["one", "other"] (liftSp K mg 2 d_agreement) :=
  fnKB_of F g (fnKS_of (wb := w_agreement) F sc_agreement (fun cdv A outer s H E W0 ex hr tk => (dss_cons (ds_set (i := 2) sc_agreement.nd rfl (.inl rfl) (DE.v de_int))
      (dss_cons (ds_for (passes_of rfl) rfl (di_zip m_zip (de_var (pv 0)) (de_var (pv 1))) (dg_tup rfl (dgs_cons (dg_name (pg_name (i := 3) sc_agreement.nd rfl (Or.inl rfl))) (dgs_cons (dg_name (pg_name (i := 4) sc_agreement.nd rfl (Or.inl rfl))) dgs_nil))) (dss_cons (ds_if (dt_cmp (opd_ne hr.units) (DE.p (de_var (pv 3))) (DE.p (de_var (pv 4))) (nomark _)) (dss_one ds_break) dss_nil)
      (dss_one (ds_aug (i := 2) sc_agreement.nd rfl (.inl rfl) ip_add de_int))))
      (dss_one (ds_ret (de_var (pv 2))))))) hp) (F.binds (ps := ["one", "other"]) fun _ _ _ _ _ _ us hl => match us, hl with | [_, _], _ => rfl)
theorem sc_heads_of : FnScope ["word", "order", "one", "other"] ["word"] (defScope s_heads_of) := ⟨rfl, rfl, rfl, by decide +kernel, rfl, by decide +kernel, by decide +kernel⟩
def w_heads_of (ex : Exn → stg.G → Prop) : SW stg :=
  (wSeq (wSet 1 (wI (wCallB 1 d_tail_order (wACons (wVar 0) wANil) xno)))
    (wRet (wCB cTupleO (wACons (wL (wLc (wZip (wVar 1) (wSl (wVar 1) (wOSome (wC (.int 1))) wONone)) (gwT 2 (gwCons (gwN 2) (gwCons (gwN 3) gwNil))) wYes (wCallB 2 d_agreement (wACons (wSl (wVar 0) (wOSome (wVar 2)) wONone) (wACons (wSl (wVar 0) (wOSome (wVar 3)) wONone) wANil)) xno) [2, 3])) wANil))))
theorem ok_heads_of {P : Program} {w : World} {K : PySem.W.Frag} {mg : Str → Option Value} {base : Heap} {f : Addr} {fd : FuncData} (F : Fun K "heads_of" "heads_of" s_heads_of f fd) (g : mg "heads_of" = some (.ref f)) (F_tail_order : FnKB P w K mg base 1 "tail_order" ["word"] (liftSp K mg 1 d_tail_order)) (F_agreement : FnKB P w K mg base 1 "agreement" ["one", "other"] (liftSp K mg 2 d_agreement)) (m_tuple : mg "tuple" = none) (m_zip : mg "zip" = none)
    (hp : ∀ (ds : List D) (g : Nat) (q : D → Nat → Prop) (ex : Exn → Nat → Prop), ds.length = 1 → d_heads_of_x ds g q ex → w_heads_of ex (kEndS q) (startD ["word", "order", "one", "other"] ds) g) : FnKB P w K mg base 2 "heads_of" ["word"] (liftSp K mg 1 d_heads_of_x) :=
  fnKB_of F g (fnKS_of (wb := w_heads_of) F sc_heads_of (fun cdv A outer s H E W0 ex hr tk => (dss_cons (ds_set (i := 1) sc_heads_of.nd rfl (.inl rfl) (DE.v (de_callK F_tail_order hr (da_cons (de_var (pv 0)) da_nil))))
      (dss_one (ds_ret (de_callTy calld_tupleO (by rfl) m_tuple (by decide +kernel) (dap_cons (DN.p (dn_lc (own := [("one", 2), ("other", 3)]) rfl sc_heads_of.nd (di_zip m_zip (de_var (pv 1)) (de_slice (DE.p (de_var (pv 1))) (do_some de_int) do_none)) (blkOk_by (own := [("one", 2), ("other", 3)]) (N := ["word", "order", "one", "other"]) (sc := defScope s_heads_of) (by decide +kernel)) (by decide) (fun _ _ _ _ _ => (dg_tup rfl (dgs_cons (dg_name (pg_name (i := 2) sc_heads_of.nd rfl (Or.inl rfl))) (dgs_cons (dg_name (pg_name (i := 3) sc_heads_of.nd rfl (Or.inl rfl))) dgs_nil)))) (fun _ _ _ _ _ => dts_nil) (fun _ _ _ _ _ => (de_callK F_agreement hr (da_cons (de_slice (DE.p (de_var (pv 0))) (do_some (de_var (pv 2))) do_none) (da_cons (de_slice (DE.p (de_var (pv 0))) (do_some (de_var (pv 3))) do_none) da_nil)))))) dap_nil)))))) hp) (F.binds (ps := ["word"]) fun _ _ _ _ _ _ us hl => match us, hl with | [_], _ => rfl)
theorem sc_new_parts : FnScope ["word", "tails", "heads", "place"] ["word"] (defScope s_new_parts) := ⟨rfl, rfl, rfl, by decide +kernel, rfl, by decide +kernel, by decide +kernel⟩
def w_new_parts (ex : Exn → stg.G → Prop) : SW stg :=
  (wSeq (wPar 1 2 (wI (wL (wLc (wItems (wCallB 1 d_tail_order (wACons (wVar 0) wANil) xno)) (gwN 3) wYes (wSl (wVar 0) (wOSome (wVar 3)) wONone) [3]))) (wI (wCallB 1 d_heads_of_x (wACons (wVar 0) wANil) xno)))
    (wRet (wL (wListI (wZip (wVar 1) (wTup (wACons (wC (.int 0)) (wAStar (wUntx (wVar 2)) wANil))))))))
theorem ok_new_parts {P : Program} {w : World} {K : PySem.W.Frag} {mg : Str → Option Value} {base : Heap} {f : Addr} {fd : FuncData} (F : Fun K "new_parts" "new_parts" s_new_parts f fd) (g : mg "new_parts" = some (.ref f)) (F_tail_order : FnKB P w K mg base 1 "tail_order" ["word"] (liftSp K mg 1 d_tail_order)) (F_heads_of : FnKB P w K mg base 2 "heads_of" ["word"] (liftSp K mg 1 d_heads_of_x)) (m_list : mg "list" = none) (m_zip : mg "zip" = none)
    (hp : ∀ (ds : List D) (g : Nat) (q : D → Nat → Prop) (ex : Exn → Nat → Prop), ds.length = 1 → d_new_parts ds g q ex → w_new_parts ex (kEndS q) (startD ["word", "tails", "heads", "place"] ds) g) : FnKB P w K mg base 3 "new_parts" ["word"] (liftSp K mg 1 d_new_parts) :=
  fnKB_of F g (fnKS_of (wb := w_new_parts) F sc_new_parts (fun cdv A outer s H E W0 ex hr tk => (dss_cons (ds_par (i := 1) (j := 2) rfl sc_new_parts.nd rfl rfl (by decide) rfl rfl (DE.v (DN.fr (dn_lc (own := [("place", 3)]) rfl sc_new_parts.nd (di_seq (de_callK F_tail_order (hr.mono (by decide)) (da_cons (de_var (pv 0)) da_nil))) (blkOk_by (own := [("place", 3)]) (N := ["word", "tails", "heads", "place"]) (sc := defScope s_new_parts) (by decide +kernel)) (by decide) (fun _ _ _ _ _ => (dg_name (pg_name (i := 3) sc_new_parts.nd rfl (Or.inl rfl)))) (fun _ _ _ _ _ => dts_nil) (fun _ _ _ _ _ => (de_slice (DE.p (de_var (pv 0))) (do_some (de_var (pv 3))) do_none))))) (DE.v (de_callK F_heads_of hr (da_cons (de_var (pv 0)) da_nil))))
      (dss_one (ds_ret (DN.fr (dn_listI rfl m_list (dj_zip m_zip (de_var (pv 1)) (de_tup (da_cons de_int (da_star (DE.p (de_untx (de_var (pv 2)))) da_nil)))))))))) hp) (F.binds (ps := ["word"]) fun _ _ _ _ _ _ us hl => match us, hl with | [_], _ => rfl)
theorem sc_count_parts : FnScope ["word", "tail", "shared"] ["word"] (defScope s_count_parts) := ⟨rfl, rfl, rfl, by decide +kernel, rfl, by decide +kernel, by decide +kernel⟩
def w_count_parts (ex : Exn → stg.G → Prop) : SW stg :=
  (wRet (wCB cSum (wACons (wL (wLc (wItems (wCallB 1 d_new_parts (wACons (wVar 0) wANil) (xk ex))) (gwT 2 (gwCons (gwN 1) (gwCons (gwN 2) gwNil))) wYes (wBin oSub (wCB cLen (wACons (wVar 1) wANil)) (wVar 2)) [1, 2])) wANil)))
theorem ok_count_parts {P : Program} {w : World} {K : PySem.W.Frag} {mg : Str → Option Value} {base : Heap} {f : Addr} {fd : FuncData} (F : Fun K "count_parts" "count_parts" s_count_parts f fd) (g : mg "count_parts" = some (.ref f)) (F_new_parts : FnKB P w K mg base 3 "new_parts" ["word"] (liftSp K mg 1 d_new_parts)) (m_len : mg "len" = none) (m_sum : mg "sum" = none)
    (hp : ∀ (ds : List D) (g : Nat) (q : D → Nat → Prop) (ex : Exn → Nat → Prop), ds.length = 1 → d_count_parts ds g q ex → w_count_parts ex (kEndS q) (startD ["word", "tail", "shared"] ds) g) : FnB P w K mg base 4 "count_parts" ["word"] (liftSp K mg 1 d_count_parts) :=
  fnB_of F g (fnS_of (wb := w_count_parts) F sc_count_parts (fun cdv A outer s H E W0 ex hr hgd tk => (dss_one (ds_ret (de_callB (calld_sum rfl) (by rfl) m_sum (by decide +kernel) (dap_cons (DN.p (dn_lc (own := [("tail", 1), ("shared", 2)]) rfl sc_count_parts.nd (di_seq (de_callF F_new_parts.b hgd hr tk (da_cons (de_var (pv 0)) da_nil))) (blkOk_by (own := [("tail", 1), ("shared", 2)]) (N := ["word", "tail", "shared"]) (sc := defScope s_count_parts) (by decide +kernel)) (by decide) (fun _ _ _ _ _ => (dg_tup rfl (dgs_cons (dg_name (pg_name (i := 1) sc_count_parts.nd rfl (Or.inl rfl))) (dgs_cons (dg_name (pg_name (i := 2) sc_count_parts.nd rfl (Or.inl rfl))) dgs_nil)))) (fun _ _ _ _ _ => dts_nil) (fun _ _ _ _ _ => (de_op opd_sub (DE.p (de_callB calld_len (by rfl) m_len (by decide +kernel) (dap_cons (DE.p (de_var (pv 1))) dap_nil))) (DE.p (de_var (pv 2))))))) dap_nil))))) hp) (F.binds (ps := ["word"]) fun _ _ _ _ _ _ us hl => match us, hl with | [_], _ => rfl)
theorem sc_part_at : FnScope ["word", "index", "rest", "tail", "shared"] ["word", "index"] (defScope s_part_at) := ⟨rfl, rfl, rfl, by decide +kernel, rfl, by decide +kernel, by decide +kernel⟩
def w_part_at (ex : Exn → stg.G → Prop) : SW stg :=
  (wSeq (wIfS (wNot (wB (wCallB 3 d_is_integer (wACons (wVar 1) (wACons (wC (.int 0)) (wACons (wBin oSub (wCallB 1 d_count_parts (wACons (wVar 0) wANil) (xk ex)) (wC (.int 1))) wANil))) (xk ex)))) (wRaise "NoIndex" "value" (wVar 1) (xk ex)) wNext)
    (wSeq (wSet 2 (wI (wVar 1)))
    (wForE (wItems (wCallB 1 d_new_parts (wACons (wVar 0) wANil) (xk ex))) (gwT 2 (gwCons (gwN 3) (gwCons (gwN 4) gwNil))) (wSeq (wIfS (wB (wBin oLt (wVar 2) (wBin oSub (wCB cLen (wACons (wVar 3) wANil)) (wVar 4)))) (wRet (wSl (wVar 3) wONone (wOSome (wBin oAdd (wBin oAdd (wVar 4) (wVar 2)) (wC (.int 1)))))) wNext)
    (wAug 2 (fun i j => i - j) (wBin oSub (wCB cLen (wACons (wVar 3) wANil)) (wVar 4)))) (wRet (wVar 0)))))
theorem ok_part_at {P : Program} {w : World} {K : PySem.W.Frag} {mg : Str → Option Value} {base : Heap} {f : Addr} {fd : FuncData} (F : Fun K "part_at" "part_at" s_part_at f fd) (g : mg "part_at" = some (.ref f)) (F_count_parts : FnB P w K mg base 4 "count_parts" ["word"] (liftSp K mg 1 d_count_parts)) (F_is_integer : FnB P w K mg base 1 "is_integer" ["value", "low", "high"] (liftSp K mg 3 d_is_integer)) (F_new_parts : FnKB P w K mg base 3 "new_parts" ["word"] (liftSp K mg 1 d_new_parts)) (m_len : mg "len" = none) (xr_NoIndex : RaisesF K "NoIndex" "value")
    (hp : ∀ (ds : List D) (g : Nat) (q : D → Nat → Prop) (ex : Exn → Nat → Prop), ds.length = 2 → d_part_at ds g q ex → w_part_at ex (kEndS q) (startD ["word", "index", "rest", "tail", "shared"] ds) g) : FnB P w K mg base 5 "part_at" ["word", "index"] (liftSp K mg 2 d_part_at) :=
  fnB_of F g (fnS_of (wb := w_part_at) F sc_part_at (fun cdv A outer s H E W0 ex hr hgd tk => (dss_cons (ds_if (dt_not (dt_val (de_callF F_is_integer hgd (hr.mono (by decide)) tk (da_cons (de_var (pv 1)) (da_cons de_int (da_cons (de_op opd_sub (DE.p (de_callF F_count_parts hgd hr tk (da_cons (de_var (pv 0)) da_nil))) (DE.p de_int)) da_nil)))))) (dss_one (ds_raise xr_NoIndex rfl hr tk (de_var (pv 1)))) dss_nil)
      (dss_cons (ds_set (i := 2) sc_part_at.nd rfl (.inl rfl) (DE.v (de_var (pv 1))))
      (dss_one (ds_forE (passes_of rfl) rfl (di_seq (de_callF F_new_parts.b hgd (hr.mono (by decide)) tk (da_cons (de_var (pv 0)) da_nil))) (dg_tup rfl (dgs_cons (dg_name (pg_name (i := 3) sc_part_at.nd rfl (Or.inl rfl))) (dgs_cons (dg_name (pg_name (i := 4) sc_part_at.nd rfl (Or.inl rfl))) dgs_nil))) (dss_cons (ds_if (dt_cmp opd_lt (DE.p (de_var (pv 2))) (DE.p (de_op opd_sub (DE.p (de_callB calld_len (by rfl) m_len (by decide +kernel) (dap_cons (DE.p (de_var (pv 3))) dap_nil))) (DE.p (de_var (pv 4))))) (nomark _)) (dss_one (ds_ret (de_slice (DE.p (de_var (pv 3))) do_none (do_some (de_op opd_add (DE.p (de_op opd_add (DE.p (de_var (pv 4))) (DE.p (de_var (pv 2))))) (DE.p de_int)))))) dss_nil)
      (dss_one (ds_aug (i := 2) sc_part_at.nd rfl (.inl rfl) ip_sub (de_op opd_sub (DE.p (de_callB calld_len (by rfl) m_len (by decide +kernel) (dap_cons (DE.p (de_var (pv 3))) dap_nil))) (DE.p (de_var (pv 4))))))) (dss_one (ds_ret (de_var (pv 0))))))))) hp) (F.binds (ps := ["word", "index"]) fun _ _ _ _ _ _ us hl => match us, hl with | [_, _], _ => rfl)
theorem sc_part_index : FnScope ["word", "value", "found", "tail", "shared"] ["word", "value"] (defScope s_part_index) := ⟨rfl, rfl, rfl, by decide +kernel, rfl, by decide +kernel, by decide +kernel⟩
def w_part_index (ex : Exn → stg.G → Prop) : SW stg :=
  (wSeq (wIfS (wOr (wNot (wB (wIsi "str" (wVar 1)))) (wOr (wB (wBin oEq (wVar 1) (wC (.str [])))) (wB (wBin oNotInT (wVar 1) (wVar 0))))) (wRet (wC .non)) wNext)
    (wSeq (wSet 2 (wI (wC (.int 0))))
    (wForE (wItems (wCallB 1 d_new_parts (wACons (wVar 0) wANil) (xk ex))) (gwT 2 (gwCons (gwN 3) (gwCons (gwN 4) gwNil))) (wSeq (wIfS (wB (wStarts (wVar 3) (wVar 1))) (wRet (wBin oSub (wBin oSub (wBin oAdd (wVar 2) (wCB cLen (wACons (wVar 1) wANil))) (wVar 4)) (wC (.int 1)))) wNext)
    (wAug 2 (fun i j => i + j) (wBin oSub (wCB cLen (wACons (wVar 3) wANil)) (wVar 4)))) (wRet (wC .non)))))
theorem ok_part_index {P : Program} {w : World} {K : PySem.W.Frag} {mg : Str → Option Value} {base : Heap} {f : Addr} {fd : FuncData} (F : Fun K "part_index" "part_index" s_part_index f fd) (g : mg "part_index" = some (.ref f)) (F_new_parts : FnKB P w K mg base 3 "new_parts" ["word"] (liftSp K mg 1 d_new_parts)) (m_isinstance : mg "isinstance" = none) (m_len : mg "len" = none) (m_str : mg "str" = none)
    (hp : ∀ (ds : List D) (g : Nat) (q : D → Nat → Prop) (ex : Exn → Nat → Prop), ds.length = 2 → d_part_index ds g q ex → w_part_index ex (kEndS q) (startD ["word", "value", "found", "tail", "shared"] ds) g) : FnB P w K mg base 4 "part_index" ["word", "value"] (liftSp K mg 2 d_part_index) :=
  fnB_of F g (fnS_of (wb := w_part_index) F sc_part_index (fun cdv A outer s H E W0 ex hr hgd tk => (dss_cons (ds_if (DW.t (dw_or (dt_not (dt_val (de_isi kit_str (DE.p (de_var (pv 1))) m_isinstance m_str (by decide +kernel)))) (dw_or (dt_cmp (opd_eq hr.units) (DE.p (de_var (pv 1))) (DE.p (de_str [])) (nomark _)) (dw_or1 (dt_cmp opd_notInT (DE.p (de_var (pv 1))) (DE.p (de_var (pv 0))) rfl))))) (dss_one (ds_ret de_non)) dss_nil)
      (dss_cons (ds_set (i := 2) sc_part_index.nd rfl (.inl rfl) (DE.v de_int))
      (dss_one (ds_forE (passes_of rfl) rfl (di_seq (de_callF F_new_parts.b hgd hr tk (da_cons (de_var (pv 0)) da_nil))) (dg_tup rfl (dgs_cons (dg_name (pg_name (i := 3) sc_part_index.nd rfl (Or.inl rfl))) (dgs_cons (dg_name (pg_name (i := 4) sc_part_index.nd rfl (Or.inl rfl))) dgs_nil))) (dss_cons (ds_if (dt_val (de_starts (DE.p (de_var (pv 3))) (de_var (pv 1)))) (dss_one (ds_ret (de_op opd_sub (DE.p (de_op opd_sub (DE.p (de_op opd_add (DE.p (de_var (pv 2))) (DE.p (de_callB calld_len (by rfl) m_len (by decide +kernel) (dap_cons (DE.p (de_var (pv 1))) dap_nil))))) (DE.p (de_var (pv 4))))) (DE.p de_int)))) dss_nil)
      (dss_one (ds_aug (i := 2) sc_part_index.nd rfl (.inl rfl) ip_add (de_op opd_sub (DE.p (de_callB calld_len (by rfl) m_len (by decide +kernel) (dap_cons (DE.p (de_var (pv 3))) dap_nil))) (DE.p (de_var (pv 4))))))) (dss_one (ds_ret de_non))))))) hp) (F.binds (ps := ["word", "value"]) fun _ _ _ _ _ _ us hl => match us, hl with | [_, _], _ => rfl)
theorem sc_each_part : GScope ["word", "tail", "shared", "length"] ["word"] (defScope s_each_part) := ⟨rfl, rfl, rfl, by decide +kernel, rfl, by decide +kernel, by decide +kernel⟩
def w_each_part : YW stg :=
  (yFor (wItems (wCallB 1 d_new_parts (wACons (wVar 0) wANil) xno)) (gwT 2 (gwCons (gwN 1) (gwCons (gwN 2) gwNil))) (yFor (wRng2 (wBin oAdd (wVar 2) (wC (.int 1))) (wBin oAdd (wCB cLen (wACons (wVar 1) wANil)) (wC (.int 1)))) (gwN 3) (yYield (wSl (wVar 1) wONone (wOSome (wVar 3))))))
theorem ok_each_part {P : Program} {w : World} {K : PySem.W.Frag} {mg : Str → Option Value} {base : Heap} {f : Addr} {fd : FuncData} (F : Fun K "each_part" "each_part" s_each_part f fd) (g : mg "each_part" = some (.ref f)) (F_new_parts : FnKB P w K mg base 3 "new_parts" ["word"] (liftSp K mg 1 d_new_parts)) (m_len : mg "len" = none) (m_range : mg "range" = none)
    (hp : ∀ (ds : List D) (g : Nat) (q : List D → Nat → Prop), ds.length = 1 → d_each_part ds g q → w_each_part (kEndY q) [] (startD ["word", "tail", "shared", "length"] ds) g) : GnB P w K mg base 4 "each_part" ["word"] (liftG K 1 d_each_part) :=
  gnB_of F g (gfnD_of (wb := w_each_part) F sc_each_part (fun cdv A outer s H E pn W0 hr => (dys_one (dy_for owns_gcx rfl (di_seq (de_callK F_new_parts hr (da_cons (de_var (pv 0)) da_nil))) (dg_tup rfl (dgs_cons (dg_name (pg_name (i := 1) sc_each_part.nd rfl (Or.inl rfl))) (dgs_cons (dg_name (pg_name (i := 2) sc_each_part.nd rfl (Or.inl rfl))) dgs_nil))) (dys_one (dy_for owns_gcx rfl (di_range2 m_range (de_op opd_add (DE.p (de_var (pv 2))) (DE.p de_int)) (de_op opd_add (DE.p (de_callB calld_len (by rfl) m_len (by decide +kernel) (dap_cons (DE.p (de_var (pv 1))) dap_nil))) (DE.p de_int))) (dg_name (pg_name (i := 3) sc_each_part.nd rfl (Or.inl rfl))) (dys_one (dy_yield (de_slice (DE.p (de_var (pv 1))) do_none (do_some (de_var (pv 3))))))))))) hp) (F.binds (ps := ["word"]) fun _ _ _ _ _ _ us hl => match us, hl with | [_], _ => rfl)
theorem sc_longest_twice : FnScope ["word", "heads", "order", "longest", "first", "part", "place"] ["word"] (defScope s_longest_twice) := ⟨rfl, rfl, rfl, by decide +kernel, rfl, by decide +kernel, by decide +kernel⟩
def w_longest_twice (ex : Exn → stg.G → Prop) : SW stg :=
  (wSeq (wPar 1 2 (wI (wCallB 1 d_heads_of_x (wACons (wVar 0) wANil) (xk ex))) (wI (wCallB 1 d_tail_order (wACons (wVar 0) wANil) (xk ex))))
    (wSeq (wSet 3 (wI (wCB cMaxL (wACons (wL (wLst (wACons (wC (.int 0)) (wAStar (wVarX 1) wANil)))) wANil))))
    (wSeq (wIfS (wB (wBin oEq (wVar 3) (wC (.int 0)))) (wRet (wC .non)) wNext)
    (wSeq (wSet 4 (wI (wBin oIx (wVar 2) (wIndexX (wVar 1) (wVar 3)))))
    (wSeq (wSet 5 (wI (wSl (wVar 0) (wOSome (wVar 4)) (wOSome (wBin oAdd (wVar 4) (wVar 3))))))
    (wRet (wTup (wACons (wVar 5) (wACons (wCB cTuple (wACons (wL (wLc (wRng1 (wCB cLen (wACons (wVar 0) wANil))) (gwN 6) (wB (wStarts (wSl (wVar 0) (wOSome (wVar 6)) wONone) (wVar 5))) (wVar 6) [6])) wANil)) wANil)))))))))
theorem ok_longest_twice {P : Program} {w : World} {K : PySem.W.Frag} {mg : Str → Option Value} {base : Heap} {f : Addr} {fd : FuncData} (F : Fun K "longest_twice" "longest_twice" s_longest_twice f fd) (g : mg "longest_twice" = some (.ref f)) (F_heads_of : FnKB P w K mg base 2 "heads_of" ["word"] (liftSp K mg 1 d_heads_of_x)) (F_tail_order : FnKB P w K mg base 1 "tail_order" ["word"] (liftSp K mg 1 d_tail_order)) (m_len : mg "len" = none) (m_max : mg "max" = none) (m_range : mg "range" = none) (m_tuple : mg "tuple" = none)
    (hp : ∀ (ds : List D) (g : Nat) (q : D → Nat → Prop) (ex : Exn → Nat → Prop), ds.length = 1 → d_longest_twice ds g q ex → w_longest_twice ex (kEndS q) (startD ["word", "heads", "order", "longest", "first", "part", "place"] ds) g) : FnB P w K mg base 3 "longest_twice" ["word"] (liftSp K mg 1 d_longest_twice) :=
  fnB_of F g (fnS_of (wb := w_longest_twice) F sc_longest_twice (fun cdv A outer s H E W0 ex hr hgd tk => (dss_cons (ds_par (i := 1) (j := 2) rfl sc_longest_twice.nd rfl rfl (by decide) rfl rfl (DE.v (de_callF F_heads_of.b hgd hr tk (da_cons (de_var (pv 0)) da_nil))) (DE.v (de_callF F_tail_order.b hgd (hr.mono (by decide)) tk (da_cons (de_var (pv 0)) da_nil))))
      (dss_cons (ds_set (i := 3) sc_longest_twice.nd rfl (.inl rfl) (DE.v (de_callB (calld_maxL rfl) (by rfl) m_max (by decide +kernel) (dap_cons (DN.p (dn_lst (da_cons de_int (da_star (DE.p (de_varX (pv 1))) da_nil)))) dap_nil))))
      (dss_cons (ds_if (dt_cmp (opd_eq hr.units) (DE.p (de_var (pv 3))) (DE.p de_int) (nomark _)) (dss_one (ds_ret de_non)) dss_nil)
      (dss_cons (ds_set (i := 4) sc_longest_twice.nd rfl (.inl rfl) (DE.v (de_ix (DE.p (de_var (pv 2))) (DE.p (de_indexX (de_var (pv 1)) (de_var (pv 3)))) (fun _ _ => rfl))))
      (dss_cons (ds_set (i := 5) sc_longest_twice.nd rfl (.inr rfl) (DE.v (de_slice (DE.p (de_var (pv 0))) (do_some (de_var (pv 4))) (do_some (de_op opd_add (DE.p (de_var (pv 4))) (DE.p (de_var (pv 3))))))))
      (dss_one (ds_ret (de_tup (da_cons (de_var (pv 5)) (da_cons (de_callTy calld_tuple (by rfl) m_tuple (by decide +kernel) (dap_cons (DN.p (dn_lc (own := [("place", 6)]) rfl sc_longest_twice.nd (di_range1 m_range (de_callB calld_len (by rfl) m_len (by decide +kernel) (dap_cons (DE.p (de_var (pv 0))) dap_nil))) (blkOk_by (own := [("place", 6)]) (N := ["word", "heads", "order", "longest", "first", "part", "place"]) (sc := defScope s_longest_twice) (by decide +kernel)) (by decide) (fun _ _ _ _ _ => (dg_name (pg_name (i := 6) sc_longest_twice.nd rfl (Or.inl rfl)))) (fun _ _ _ _ _ => (dts_one (dt_val (de_starts (DE.p (de_slice (DE.p (de_var (pv 0))) (do_some (de_var (pv 6))) do_none)) (de_var (pv 5)))))) (fun _ _ _ _ _ => (de_var (pv 6))))) dap_nil)) da_nil))))))))))) hp) (F.binds (ps := ["word"]) fun _ _ _ _ _ _ us hl => match us, hl with | [_], _ => rfl)
theorem sc_find : FnScope ["word", "pattern", "tails", "place", "low", "tail", "many"] ["word", "pattern"] (defScope s_find) := ⟨rfl, rfl, rfl, by decide +kernel, rfl, by decide +kernel, by decide +kernel⟩
def w_find (ex : Exn → stg.G → Prop) : SW stg :=
  (wSeq (wSet 2 (wI (wL (wLc (wItems (wCallB 1 d_tail_order (wACons (wVar 0) wANil) (xk ex))) (gwN 3) wYes (wSl (wVar 0) (wOSome (wVar 3)) wONone) [3]))))
    (wSeq (wSet 4 (wI (wCB cLen (wACons (wL (wLc (wItems (wVar 2)) (gwN 5) (wB (wBin oLt (wVar 5) (wVar 1))) (wVar 5) [5])) wANil))))
    (wSeq (wSet 6 (wI (wCB cLen (wACons (wL (wLc (wItems (wVar 2)) (gwN 5) (wB (wStarts (wVar 5) (wVar 1))) (wVar 5) [5])) wANil))))
    (wRet (wIf (wB (wBin oGt (wVar 6) (wC (.int 0)))) (wTup (wACons (wC (.str [112, 108, 97, 99, 101, 115])) (wACons (wVar 4) (wACons (wBin oAdd (wVar 4) (wVar 6)) wANil)))) (wTup (wACons (wC (.str [98, 101, 116, 119, 101, 101, 110])) (wACons (wVar 4) wANil))))))))
theorem ok_find {P : Program} {w : World} {K : PySem.W.Frag} {mg : Str → Option Value} {base : Heap} {f : Addr} {fd : FuncData} (F : Fun K "find" "find" s_find f fd) (g : mg "find" = some (.ref f)) (F_tail_order : FnKB P w K mg base 1 "tail_order" ["word"] (liftSp K mg 1 d_tail_order)) (m_len : mg "len" = none)
    (hp : ∀ (ds : List D) (g : Nat) (q : D → Nat → Prop) (ex : Exn → Nat → Prop), ds.length = 2 → d_find ds g q ex → w_find ex (kEndS q) (startD ["word", "pattern", "tails", "place", "low", "tail", "many"] ds) g) : FnB P w K mg base 2 "find" ["word", "pattern"] (liftSp K mg 2 d_find) :=
  fnB_of F g (fnS_of (wb := w_find) F sc_find (fun cdv A outer s H E W0 ex hr hgd tk => (dss_cons (ds_setLcI (i := 2) (own := [("place", 3)]) rfl sc_find.nd rfl rfl (sw_true rfl rfl rfl (by decide +kernel)) (di_seq (de_callF F_tail_order.b hgd hr tk (da_cons (de_var (pv 0)) da_nil))) (blkOk_by (own := [("place", 3)]) (N := ["word", "pattern", "tails", "place", "low", "tail", "many"]) (sc := defScope s_find) (by decide +kernel)) (by decide) (fun _ _ _ _ _ => (dg_name (pg_name (i := 3) sc_find.nd rfl (Or.inl rfl)))) (fun _ _ _ _ _ => dts_nil) (fun _ _ _ _ _ => (de_slice (DE.p (de_var (pv 0))) (do_some (de_var (pv 3))) do_none)))
      (dss_cons (ds_set (i := 4) sc_find.nd rfl (.inl rfl) (DE.v (de_callB calld_len (by rfl) m_len (by decide +kernel) (dap_cons (DN.p (dn_lc (own := [("tail", 5)]) rfl sc_find.nd (di_seq (de_var (pv 2))) (blkOk_by (own := [("tail", 5)]) (N := ["word", "pattern", "tails", "place", "low", "tail", "many"]) (sc := defScope s_find) (by decide +kernel)) (by decide) (fun _ _ _ _ _ => (dg_name (pg_name (i := 5) sc_find.nd rfl (Or.inl rfl)))) (fun _ _ _ _ _ => (dts_one (dt_cmp opd_lt (DE.p (de_var (pv 5))) (DE.p (de_var (pv 1))) (nomark _)))) (fun _ _ _ _ _ => (de_var (pv 5))))) dap_nil))))
      (dss_cons (ds_set (i := 6) sc_find.nd rfl (.inl rfl) (DE.v (de_callB calld_len (by rfl) m_len (by decide +kernel) (dap_cons (DN.p (dn_lc (own := [("tail", 5)]) rfl sc_find.nd (di_seq (de_var (pv 2))) (blkOk_by (own := [("tail", 5)]) (N := ["word", "pattern", "tails", "place", "low", "tail", "many"]) (sc := defScope s_find) (by decide +kernel)) (by decide) (fun _ _ _ _ _ => (dg_name (pg_name (i := 5) sc_find.nd rfl (Or.inl rfl)))) (fun _ _ _ _ _ => (dts_one (dt_val (de_starts (DE.p (de_var (pv 5))) (de_var (pv 1)))))) (fun _ _ _ _ _ => (de_var (pv 5))))) dap_nil))))
      (dss_one (ds_ret (de_if (dt_cmp opd_gt (DE.p (de_var (pv 6))) (DE.p de_int) (nomark _)) (de_tup (da_cons (de_str [112, 108, 97, 99, 101, 115]) (da_cons (de_var (pv 4)) (da_cons (de_op opd_add (DE.p (de_var (pv 4))) (DE.p (de_var (pv 6)))) da_nil)))) (de_tup (da_cons (de_str [98, 101, 116, 119, 101, 101, 110]) (da_cons (de_var (pv 4)) da_nil)))))))))) hp) (F.binds (ps := ["word", "pattern"]) fun _ _ _ _ _ _ us hl => match us, hl with | [_, _], _ => rfl)
theorem sc_each_place : GScope ["word", "pattern", "place"] ["word", "pattern"] (defScope s_each_place) := ⟨rfl, rfl, rfl, by decide +kernel, rfl, by decide +kernel, by decide +kernel⟩
def w_each_place : YW stg :=
  (yFor (wItems (wCallB 1 d_tail_order (wACons (wVar 0) wANil) xno)) (gwN 2) (yIf (wB (wStarts (wSl (wVar 0) (wOSome (wVar 2)) wONone) (wVar 1))) (yYield (wVar 2)) yNext))
theorem ok_each_place {P : Program} {w : World} {K : PySem.W.Frag} {mg : Str → Option Value} {base : Heap} {f : Addr} {fd : FuncData} (F : Fun K "each_place" "each_place" s_each_place f fd) (g : mg "each_place" = some (.ref f)) (F_tail_order : FnKB P w K mg base 1 "tail_order" ["word"] (liftSp K mg 1 d_tail_order))
    (hp : ∀ (ds : List D) (g : Nat) (q : List D → Nat → Prop), ds.length = 2 → d_each_place ds g q → w_each_place (kEndY q) [] (startD ["word", "pattern", "place"] ds) g) : GnB P w K mg base 2 "each_place" ["word", "pattern"] (liftG K 2 d_each_place) :=
  gnB_of F g (gfnD_of (wb := w_each_place) F sc_each_place (fun cdv A outer s H E pn W0 hr => (dys_one (dy_for owns_gcx rfl (di_seq (de_callK F_tail_order hr (da_cons (de_var (pv 0)) da_nil))) (dg_name (pg_name (i := 2) sc_each_place.nd rfl (Or.inl rfl))) (dys_one (dy_if (dt_val (de_starts (DE.p (de_slice (DE.p (de_var (pv 0))) (do_some (de_var (pv 2))) do_none)) (de_var (pv 1)))) (dys_one (dy_yield (de_var (pv 2)))) dys_nil))))) hp) (F.binds (ps := ["word", "pattern"]) fun _ _ _ _ _ _ us hl => match us, hl with | [_, _], _ => rfl)
theorem sc_places_of : FnScope ["word", "pattern", "place"] ["word", "pattern"] (defScope s_places_of) := ⟨rfl, rfl, rfl, by decide +kernel, rfl, by decide +kernel, by decide +kernel⟩
def w_places_of (ex : Exn → stg.G → Prop) : SW stg :=
  (wRet (wCB cTuple (wACons (wL (wLc (wRng1 (wCB cLen (wACons (wVar 0) wANil))) (gwN 2) (wB (wStarts (wSl (wVar 0) (wOSome (wVar 2)) wONone) (wVar 1))) (wVar 2) [2])) wANil)))
theorem ok_places_of {P : Program} {w : World} {K : PySem.W.Frag} {mg : Str → Option Value} {base : Heap} {f : Addr} {fd : FuncData} (F : Fun K "places_of" "places_of" s_places_of f fd) (g : mg "places_of" = some (.ref f)) (m_len : mg "len" = none) (m_range : mg "range" = none) (m_tuple : mg "tuple" = none)
    (hp : ∀ (ds : List D) (g : Nat) (q : D → Nat → Prop) (ex : Exn → Nat → Prop), ds.length = 2 → d_places_of ds g q ex → w_places_of ex (kEndS q) (startD ["word", "pattern", "place"] ds) g) : FnB P w K mg base 1 "places_of" ["word", "pattern"] (liftSp K mg 2 d_places_of) :=
  fnB_of F g (fnS_of (wb := w_places_of) F sc_places_of (fun cdv A outer s H E W0 ex hr hgd tk => (dss_one (ds_ret (de_callTy calld_tuple (by rfl) m_tuple (by decide +kernel) (dap_cons (DN.p (dn_lc (own := [("place", 2)]) rfl sc_places_of.nd (di_range1 m_range (de_callB calld_len (by rfl) m_len (by decide +kernel) (dap_cons (DE.p (de_var (pv 0))) dap_nil))) (blkOk_by (own := [("place", 2)]) (N := ["word", "pattern", "place"]) (sc := defScope s_places_of) (by decide +kernel)) (by decide) (fun _ _ _ _ _ => (dg_name (pg_name (i := 2) sc_places_of.nd rfl (Or.inl rfl)))) (fun _ _ _ _ _ => (dts_one (dt_val (de_starts (DE.p (de_slice (DE.p (de_var (pv 0))) (do_some (de_var (pv 2))) do_none)) (de_var (pv 1)))))) (fun _ _ _ _ _ => (de_var (pv 2))))) dap_nil))))) hp) (F.binds (ps := ["word", "pattern"]) fun _ _ _ _ _ _ us hl => match us, hl with | [_, _], _ => rfl)
theorem sc_is_whole : FnScope ["value"] ["value"] (defScope s_is_whole) := ⟨rfl, rfl, rfl, by decide +kernel, rfl, by decide +kernel, by decide +kernel⟩
def w_is_whole (ex : Exn → stg.G → Prop) : SW stg :=
  (wRet (wAndV (wIsi "int" (wVar 0)) (wNotV (wIsi "bool" (wVar 0)))))
theorem ok_is_whole {P : Program} {w : World} {K : PySem.W.Frag} {mg : Str → Option Value} {base : Heap} {f : Addr} {fd : FuncData} (F : Fun K "is_whole" "is_whole" s_is_whole f fd) (g : mg "is_whole" = some (.ref f)) (m_bool : mg "bool" = none) (m_int : mg "int" = none) (m_isinstance : mg "isinstance" = none)
    (hp : ∀ (ds : List D) (g : Nat) (q : D → Nat → Prop) (ex : Exn → Nat → Prop), ds.length = 1 → d_is_whole ds g q ex → w_is_whole ex (kEndS q) (startD ["value"] ds) g) : FnB P w K mg base 1 "is_whole" ["value"] (liftSp K mg 1 d_is_whole) :=
  fnB_of F g (fnS_of (wb := w_is_whole) F sc_is_whole (fun cdv A outer s H E W0 ex hr hgd tk => (dss_one (ds_ret (de_and (de_isi kit_int (DE.p (de_var (pv 0))) m_isinstance m_int (by decide +kernel)) (de_one (de_not (de_isi kit_bool (DE.p (de_var (pv 0))) m_isinstance m_bool (by decide +kernel)))))))) hp) (F.binds (ps := ["value"]) fun _ _ _ _ _ _ us hl => match us, hl with | [_], _ => rfl)
theorem sc_finding_holds : FnScope ["word", "pattern", "value", "item"] ["word", "pattern", "value"] (defScope s_finding_holds) := ⟨rfl, rfl, rfl, by decide +kernel, rfl, by decide +kernel, by decide +kernel⟩
def w_finding_holds (ex : Exn → stg.G → Prop) : SW stg :=
  (wSeq (wIfS (wOr (wNot (wB (wIsi "tuple" (wVar 2)))) (wOr (wB (wBin (oNilT id) (wVar 2) (wTup wANil))) (wNot (wB (wIsi "str" (wBin oIx (wVar 2) (wC (.int 0)))))))) (wRet (wC (.bl false))) wNext)
    (wRet (wAndV (wCB cAll (wACons (wL (wLc (wItems (wSl (wVar 2) (wOSome (wC (.int 1))) wONone)) (gwN 3) wYes (wCallB 1 d_is_whole (wACons (wVar 3) wANil) xno) [3])) wANil)) (wBin oEq (wVar 2) (wCallB 2 d_find (wACons (wVar 0) (wACons (wVar 1) wANil)) (xk ex))))))
theorem ok_finding_holds {P : Program} {w : World} {K : PySem.W.Frag} {mg : Str → Option Value} {base : Heap} {f : Addr} {fd : FuncData} (F : Fun K "finding_holds" "finding_holds" s_finding_holds f fd) (g : mg "finding_holds" = some (.ref f)) (F_is_whole : FnB P w K mg base 1 "is_whole" ["value"] (liftSp K mg 1 d_is_whole)) (F_find : FnB P w K mg base 2 "find" ["word", "pattern"] (liftSp K mg 2 d_find)) (m_all : mg "all" = none) (m_isinstance : mg "isinstance" = none) (m_str : mg "str" = none) (m_tuple : mg "tuple" = none)
    (hp : ∀ (ds : List D) (g : Nat) (q : D → Nat → Prop) (ex : Exn → Nat → Prop), ds.length = 3 → d_finding_holds ds g q ex → w_finding_holds ex (kEndS q) (startD ["word", "pattern", "value", "item"] ds) g) : FnB P w K mg base 3 "finding_holds" ["word", "pattern", "value"] (liftSp K mg 3 d_finding_holds) :=
  fnB_of F g (fnS_of (wb := w_finding_holds) F sc_finding_holds (fun cdv A outer s H E W0 ex hr hgd tk => (dss_cons (ds_if (DW.t (dw_or (dt_not (dt_val (de_isi kit_tuple (DE.p (de_var (pv 2))) m_isinstance m_tuple (by decide +kernel)))) (dw_or (dt_cmp (opd_eqNilT hr.units) (DE.p (de_var (pv 2))) (DE.p (de_tup da_nil)) (nomark _)) (dw_or1 (dt_not (dt_val (de_isi kit_str (DE.p (de_ix (DE.p (de_var (pv 2))) (DE.p de_int) (fun _ _ => rfl))) m_isinstance m_str (by decide +kernel)))))))) (dss_one (ds_ret de_bl)) dss_nil)
      (dss_one (ds_ret (de_and (de_callB (calld_all rfl) (by rfl) m_all (by decide +kernel) (dap_cons (DN.p (dn_lc (own := [("item", 3)]) rfl sc_finding_holds.nd (di_seq (de_slice (DE.p (de_var (pv 2))) (do_some de_int) do_none)) (blkOk_by (own := [("item", 3)]) (N := ["word", "pattern", "value", "item"]) (sc := defScope s_finding_holds) (by decide +kernel)) (by decide) (fun _ _ _ _ _ => (dg_name (pg_name (i := 3) sc_finding_holds.nd rfl (Or.inl rfl)))) (fun _ _ _ _ _ => dts_nil) (fun _ _ _ _ _ => (de_callF F_is_whole hgd (hr.mono (by decide)) takesD_blk (da_cons (de_var (pv 3)) da_nil))))) dap_nil)) (de_one (de_cmp (opd_eq hr.units) (DE.p (de_var (pv 2))) (DE.p (de_callF F_find hgd hr tk (da_cons (de_var (pv 0)) (da_cons (de_var (pv 1)) da_nil)))) (nomark _)))))))) hp) (F.binds (ps := ["word", "pattern", "value"]) fun _ _ _ _ _ _ us hl => match us, hl with | [_, _, _], _ => rfl)
theorem sc_l_pick : FnScope ["_law_stream_here", "_law_items"] ["_law_stream_here", "_law_items"] (defScope s_l_pick) := ⟨rfl, rfl, rfl, by decide +kernel, rfl, by decide +kernel, by decide +kernel⟩
def w_l_pick (ex : Exn → stg.G → Prop) : SW stg :=
  (wRet (wBin oIx (wVar 1) (wCallB 2 d_l_draw (wACons (wVar 0) (wACons (wCB cLen (wACons (wVar 1) wANil)) wANil)) (xk ex))))
theorem ok_l_pick {P : Program} {w : World} {K : PySem.W.Frag} {mg : Str → Option Value} {base : Heap} {f : Addr} {fd : FuncData} (F : Fun K "_law_pick" "_law_pick" s_l_pick f fd) (g : mg "_law_pick" = some (.ref f)) (F_l_draw : FnB P w K mg base 1 "_law_draw" ["_law_stream_here", "_law_many"] (liftSp K mg 2 d_l_draw)) (m_len : mg "len" = none)
    (hp : ∀ (ds : List D) (g : Nat) (q : D → Nat → Prop) (ex : Exn → Nat → Prop), ds.length = 2 → d_l_pick ds g q ex → w_l_pick ex (kEndS q) (startD ["_law_stream_here", "_law_items"] ds) g) : FnB P w K mg base 2 "_law_pick" ["_law_stream_here", "_law_items"] (liftSp K mg 2 d_l_pick) :=
  fnB_of F g (fnS_of (wb := w_l_pick) F sc_l_pick (fun cdv A outer s H E W0 ex hr hgd tk => (dss_one (ds_ret (de_ix (DE.p (de_var (pv 1))) (DE.p (de_callF F_l_draw hgd hr tk (da_cons (de_var (pv 0)) (da_cons (de_callB calld_len (by rfl) m_len (by decide +kernel) (dap_cons (DE.p (de_var (pv 1))) dap_nil)) da_nil)))) (fun _ _ => rfl))))) hp) (F.binds (ps := ["_law_stream_here", "_law_items"]) fun _ _ _ _ _ _ us hl => match us, hl with | [_, _], _ => rfl)
theorem sc_l_drawn : FnScope ["_law_stream_here", "_law_most", "_law_size", "_law_letters", "_law_found", "_law_k", "_law_many"] ["_law_stream_here", "_law_most"] (defScope s_l_drawn) := ⟨rfl, rfl, rfl, by decide +kernel, rfl, by decide +kernel, by decide +kernel⟩
def w_l_drawn (ex : Exn → stg.G → Prop) : SW stg :=
  (wSeq (wSet 2 (wI (wBin oAdd (wC (.int 1)) (wCallB 2 d_l_draw (wACons (wVar 0) (wACons (wVar 1) wANil)) (xk ex)))))
    (wSeq (wSet 3 (wI (wCallB 2 d_l_pick (wACons (wVar 0) (wACons (wL (wLst (wACons (wC (.str [97])) (wACons (wC (.str [97, 98])) (wACons (wC (.str [97, 98, 99])) (wACons (wC (.str [97, 122])) (wACons (wC (.str [97, 97, 98])) (wACons (wC (.str [97, 98, 99, 100, 101, 102, 103, 104, 105, 106, 107, 108, 109, 110, 111, 112, 113, 114, 115, 116, 117, 118, 119, 120, 121, 122])) wANil)))))))) wANil)) (xk ex))))
    (wSeq (wSet 4 (wO (wLc (wRng1 (wVar 2)) (gwN 5) wYes (wCallB 2 d_l_pick (wACons (wVar 0) (wACons (wVar 3) wANil)) xno) [5])))
    (wSeq (wIfS (wB (wBin oEq (wCallB 2 d_l_draw (wACons (wVar 0) (wACons (wC (.int 3)) wANil)) (xk ex)) (wC (.int 0)))) (wSeq (wSet 6 (wI (wBin oAdd (wC (.int 1)) (wCallB 2 d_l_draw (wACons (wVar 0) (wACons (wCB cMin2 (wACons (wVar 2) (wACons (wC (.int 5)) wANil))) wANil)) (xk ex)))))
    (wSeq (wSet 4 (wO (wLc (wRng1 (wVar 2)) (gwN 5) wYes (wBin oIx (wPk 4) (wBin oMod (wVar 5) (wVar 6))) [5])))
    (wIfS (wB (wBin oEq (wCallB 2 d_l_draw (wACons (wVar 0) (wACons (wC (.int 2)) wANil)) (xk ex)) (wC (.int 0)))) (wStore 4 (wCallB 2 d_l_pick (wACons (wVar 0) (wACons (wC (.str [97, 98, 122])) wANil)) (xk ex)) (wCallB 2 d_l_draw (wACons (wVar 0) (wACons (wVar 2) wANil)) (xk ex))) wNext))) wNext)
    (wRet (wJoin (wC (.str [])) (wPk 4)))))))
theorem ok_l_drawn {P : Program} {w : World} {K : PySem.W.Frag} {mg : Str → Option Value} {base : Heap} {f : Addr} {fd : FuncData} (F : Fun K "_law_drawn" "_law_drawn" s_l_drawn f fd) (g : mg "_law_drawn" = some (.ref f)) (F_l_draw : FnB P w K mg base 1 "_law_draw" ["_law_stream_here", "_law_many"] (liftSp K mg 2 d_l_draw)) (F_l_pick : FnB P w K mg base 2 "_law_pick" ["_law_stream_here", "_law_items"] (liftSp K mg 2 d_l_pick)) (m_min : mg "min" = none) (m_range : mg "range" = none)
    (hp : ∀ (ds : List D) (g : Nat) (q : D → Nat → Prop) (ex : Exn → Nat → Prop), ds.length = 2 → d_l_drawn ds g q ex → w_l_drawn ex (kEndS q) (startD ["_law_stream_here", "_law_most", "_law_size", "_law_letters", "_law_found", "_law_k", "_law_many"] ds) g) : FnB P w K mg base 3 "_law_drawn" ["_law_stream_here", "_law_most"] (liftSp K mg 2 d_l_drawn) :=
  fnB_of F g (fnS_of (wb := w_l_drawn) F sc_l_drawn (fun cdv A outer s H E W0 ex hr hgd tk => (dss_cons (ds_set (i := 2) sc_l_drawn.nd rfl (.inl rfl) (DE.v (de_op opd_add (DE.p de_int) (DE.p (de_callF F_l_draw hgd (hr.mono (by decide)) tk (da_cons (de_var (pv 0)) (da_cons (de_var (pv 1)) da_nil)))))))
      (dss_cons (ds_set (i := 3) sc_l_drawn.nd rfl (.inr rfl) (DE.v (de_callF F_l_pick hgd hr tk (da_cons (de_var (pv 0)) (da_cons (DN.fr (dn_lst (da_cons (de_str [97]) (da_cons (de_str [97, 98]) (da_cons (de_str [97, 98, 99]) (da_cons (de_str [97, 122]) (da_cons (de_str [97, 97, 98]) (da_cons (de_str [97, 98, 99, 100, 101, 102, 103, 104, 105, 106, 107, 108, 109, 110, 111, 112, 113, 114, 115, 116, 117, 118, 119, 120, 121, 122]) da_nil)))))))) da_nil)))))
      (dss_cons (ds_set (i := 4) sc_l_drawn.nd rfl (.inr rfl) (DN.v (dn_lc (own := [("_law_k", 5)]) rfl sc_l_drawn.nd (di_range1 m_range (de_var (pv 2))) (blkOk_by (own := [("_law_k", 5)]) (N := ["_law_stream_here", "_law_most", "_law_size", "_law_letters", "_law_found", "_law_k", "_law_many"]) (sc := defScope s_l_drawn) (by decide +kernel)) (by decide) (fun _ _ _ _ _ => (dg_name (pg_name (i := 5) sc_l_drawn.nd rfl (Or.inl rfl)))) (fun _ _ _ _ _ => dts_nil) (fun _ _ _ _ _ => (de_callF F_l_pick hgd hr takesD_blk (da_cons (de_var (pv 0)) (da_cons (de_var (pv 3)) da_nil)))))))
      (dss_cons (ds_if (dt_cmp (opd_eq hr.units) (DE.p (de_callF F_l_draw hgd (hr.mono (by decide)) tk (da_cons (de_var (pv 0)) (da_cons de_int da_nil)))) (DE.p de_int) (nomark _)) (dss_cons (ds_set (i := 6) sc_l_drawn.nd rfl (.inr rfl) (DE.v (de_op opd_add (DE.p de_int) (DE.p (de_callF F_l_draw hgd (hr.mono (by decide)) tk (da_cons (de_var (pv 0)) (da_cons (de_callB (calld_min2 rfl) (by rfl) m_min (by decide +kernel) (dap_cons (DE.p (de_var (pv 2))) (dap_cons (DE.p de_int) dap_nil))) da_nil)))))))
      (dss_cons (ds_set (i := 4) sc_l_drawn.nd rfl (.inr rfl) (DN.v (dn_lc (own := [("_law_k", 5)]) rfl sc_l_drawn.nd (di_range1 m_range (de_var (pv 2))) (blkOk_by (own := [("_law_k", 5)]) (N := ["_law_stream_here", "_law_most", "_law_size", "_law_letters", "_law_found", "_law_k", "_law_many"]) (sc := defScope s_l_drawn) (by decide +kernel)) (by decide) (fun _ _ _ _ _ => (dg_name (pg_name (i := 5) sc_l_drawn.nd rfl (Or.inl rfl)))) (fun _ _ _ _ _ => dts_nil) (fun _ _ _ _ _ => (de_ix (dp_own (pv 4)) (DE.p (de_op opd_mod (DE.p (de_var (pv 5))) (DE.p (de_var (pv 6))))) (fun _ _ => rfl))))))
      (dss_one (ds_if (dt_cmp (opd_eq hr.units) (DE.p (de_callF F_l_draw hgd (hr.mono (by decide)) tk (da_cons (de_var (pv 0)) (da_cons de_int da_nil)))) (DE.p de_int) (nomark _)) (dss_one (ds_store (i := 4) (pv 4) (de_callF F_l_pick hgd hr tk (da_cons (de_var (pv 0)) (da_cons (de_str [97, 98, 122]) da_nil))) (de_callF F_l_draw hgd (hr.mono (by decide)) tk (da_cons (de_var (pv 0)) (da_cons (de_var (pv 2)) da_nil))))) dss_nil)))) dss_nil)
      (dss_one (ds_ret (de_join (de_str []) (dp_own (pv 4)))))))))) hp) (F.binds (ps := ["_law_stream_here", "_law_most"]) fun _ _ _ _ _ _ us hl => match us, hl with | [_, _], _ => rfl)
theorem sc_l_pattern_right : FnScope ["_law_word", "_law_order", "_law_rows", "_law_pattern", "_law_found", "_law_places", "_law_less", "_law_place", "_law_more"] ["_law_word", "_law_order", "_law_rows", "_law_pattern"] (defScope s_l_pattern_right) := ⟨rfl, rfl, rfl, by decide +kernel, rfl, by decide +kernel, by decide +kernel⟩
def w_l_pattern_right (ex : Exn → stg.G → Prop) : SW stg :=
  (wSeq (wPar 4 5 (wI (wCallB 2 d_find (wACons (wVar 0) (wACons (wVar 3) wANil)) (xk ex))) (wI (wCallB 2 d_places_of (wACons (wVar 0) (wACons (wVar 3) wANil)) (xk ex))))
    (wSeq (wIfS (wOr (wB (wBin oNotT (wCallB 3 d_finding_holds (wACons (wVar 0) (wACons (wVar 3) (wACons (wVar 4) wANil))) (xk ex)) (wC (.bl true)))) (wB (wBin oNe (wBin (oNilT not) (wVar 5) (wTup wANil)) (wBin oIn (wVar 3) (wVar 2))))) (wRet (wC (.bl false))) wNext)
    (wSeq (wIfS (wB (wBin oEq (wBin oIx (wVar 4) (wC (.int 0))) (wC (.str [112, 108, 97, 99, 101, 115])))) (wSeq (wIfS (wOr (wB (wBin oNe (wL (wCN cListX (wACons (wSl (wVar 1) (wOSome (wBin oIx (wVar 4) (wC (.int 1)))) (wOSome (wBin oIx (wVar 4) (wC (.int 2))))) wANil))) (wL (wListG 2 d_each_place (wACons (wVar 0) (wACons (wVar 3) wANil)))))) (wB (wBin oIsN (wCallB 2 d_part_index (wACons (wVar 0) (wACons (wVar 3) wANil)) (xk ex)) (wC .non)))) (wRet (wC (.bl false))) wNext)
    (wSeq (wIfS (wB (wBin oNe (wL (wCN cSortedIT (wACons (wSl (wVar 1) (wOSome (wBin oIx (wVar 4) (wC (.int 1)))) (wOSome (wBin oIx (wVar 4) (wC (.int 2))))) wANil))) (wL (wCN cListX (wACons (wVar 5) wANil))))) (wRet (wC (.bl false))) wNext)
    (wRet (wBin oEq (wCallB 2 d_part_at (wACons (wVar 0) (wACons (wCallB 2 d_part_index (wACons (wVar 0) (wACons (wVar 3) wANil)) (xk ex)) wANil)) (xk ex)) (wVar 3))))) wNext)
    (wSeq (wIfS (wOr (wB (wBin oNotN (wCallB 2 d_part_index (wACons (wVar 0) (wACons (wVar 3) wANil)) (xk ex)) (wC .non))) (wB (wBin (oNilT not) (wVar 5) (wTup wANil)))) (wRet (wC (.bl false))) wNext)
    (wSeq (wSet 6 (wI (wL (wLc (wItems (wVar 1)) (gwN 7) (wB (wBin oLt (wSl (wVar 0) (wOSome (wVar 7)) wONone) (wVar 3))) (wVar 7) [7]))))
    (wSeq (wSet 8 (wI (wL (wLc (wItems (wVar 1)) (gwN 7) (wB (wBin oGt (wSl (wVar 0) (wOSome (wVar 7)) wONone) (wVar 3))) (wVar 7) [7]))))
    (wRet (wAndV (wBin oEq (wL (wCN cListX (wACons (wSl (wVar 1) wONone (wOSome (wBin oIx (wVar 4) (wC (.int 1))))) wANil))) (wVar 6)) (wBin oEq (wL (wCN cListX (wACons (wSl (wVar 1) (wOSome (wBin oIx (wVar 4) (wC (.int 1)))) wONone) wANil))) (wVar 8))))))))))
theorem ok_l_pattern_right {P : Program} {w : World} {K : PySem.W.Frag} {mg : Str → Option Value} {base : Heap} {f : Addr} {fd : FuncData} (F : Fun K "_law_pattern_right" "_law_pattern_right" s_l_pattern_right f fd) (g : mg "_law_pattern_right" = some (.ref f)) (F_find : FnB P w K mg base 2 "find" ["word", "pattern"] (liftSp K mg 2 d_find)) (F_places_of : FnB P w K mg base 1 "places_of" ["word", "pattern"] (liftSp K mg 2 d_places_of)) (F_finding_holds : FnB P w K mg base 3 "finding_holds" ["word", "pattern", "value"] (liftSp K mg 3 d_finding_holds)) (F_each_place : GnB P w K mg base 2 "each_place" ["word", "pattern"] (liftG K 2 d_each_place)) (F_part_index : FnB P w K mg base 4 "part_index" ["word", "value"] (liftSp K mg 2 d_part_index)) (F_part_at : FnB P w K mg base 5 "part_at" ["word", "index"] (liftSp K mg 2 d_part_at)) (m_list : mg "list" = none) (m_sorted : mg "sorted" = none)
    (hp : ∀ (ds : List D) (g : Nat) (q : D → Nat → Prop) (ex : Exn → Nat → Prop), ds.length = 4 → d_l_pattern_right ds g q ex → w_l_pattern_right ex (kEndS q) (startD ["_law_word", "_law_order", "_law_rows", "_law_pattern", "_law_found", "_law_places", "_law_less", "_law_place", "_law_more"] ds) g) : FnB P w K mg base 6 "_law_pattern_right" ["_law_word", "_law_order", "_law_rows", "_law_pattern"] (liftSp K mg 4 d_l_pattern_right) :=
  fnB_of F g (fnS_of (wb := w_l_pattern_right) F sc_l_pattern_right (fun cdv A outer s H E W0 ex hr hgd tk => (dss_cons (ds_par (i := 4) (j := 5) rfl sc_l_pattern_right.nd rfl rfl (by decide) rfl rfl (DE.v (de_callF F_find hgd (hr.mono (by decide)) tk (da_cons (de_var (pv 0)) (da_cons (de_var (pv 3)) da_nil)))) (DE.v (de_callF F_places_of hgd (hr.mono (by decide)) tk (da_cons (de_var (pv 0)) (da_cons (de_var (pv 3)) da_nil)))))
      (dss_cons (ds_if (DW.t (dw_or (dt_cmp opd_notT (DE.p (de_callF F_finding_holds hgd (hr.mono (by decide)) tk (da_cons (de_var (pv 0)) (da_cons (de_var (pv 3)) (da_cons (de_var (pv 4)) da_nil))))) (DE.p de_bl) (nomark _)) (dw_or1 (dt_cmp (opd_ne hr.units) (DE.p (de_cmp (opd_neNilT hr.units) (DE.p (de_var (pv 5))) (DE.p (de_tup da_nil)) (nomark _))) (DE.p (de_cmp opd_in (DE.p (de_var (pv 3))) (DE.p (de_var (pv 2))) rfl)) (nomark _))))) (dss_one (ds_ret de_bl)) dss_nil)
      (dss_cons (ds_if (dt_cmp (opd_eq hr.units) (DE.p (de_ix (DE.p (de_var (pv 4))) (DE.p de_int) (fun _ _ => rfl))) (DE.p (de_str [112, 108, 97, 99, 101, 115])) (nomark _)) (dss_cons (ds_if (DW.t (dw_or (dt_cmp (opd_ne hr.units) (DN.p (dn_callTy (calln_listX rfl) (by rfl) m_list (by decide +kernel) (dap_cons (DE.p (de_slice (DE.p (de_var (pv 1))) (do_some (de_ix (DE.p (de_var (pv 4))) (DE.p de_int) (fun _ _ => rfl))) (do_some (de_ix (DE.p (de_var (pv 4))) (DE.p de_int) (fun _ _ => rfl))))) dap_nil))) (DN.p (dn_listG F_each_place hr (da_cons (de_var (pv 0)) (da_cons (de_var (pv 3)) da_nil)) m_list)) (nomark _)) (dw_or1 (dt_cmp opd_isN (DE.p (de_callF F_part_index hgd (hr.mono (by decide)) tk (da_cons (de_var (pv 0)) (da_cons (de_var (pv 3)) da_nil)))) (DE.p de_non) (nomark _))))) (dss_one (ds_ret de_bl)) dss_nil)
      (dss_cons (ds_if (dt_cmp (opd_ne hr.units) (DN.p (dn_callB calln_sortedIT (by rfl) m_sorted (by decide +kernel) (dap_cons (DE.p (de_slice (DE.p (de_var (pv 1))) (do_some (de_ix (DE.p (de_var (pv 4))) (DE.p de_int) (fun _ _ => rfl))) (do_some (de_ix (DE.p (de_var (pv 4))) (DE.p de_int) (fun _ _ => rfl))))) dap_nil))) (DN.p (dn_callTy (calln_listX rfl) (by rfl) m_list (by decide +kernel) (dap_cons (DE.p (de_var (pv 5))) dap_nil))) (nomark _)) (dss_one (ds_ret de_bl)) dss_nil)
      (dss_one (ds_ret (de_cmp (opd_eq hr.units) (DE.p (de_callF F_part_at hgd hr tk (da_cons (de_var (pv 0)) (da_cons (de_callF F_part_index hgd (hr.mono (by decide)) tk (da_cons (de_var (pv 0)) (da_cons (de_var (pv 3)) da_nil))) da_nil)))) (DE.p (de_var (pv 3))) (nomark _)))))) dss_nil)
      (dss_cons (ds_if (DW.t (dw_or (dt_cmp opd_notN (DE.p (de_callF F_part_index hgd (hr.mono (by decide)) tk (da_cons (de_var (pv 0)) (da_cons (de_var (pv 3)) da_nil)))) (DE.p de_non) (nomark _)) (dw_or1 (dt_cmp (opd_neNilT hr.units) (DE.p (de_var (pv 5))) (DE.p (de_tup da_nil)) (nomark _))))) (dss_one (ds_ret de_bl)) dss_nil)
      (dss_cons (ds_setLcI (i := 6) (own := [("_law_place", 7)]) rfl sc_l_pattern_right.nd rfl rfl (sw_true rfl rfl rfl (by decide +kernel)) (di_seq (de_var (pv 1))) (blkOk_by (own := [("_law_place", 7)]) (N := ["_law_word", "_law_order", "_law_rows", "_law_pattern", "_law_found", "_law_places", "_law_less", "_law_place", "_law_more"]) (sc := defScope s_l_pattern_right) (by decide +kernel)) (by decide) (fun _ _ _ _ _ => (dg_name (pg_name (i := 7) sc_l_pattern_right.nd rfl (Or.inl rfl)))) (fun _ _ _ _ _ => (dts_one (dt_cmp opd_lt (DE.p (de_slice (DE.p (de_var (pv 0))) (do_some (de_var (pv 7))) do_none)) (DE.p (de_var (pv 3))) (nomark _)))) (fun _ _ _ _ _ => (de_var (pv 7))))
      (dss_cons (ds_setLcI (i := 8) (own := [("_law_place", 7)]) rfl sc_l_pattern_right.nd rfl rfl (sw_true rfl rfl rfl (by decide +kernel)) (di_seq (de_var (pv 1))) (blkOk_by (own := [("_law_place", 7)]) (N := ["_law_word", "_law_order", "_law_rows", "_law_pattern", "_law_found", "_law_places", "_law_less", "_law_place", "_law_more"]) (sc := defScope s_l_pattern_right) (by decide +kernel)) (by decide) (fun _ _ _ _ _ => (dg_name (pg_name (i := 7) sc_l_pattern_right.nd rfl (Or.inl rfl)))) (fun _ _ _ _ _ => (dts_one (dt_cmp opd_gt (DE.p (de_slice (DE.p (de_var (pv 0))) (do_some (de_var (pv 7))) do_none)) (DE.p (de_var (pv 3))) (nomark _)))) (fun _ _ _ _ _ => (de_var (pv 7))))
      (dss_one (ds_ret (de_and (de_cmp (opd_eq hr.units) (DN.p (dn_callTy (calln_listX rfl) (by rfl) m_list (by decide +kernel) (dap_cons (DE.p (de_slice (DE.p (de_var (pv 1))) do_none (do_some (de_ix (DE.p (de_var (pv 4))) (DE.p de_int) (fun _ _ => rfl))))) dap_nil))) (DE.p (de_var (pv 6))) (nomark _)) (de_one (de_cmp (opd_eq hr.units) (DN.p (dn_callTy (calln_listX rfl) (by rfl) m_list (by decide +kernel) (dap_cons (DE.p (de_slice (DE.p (de_var (pv 1))) (do_some (de_ix (DE.p (de_var (pv 4))) (DE.p de_int) (fun _ _ => rfl))) do_none)) dap_nil))) (DE.p (de_var (pv 8))) (nomark _))))))))))))) hp) (F.binds (ps := ["_law_word", "_law_order", "_law_rows", "_law_pattern"]) fun _ _ _ _ _ _ us hl => match us, hl with | [_, _, _, _], _ => rfl)
theorem sc_law : FnScope ["_law_script", "_law_stream_here", "_law_turn", "_law_word", "_law_order", "_law_rows", "_law_some", "_law_k", "_law_pattern", "_law_twice", "_law_longest", "_law_part"] ["_law_script"] (defScope s_law) := ⟨rfl, rfl, rfl, by decide +kernel, rfl, by decide +kernel, by decide +kernel⟩
def w_law : SW stg :=
  (wSeq (wFor (wRng1 (wC (.int 2))) (gwN 2) (wSeq (wSet 3 (wI (wCallB 2 d_l_drawn (wACons (wVar 1) (wACons (wBin oIx (wL (wLst (wACons (wC (.int 24)) (wACons (wC (.int 10)) wANil)))) (wVar 2)) wANil)) xno)))
    (wSeq (wAsgT (wTup (wACons (wCallB 1 d_tail_order (wACons (wVar 3) wANil) xno) (wACons (wL (wListG 1 d_each_part (wACons (wVar 3) wANil))) wANil))) (gwT 2 (gwCons (gwN 4) (gwCons (gwN 5) gwNil))))
    (wSeq (wIfS (wOr (wB (wBin oNe (wVar 5) (wL (wCN cSortedSet (wACons (wVar 5) wANil))))) (wB (wBin oNe (wCB cLen (wACons (wVar 5) wANil)) (wCallB 1 d_count_parts (wACons (wVar 3) wANil) xno)))) (wRet (wC (.bl false))) wNext)
    (wSeq (wSet 6 (wI (wIf (wB (wBin oLt (wCB cLen (wACons (wVar 5) wANil)) (wC (.int 60)))) (wVar 5) (wL (wLc (wRng1 (wC (.int 40))) (gwN 7) wYes (wCallB 2 d_l_pick (wACons (wVar 1) (wACons (wVar 5) wANil)) xno) [7])))))
    (wSeq (wFor (wItems (wVar 6)) (gwN 8) (wIfS (wOr (wNot (wB (wCallB 4 d_l_pattern_right (wACons (wVar 3) (wACons (wVar 4) (wACons (wVar 5) (wACons (wVar 8) wANil)))) xno))) (wB (wBin oNe (wBin oIx (wVar 5) (wCallB 2 d_part_index (wACons (wVar 3) (wACons (wVar 8) wANil)) xno)) (wVar 8)))) (wRet (wC (.bl false))) wNext))
    (wSeq (wFor (wRng1 (wC (.int 12))) (gwN 7) (wIfS (wNot (wB (wCallB 4 d_l_pattern_right (wACons (wVar 3) (wACons (wVar 4) (wACons (wVar 5) (wACons (wCallB 2 d_l_drawn (wACons (wVar 1) (wACons (wBin oIx (wL (wLst (wACons (wC (.int 3)) (wACons (wC (.int 24)) wANil)))) (wBin oMod (wVar 7) (wC (.int 2)))) wANil)) xno) wANil)))) xno))) (wRet (wC (.bl false))) wNext))
    (wSeq (wSet 9 (wI (wCallB 1 d_longest_twice (wACons (wVar 3) wANil) xno)))
    (wSeq (wIfS (wAnd (wB (wBin oNotN (wVar 9) (wC .non))) (wB (wBin oNe (wCallB 2 d_places_of (wACons (wVar 3) (wACons (wBin oIx (wVar 9) (wC (.int 0))) wANil)) xno) (wBin oIx (wVar 9) (wC (.int 1)))))) (wRet (wC (.bl false))) wNext)
    (wSeq (wSet 10 (wI (wIf (wB (wBin oIsN (wVar 9) (wC .non))) (wC (.int 0)) (wCB cLen (wACons (wBin oIx (wVar 9) (wC (.int 0))) wANil)))))
    (wIfS (wB (wBin (oNil not) (wL (wLc (wItems (wVar 5)) (gwN 11) (wAnd (wB (wBin oGt (wCB cLen (wACons (wVar 11) wANil)) (wVar 10))) (wB (wBin oGt (wCB cLen (wACons (wCallB 2 d_places_of (wACons (wVar 3) (wACons (wVar 11) wANil)) xno) wANil)) (wC (.int 1))))) (wVar 11) [11])) (wL (wLst wANil)))) (wRet (wC (.bl false))) wNext)))))))))))
    (wRet (wC (.bl true))))
theorem ok_law {P : Program} {w : World} {K : PySem.W.Frag} {mg : Str → Option Value} {base : Heap} {f fs : Addr} {fd fds : FuncData} (F : Fun K "law" "law" s_law f fd) (FS : FnG P w K mg base 1 fs fds ["_law_script"] (spStream K)) (gs : mg "_law_stream" = some (.ref fs)) (ks : PySem.W.keepIn K (.ref fs) = true) (bs : Binds K fds ["_law_script"] []) (F_l_drawn : FnB P w K mg base 3 "_law_drawn" ["_law_stream_here", "_law_most"] (liftSp K mg 2 d_l_drawn)) (F_each_part : GnB P w K mg base 4 "each_part" ["word"] (liftG K 1 d_each_part)) (F_tail_order : FnKB P w K mg base 1 "tail_order" ["word"] (liftSp K mg 1 d_tail_order)) (F_count_parts : FnB P w K mg base 4 "count_parts" ["word"] (liftSp K mg 1 d_count_parts)) (F_l_pick : FnB P w K mg base 2 "_law_pick" ["_law_stream_here", "_law_items"] (liftSp K mg 2 d_l_pick)) (F_l_pattern_right : FnB P w K mg base 6 "_law_pattern_right" ["_law_word", "_law_order", "_law_rows", "_law_pattern"] (liftSp K mg 4 d_l_pattern_right)) (F_part_index : FnB P w K mg base 4 "part_index" ["word", "value"] (liftSp K mg 2 d_part_index)) (F_longest_twice : FnB P w K mg base 3 "longest_twice" ["word"] (liftSp K mg 1 d_longest_twice)) (F_places_of : FnB P w K mg base 1 "places_of" ["word", "pattern"] (liftSp K mg 2 d_places_of)) (m_len : mg "len" = none) (m_list : mg "list" = none) (m_range : mg "range" = none) (m_set : mg "set" = none) (m_sorted : mg "sorted" = none)
    (hp : w_law kLaw (rhoLaw 12 1) (0 : Nat)) : FnG P w K mg base 8 f fd ["_law_script"] (spLaw K) :=
  law_of F sc_law (by decide) rfl (fun cdv A outer s H E hr hgd => ps_set (i := 1) sc_law.nd rfl (.inr rfl) (pe_callG FS hgd (hr.mono (by decide)) rfl gs ks bs (fun σ pins H s e s2 => passL pins σ H s e s2) (pa_cons (pv 0) pa_nil)))
    (fun cdv A outer s H E W0 hr hgd tk => (dss_cons (ds_for (passes_of rfl) rfl (di_range1 m_range de_int) (dg_name (pg_name (i := 2) sc_law.nd rfl (Or.inl rfl))) (dss_cons (ds_set (i := 3) sc_law.nd rfl (.inr rfl) (DE.v (de_callF F_l_drawn hgd (hr.mono (by decide)) tk (da_cons (de_var (pv 1)) (da_cons (de_ix (DN.p (dn_lst (da_cons de_int (da_cons de_int da_nil)))) (DE.p (de_var (pv 2))) (fun _ _ => rfl)) da_nil)))))
      (dss_cons (ds_asgT (de_tup (da_cons (de_callF F_tail_order.b hgd (hr.mono (by decide)) tk (da_cons (de_var (pv 3)) da_nil)) (da_cons (DN.fr (dn_listG F_each_part hr (da_cons (de_var (pv 3)) da_nil) m_list)) da_nil))) (dg_tup rfl (dgs_cons (dg_name (pg_name (i := 4) sc_law.nd rfl (Or.inl rfl))) (dgs_cons (dg_name (pg_name (i := 5) sc_law.nd rfl (Or.inr rfl))) dgs_nil))))
      (dss_cons (ds_if (DW.t (dw_or (dt_cmp (opd_ne hr.units) (DE.p (de_var (pv 5))) (DN.p (dn_sortedSet rfl m_sorted m_set (dap_cons (DE.p (de_var (pv 5))) dap_nil))) (nomark _)) (dw_or1 (dt_cmp (opd_ne hr.units) (DE.p (de_callB calld_len (by rfl) m_len (by decide +kernel) (dap_cons (DE.p (de_var (pv 5))) dap_nil))) (DE.p (de_callF F_count_parts hgd (hr.mono (by decide)) tk (da_cons (de_var (pv 3)) da_nil))) (nomark _))))) (dss_one (ds_ret de_bl)) dss_nil)
      (dss_cons (ds_set (i := 6) sc_law.nd rfl (.inl rfl) (DE.v (de_if (dt_cmp opd_lt (DE.p (de_callB calld_len (by rfl) m_len (by decide +kernel) (dap_cons (DE.p (de_var (pv 5))) dap_nil))) (DE.p de_int) (nomark _)) (de_var (pv 5)) (DN.fr (dn_lc (own := [("_law_k", 7)]) rfl sc_law.nd (di_range1 m_range de_int) (blkOk_by (own := [("_law_k", 7)]) (N := ["_law_script", "_law_stream_here", "_law_turn", "_law_word", "_law_order", "_law_rows", "_law_some", "_law_k", "_law_pattern", "_law_twice", "_law_longest", "_law_part"]) (sc := defScope s_law) (by decide +kernel)) (by decide) (fun _ _ _ _ _ => (dg_name (pg_name (i := 7) sc_law.nd rfl (Or.inl rfl)))) (fun _ _ _ _ _ => dts_nil) (fun _ _ _ _ _ => (de_callF F_l_pick hgd (hr.mono (by decide)) takesD_blk (da_cons (de_var (pv 1)) (da_cons (de_var (pv 5)) da_nil)))))))))
      (dss_cons (ds_for (passes_of rfl) rfl (di_seq (de_var (pv 6))) (dg_name (pg_name (i := 8) sc_law.nd rfl (Or.inl rfl))) (dss_one (ds_if (DW.t (dw_or (dt_not (dt_val (de_callF F_l_pattern_right hgd (hr.mono (by decide)) tk (da_cons (de_var (pv 3)) (da_cons (de_var (pv 4)) (da_cons (de_var (pv 5)) (da_cons (de_var (pv 8)) da_nil))))))) (dw_or1 (dt_cmp (opd_ne hr.units) (DE.p (de_ix (DE.p (de_var (pv 5))) (DE.p (de_callF F_part_index hgd (hr.mono (by decide)) tk (da_cons (de_var (pv 3)) (da_cons (de_var (pv 8)) da_nil)))) (fun _ _ => rfl))) (DE.p (de_var (pv 8))) (nomark _))))) (dss_one (ds_ret de_bl)) dss_nil)))
      (dss_cons (ds_for (passes_of rfl) rfl (di_range1 m_range de_int) (dg_name (pg_name (i := 7) sc_law.nd rfl (Or.inl rfl))) (dss_one (ds_if (dt_not (dt_val (de_callF F_l_pattern_right hgd (hr.mono (by decide)) tk (da_cons (de_var (pv 3)) (da_cons (de_var (pv 4)) (da_cons (de_var (pv 5)) (da_cons (de_callF F_l_drawn hgd (hr.mono (by decide)) tk (da_cons (de_var (pv 1)) (da_cons (de_ix (DN.p (dn_lst (da_cons de_int (da_cons de_int da_nil)))) (DE.p (de_op opd_mod (DE.p (de_var (pv 7))) (DE.p de_int))) (fun _ _ => rfl)) da_nil))) da_nil))))))) (dss_one (ds_ret de_bl)) dss_nil)))
      (dss_cons (ds_set (i := 9) sc_law.nd rfl (.inl rfl) (DE.v (de_callF F_longest_twice hgd (hr.mono (by decide)) tk (da_cons (de_var (pv 3)) da_nil))))
      (dss_cons (ds_if (DW.t (dw_and (dt_cmp opd_notN (DE.p (de_var (pv 9))) (DE.p de_non) (nomark _)) (dw_and1 (dt_cmp (opd_ne hr.units) (DE.p (de_callF F_places_of hgd (hr.mono (by decide)) tk (da_cons (de_var (pv 3)) (da_cons (de_ix (DE.p (de_var (pv 9))) (DE.p de_int) (fun _ _ => rfl)) da_nil)))) (DE.p (de_ix (DE.p (de_var (pv 9))) (DE.p de_int) (fun _ _ => rfl))) (nomark _))))) (dss_one (ds_ret de_bl)) dss_nil)
      (dss_cons (ds_set (i := 10) sc_law.nd rfl (.inr rfl) (DE.v (de_if (dt_cmp opd_isN (DE.p (de_var (pv 9))) (DE.p de_non) (nomark _)) de_int (de_callB calld_len (by rfl) m_len (by decide +kernel) (dap_cons (DE.p (de_ix (DE.p (de_var (pv 9))) (DE.p de_int) (fun _ _ => rfl))) dap_nil)))))
      (dss_one (ds_if (dt_cmp (opd_neNil hr.units) (DN.p (dn_lc (own := [("_law_part", 11)]) rfl sc_law.nd (di_seq (de_var (pv 5))) (blkOk_by (own := [("_law_part", 11)]) (N := ["_law_script", "_law_stream_here", "_law_turn", "_law_word", "_law_order", "_law_rows", "_law_some", "_law_k", "_law_pattern", "_law_twice", "_law_longest", "_law_part"]) (sc := defScope s_law) (by decide +kernel)) (by decide) (fun _ _ _ _ _ => (dg_name (pg_name (i := 11) sc_law.nd rfl (Or.inl rfl)))) (fun _ _ _ _ _ => (dts_one (DW.t (dw_and (dt_cmp opd_gt (DE.p (de_callB calld_len (by rfl) m_len (by decide +kernel) (dap_cons (DE.p (de_var (pv 11))) dap_nil))) (DE.p (de_var (pv 10))) (nomark _)) (dw_and1 (dt_cmp opd_gt (DE.p (de_callB calld_len (by rfl) m_len (by decide +kernel) (dap_cons (DE.p (de_callF F_places_of hgd (hr.mono (by decide)) takesD_blk (da_cons (de_var (pv 3)) (da_cons (de_var (pv 11)) da_nil)))) dap_nil))) (DE.p de_int) (nomark _))))))) (fun _ _ _ _ _ => (de_var (pv 11))))) (DN.p (dn_lst da_nil)) (nomark _)) (dss_one (ds_ret de_bl)) dss_nil))))))))))))
      (dss_one (ds_ret de_bl)))) hp

end LW
set_option Elab.async false
set_option linter.all false
set_option maxRecDepth 100000
set_option maxHeartbeats 4000000
namespace LW
open PySem L2 DL
theorem p_is_integer (ds : List D) (g : Nat) (q : D → Nat → Prop) (ex : Exn → Nat → Prop) (hl : ds.length = 3) (h : d_is_integer ds g q ex) : w_is_integer ex (kEndS q) (startD ["value", "low", "high"] ds) g := by
  obtain ⟨v, lo, hi, rfl, ⟨t, ht⟩, hq⟩ := h
  simp [w_is_integer]
  refine ⟨_, ht, ?_⟩
  cases v with
  | int i =>
    cases ht
    simp [isTyp, isInt] at hq ⊢
    by_cases c : lo ≤ i
    · rw [if_pos c]
      simp [c] at hq
      exact ⟨_, Nat.le_refl _, hq⟩
    · rw [if_neg c]
      simp [c] at hq
      exact ⟨_, Nat.le_refl _, hq⟩
  | bl b =>
    cases ht
    simp [isTyp, isInt] at hq ⊢
    exact ⟨_, Nat.le_refl _, hq⟩
  | ob => cases ht
  | exn => cases ht
  | tx => cases ht
  | _ =>
    cases ht
    simp [isTyp, isInt] at hq ⊢
    exact ⟨_, Nat.le_refl _, hq⟩
theorem p_tail_order (ds : List D) (g : Nat) (q : D → Nat → Prop) (ex : Exn → Nat → Prop) (hl : ds.length = 1) (h : d_tail_order ds g q ex) : w_tail_order ex (kEndS q) (startD ["word", "tail", "place"] ds) g := by
  obtain ⟨w, rfl, hw, hq⟩ := h
  simp [w_tail_order]
  refine ⟨small_line (by omega), by omega, by rw [rngL_len]; exact small_line (by omega), ?_⟩
  rw [rngL_0]
  refine lcW_all (M := stg) _ (fun i : Nat => pairTI (w.drop i, (i : Int))) (List.range w.length) (fun i hi k1 k0 hk => ?_) ?_
  · simp
    refine ⟨small_line (by omega), small_line (by decide), ?_⟩
    rw [cut_from]
    exact hk
  · refine ⟨(List.range w.length).map fun i : Nat => (w.drop i, (i : Int)), by rw [List.map_map]; rfl, fun ys hp hs => ⟨by rw [List.length_map, hp.length_eq]; simp; exact small_line (by omega), ?_⟩⟩
    refine lcW_all (M := stg) pairTI (fun y => D.int y.2) ys (fun y hy k1 k0 hk => ?_) ⟨g, Nat.le_refl _, ?_⟩
    · simp [pairTI, gwT]
      exact hk
    · rw [sorted_TO hp hs]
      exact hq
theorem p_agreement (ds : List D) (g : Nat) (q : D → Nat → Prop) (ex : Exn → Nat → Prop) (hl : ds.length = 2) (h : d_agreement ds g q ex) : w_agreement ex (kEndS q) (startD ["one", "other", "found", "letter", "partner"] ds) g := by
  obtain ⟨a, b, rfl, ha, hb, hq⟩ := h
  simp [w_agreement]
  refine forW_word (M := stg) (fun i ρ (g' : Nat) => g' = g ∧ (∀ j, j < i → a[j]? = b[j]?) ∧ ∃ y3 y4, ρ = [.im (.str a), .im (.str b), .im (.int (i : Int)), y3, y4]) _ ⟨rfl, fun j hj => by omega, _, _, rfl⟩ (fun i d ρ g' K hd hI hK => ?_) (fun ρ g' hI => ?_)
  · obtain ⟨rfl, hI, y3, y4, rfl⟩ := hI
    obtain ⟨x, y, hx, hy, rfl⟩ := zip_get hd
    rw [List.getElem?_map] at hx hy
    obtain ⟨c, hc, rfl⟩ := Option.map_eq_some_iff.mp hx
    obtain ⟨e, he, rfl⟩ := Option.map_eq_some_iff.mp hy
    have hia := (List.getElem?_eq_some_iff.mp hc).1
    have hib := (List.getElem?_eq_some_iff.mp he).1
    simp [gwT]
    by_cases ce : c = e
    · rw [if_pos ce]
      refine hK _ _ ⟨rfl, fun j hj => ?_, .im (.str [c]), .im (.str [e]), by simp⟩
      by_cases ej : j = i
      · rw [ej, hc, he, ce]
      · exact hI j (by omega)
    · rw [if_neg ce]
      rw [agr_at i a b (by omega) (by omega) hI (.inr (.inr (by rw [hc, he]; simpa using ce)))] at hq
      exact ⟨_, Nat.le_refl _, hq⟩
  · obtain ⟨rfl, hI, y3, y4, rfl⟩ := hI
    rw [zip_len, List.length_map, List.length_map] at hI ⊢
    rw [agr_at (min a.length b.length) a b (by omega) (by omega) hI (by
      by_cases c : a.length ≤ b.length
      · exact .inl (List.getElem?_eq_none (by omega))
      · exact .inr (.inl (List.getElem?_eq_none (by omega))))] at hq
    simp
    exact ⟨_, Nat.le_refl _, by simpa using hq⟩
theorem p_places_of (ds : List D) (g : Nat) (q : D → Nat → Prop) (ex : Exn → Nat → Prop) (hl : ds.length = 2) (h : d_places_of ds g q ex) : w_places_of ex (kEndS q) (startD ["word", "pattern", "place"] ds) g := by
  obtain ⟨w, p, rfl, hw, hp, hq⟩ := h
  simp [w_places_of]
  rw [rngL_0]
  refine ⟨small_line (by omega), by omega, by rw [List.length_map, List.length_range]; exact small_line (by omega), ?_⟩
  refine lcW_map (M := stg) (fun i : Nat => D.int i) (fun i : Nat => D.int i) (fun i => decide ((w.drop i).take p.length = p)) _ (fun i hi k1 k0 hk => ?_) ⟨_, Nat.le_refl _, hq⟩
  simp
  rw [cut_from]
  exact ⟨small_line (by omega), by simpa using hk⟩
theorem p_is_whole (ds : List D) (g : Nat) (q : D → Nat → Prop) (ex : Exn → Nat → Prop) (hl : ds.length = 1) (h : d_is_whole ds g q ex) : w_is_whole ex (kEndS q) (startD ["value"] ds) g := by
  obtain ⟨v, rfl, ⟨t, ht⟩, hq⟩ := h
  simp [w_is_whole]
  refine ⟨_, ht, ?_⟩
  cases v with
  | int i =>
    cases ht
    have t1 : isTyp "int" "int" = true := by decide
    have t2 : isTyp "int" "bool" = false := by decide
    simp [t1, t2]
    exact ⟨_, Nat.le_refl _, hq⟩
  | bl b =>
    cases ht
    have t1 : isTyp "bool" "int" = true := by decide
    have t2 : isTyp "bool" "bool" = true := by decide
    simp [t1, t2]
    exact ⟨_, Nat.le_refl _, hq⟩
  | ob => cases ht
  | exn => cases ht
  | tx => cases ht
  | _ =>
    cases ht
    simp [isTyp]
    exact ⟨_, Nat.le_refl _, hq⟩
theorem p_heads_of (ds : List D) (g : Nat) (q : D → Nat → Prop) (ex : Exn → Nat → Prop) (hl : ds.length = 1) (h : d_heads_of_x ds g q ex) : w_heads_of ex (kEndS q) (startD ["word", "order", "one", "other"] ds) g := by
  obtain ⟨w, rfl, hw, hq⟩ := h
  have lo := tOrd_len w
  have po := tOrd_perm w
  simp [w_heads_of]
  refine ⟨w, rfl, hw, ?_⟩
  simp
  have e0 : zipL (nats (tOrd w)) (cutL (nats (tOrd w)) (some 1) none) = (List.range (w.length - 1)).map fun i => D.tup [.int ((tOrd w).getD i 0), .int ((tOrd w).getD (i + 1) 0)] := by
    rw [show (some (1 : Int)) = some ((1 : Nat) : Int) from rfl, cut_from]
    apply List.ext_getElem?
    intro i
    rw [List.getElem?_map]
    by_cases c : i < w.length - 1
    · rw [List.getElem?_range c]
      unfold zipL
      have z : ((nats (tOrd w)).zip (List.drop 1 (nats (tOrd w))))[i]? = some (.int ((tOrd w).getD i 0 : Nat), .int ((tOrd w).getD (i + 1) 0 : Nat)) := by
        refine List.getElem?_zip_eq_some.mpr ⟨nats_at (o := tOrd w) (i := i) (by omega), ?_⟩
        rw [List.getElem?_drop, show 1 + i = i + 1 by omega]
        exact nats_at (by omega)
      rw [List.getElem?_map, z]
      rfl
    · rw [List.getElem?_eq_none (by rw [zip_len, List.length_drop, nats_len]; omega), List.getElem?_eq_none (by rw [List.length_range]; omega)]
      rfl
  rw [e0]
  refine ⟨by rw [List.length_map, List.length_range]; exact small_line (by omega), ?_⟩
  refine lcW_all (M := stg) _ (fun k => D.int (lcpW w ((tOrd w).getD k 0) ((tOrd w).getD (k + 1) 0) : Nat)) _ (fun k hk k1 k0 hh => ?_) ⟨_, Nat.le_refl _, ?_⟩
  · have hk2 := List.mem_range.mp hk
    simp [gwT]
    refine ⟨small_line (by omega), ?_⟩
    have hh' := hh
    unfold lcpW at hh'
    refine ⟨_, _, rfl, ?_, ?_, ?_⟩
    · first | (rw [cut_from, List.length_drop]; omega) | omega
    · first | (rw [cut_from, List.length_drop]; omega) | omega
    · rw [cut_from, cut_from]
      simpa using hh'
  · have e : (List.range (w.length - 1)).map (fun k => D.int (lcpW w ((tOrd w).getD k 0) ((tOrd w).getD (k + 1) 0) : Nat)) = nats (hdsW w) := by
      unfold hdsW nats
      rw [List.map_map]
      rfl
    rw [e]
    exact hq
theorem p_find (ds : List D) (g : Nat) (q : D → Nat → Prop) (ex : Exn → Nat → Prop) (hl : ds.length = 2) (h : d_find ds g q ex) : w_find ex (kEndS q) (startD ["word", "pattern", "tails", "place", "low", "tail", "many"] ds) g := by
  obtain ⟨w, p, rfl, hw, hp, hq⟩ := h
  simp [w_find]
  refine ⟨w, rfl, by omega, _, rfl, by rw [nats_len, tOrd_len]; exact small_line (by omega), ?_⟩
  refine lcW_all (M := stg) (fun p : Nat => D.int (p : Int)) (fun p : Nat => D.str (w.drop p)) (tOrd w) (fun i hi k1 k0 hk => ?_) ?_
  · simp
    rw [cut_from]
    exact ⟨small_line (by omega), hk⟩
  have e : ((tOrd w).map fun p => D.str (w.drop p)) = (tailsW w).map D.str := by
    unfold tailsW
    rw [List.map_map]
    rfl
  rw [e]
  have lT := tails_len w
  unfold fndD lowW manyW at hq
  generalize tailsW w = T at *
  simp
  refine ⟨small_line (by omega), ?_⟩
  refine lcW_map (M := stg) (fun t : List Nat => D.str t) (fun t : List Nat => D.str t) (fun t => decide (t < p)) T (fun t ht k1 k0 hk => ?_) ?_
  · simp
    simpa using hk
  refine ⟨small_line (by omega), ?_⟩
  refine lcW_map (M := stg) (fun t : List Nat => D.str t) (fun t : List Nat => D.str t) (fun t => decide (t.take p.length = p)) T (fun t ht k1 k0 hk => ?_) ?_
  · simp
    simpa using hk
  rw [List.length_map, List.length_map, ← List.countP_eq_length_filter, ← List.countP_eq_length_filter]
  by_cases c : 0 < T.countP fun t => decide (t.take p.length = p)
  · rw [if_pos c]
    rw [if_pos c] at hq
    refine ⟨small_line (by decide), g, Nat.le_refl _, ?_⟩
    rw [← Int.natCast_add]
    exact hq
  · rw [if_neg c]
    rw [if_neg c] at hq
    exact ⟨small_line (by decide), g, Nat.le_refl _, hq⟩
theorem p_each_place (ds : List D) (g : Nat) (q : List D → Nat → Prop) (hl : ds.length = 2) (h : d_each_place ds g q) : w_each_place (kEndY q) [] (startD ["word", "pattern", "place"] ds) g := by
  obtain ⟨w, p, rfl, hw, hp, hq⟩ := h
  simp [w_each_place]
  refine ⟨w, rfl, hw, _, rfl, ?_⟩
  have lo := tOrd_len w
  have hs : (1000 : Nat) < sizeLine := lt_line (by decide)
  refine forY_word (M := stg) (fun i es ρ g' => g' = g ∧ es = nats (((tOrd w).take i).filter fun j => decide ((w.drop j).take p.length = p)) ∧ ∃ y, ρ = [.im (.str w), .im (.str p), y]) _ ⟨rfl, rfl, _, rfl⟩ (fun i d es ρ g' K hd hI hK => ?_) (fun es ρ g' hI => ?_)
  · obtain ⟨rfl, rfl, y, rfl⟩ := hI
    unfold nats at hd
    rw [List.getElem?_map] at hd
    cases hx : (tOrd w)[i]? with
    | none => rw [hx] at hd; cases hd
    | some x =>
      rw [hx] at hd
      cases hd
      have il : i < w.length := by
        have := (List.getElem?_eq_some_iff.mp hx).1
        omega
      have fl : (((tOrd w).take i).filter fun j => decide ((w.drop j).take p.length = p)).length ≤ i := by
        refine Nat.le_trans (List.length_filter_le _ _) ?_
        rw [List.length_take]
        omega
      have step : ((tOrd w).take (i + 1)).filter (fun j => decide ((w.drop j).take p.length = p)) = (((tOrd w).take i).filter fun j => decide ((w.drop j).take p.length = p)) ++ if (w.drop x).take p.length = p then [x] else [] := by
        rw [List.take_succ, hx, List.filter_append]
        show _ ++ List.filter _ [x] = _
        congr 1
        by_cases c : (w.drop x).take p.length = p
        · rw [if_pos c]
          simp [c]
        · rw [if_neg c]
          simp [c]
      rw [step] at hK
      simp
      rw [cut_from]
      refine ⟨small_line (by omega), ?_⟩
      by_cases c : (w.drop x).take p.length = p
      · rw [if_pos c] at hK
        rw [if_pos c]
        refine ⟨by rw [nats_len]; omega, ?_⟩
        refine hK _ _ _ ⟨rfl, ?_, _, rfl⟩
        unfold nats
        rw [List.map_append]
        rfl
      · rw [if_neg c, List.append_nil] at hK
        rw [if_neg c]
        exact hK _ _ _ ⟨rfl, rfl, _, rfl⟩
  · obtain ⟨rfl, rfl, y, rfl⟩ := hI
    rw [nats_len, List.take_length]
    exact hq
theorem p_l_pick (ds : List D) (g : Nat) (q : D → Nat → Prop) (ex : Exn → Nat → Prop) (hl : ds.length = 2) (h : d_l_pick ds g q ex) : w_l_pick ex (kEndS q) (startD ["_law_stream_here", "_law_items"] ds) g := by
  obtain ⟨c, xs, rfl, hc, hne, hlen, hg, hq⟩ := h
  have hpos : 0 < xs.length := List.length_pos_iff.mpr hne
  cases c with
  | lst ds =>
    cases hc
    simp [w_l_pick]
    refine draw_n hpos (by omega) hg fun v hv => ?_
    simp
    exact ⟨_, atI_ofNat (List.getElem?_eq_getElem hv), _, Nat.le_refl _, hq _ (List.getElem_mem hv)⟩
  | tup ds =>
    cases hc
    simp [w_l_pick]
    refine draw_n hpos (by omega) hg fun v hv => ?_
    simp
    exact ⟨_, atI_ofNat (List.getElem?_eq_getElem hv), _, Nat.le_refl _, hq _ (List.getElem_mem hv)⟩
  | str x =>
    cases hc
    rw [List.length_map] at hpos hlen
    simp [w_l_pick]
    refine ⟨small_line hlen, draw_n hpos (by omega) hg fun v hv => ?_⟩
    simp
    exact ⟨small_line hlen, _, atI_ofNat (List.getElem?_eq_getElem hv), _, Nat.le_refl _, hq _ (List.mem_map.mpr ⟨_, List.getElem_mem hv, rfl⟩)⟩
  | _ => cases hc
theorem p_new_parts (ds : List D) (g : Nat) (q : D → Nat → Prop) (ex : Exn → Nat → Prop) (hl : ds.length = 1) (h : d_new_parts ds g q ex) : w_new_parts ex (kEndS q) (startD ["word", "tails", "heads", "place"] ds) g := by
  obtain ⟨w, rfl, hw, hq⟩ := h
  simp [w_new_parts]
  refine ⟨w, rfl, by omega, _, rfl, by rw [nats_len, tOrd_len]; exact small_line (by omega), ?_⟩
  refine lcW_all (M := stg) (fun p : Nat => D.int (p : Int)) (fun p : Nat => D.str (w.drop p)) (tOrd w) (fun p hp k1 k0 hk => ?_) ?_
  · simp
    rw [cut_from]
    exact ⟨small_line (by omega), hk⟩
  have e : ((tOrd w).map fun p => D.str (w.drop p)) = (tailsW w).map D.str := by
    unfold tailsW
    rw [List.map_map]
    rfl
  rw [e]
  refine ⟨w, rfl, hw, nats (hdsW w), rfl, small_line (by rw [nats_len, hds_len]; omega), ?_⟩
  rw [new_zip]
  exact ⟨small_line (by rw [List.length_map, new_len]; omega), _, Nat.le_refl _, hq⟩
theorem p_longest_twice (ds : List D) (g : Nat) (q : D → Nat → Prop) (ex : Exn → Nat → Prop) (hl : ds.length = 1) (h : d_longest_twice ds g q ex) : w_longest_twice ex (kEndS q) (startD ["word", "heads", "order", "longest", "first", "part", "place"] ds) g := by
  obtain ⟨w, rfl, hw, hq⟩ := h
  have hol := tOrd_len w
  have ho := tOrd_perm w
  have hdl := hds_len w
  obtain ⟨f1, f2, f3⟩ := fold_max (hdsW w) 0
  simp [w_longest_twice]
  refine ⟨w, rfl, hw, w, rfl, hw, ?_⟩
  simp
  refine ⟨small_line (by rw [nats_len]; omega), (0 :: hdsW w).map fun n : Nat => (n : Int), by unfold nats; rw [List.map_cons, List.map_cons, List.map_map]; rfl, by simp, fun m hm hy => ?_⟩
  obtain ⟨l, hl, rfl⟩ := List.mem_map.mp hm
  have el : l = lgW w := by
    have a1 : lgW w ≤ l := by
      rcases f3 with f3 | f3
      · show (hdsW w).foldl max 0 ≤ l
        omega
      · have := hy ((lgW w : Nat) : Int) (List.mem_map.mpr ⟨_, List.mem_cons_of_mem _ f3, rfl⟩)
        omega
    have a2 : l ≤ lgW w := by
      rcases List.mem_cons.mp hl with rfl | hl
      · exact Nat.zero_le _
      · exact f2 l hl
    omega
  subst el
  simp only [sm_eq1, sm_isB]
  unfold twW at hq
  by_cases e0 : lgW w = 0
  · rw [if_pos e0] at hq
    rw [if_pos (by simp [e0])]
    exact ⟨_, Nat.le_refl _, hq⟩
  · rw [if_neg e0] at hq
    rw [if_neg (by simp [e0])]
    have hm : lgW w ∈ hdsW w := f3.resolve_left e0
    have hi := List.idxOf_lt_length_of_mem hm
    have ei := idx_cast (hdsW w) (lgW w)
    refine ⟨(hdsW w).map fun n : Nat => (n : Int), by unfold nats; rw [List.map_map]; rfl, _, rfl, List.mem_map.mpr ⟨_, hm, rfl⟩, ?_⟩
    rw [ei]
    have p1 := perm_lt ho (k := (hdsW w).idxOf (lgW w)) (by omega)
    refine ⟨_, atI_ofNat (nats_at (by omega)), ?_⟩
    unfold twP at hq
    generalize (tOrd w).getD ((hdsW w).idxOf (lgW w)) 0 = f at *
    simp only [sm_asI, sm_add1]
    rw [show (f : Int) + (lgW w : Int) = ((f + lgW w : Nat) : Int) by omega, cut_mid, rngL_0, show f + lgW w - f = lgW w by omega]
    refine ⟨small_line (by omega), by omega, small_line (by rw [List.length_map, List.length_range]; omega), ?_⟩
    generalize (w.drop f).take (lgW w) = x at *
    refine lcW_map (M := stg) (fun p : Nat => D.int (p : Int)) (fun p : Nat => D.int (p : Int)) (fun p => decide ((w.drop p).take x.length = x)) (List.range w.length) (fun p hp k1 k0 hk => ?_) ?_
    · simp at hk ⊢
      rw [cut_from]
      exact ⟨small_line (by omega), hk⟩
    · exact ⟨small_line (by decide), _, Nat.le_refl _, hq⟩
theorem p_finding_holds (ds : List D) (g : Nat) (q : D → Nat → Prop) (ex : Exn → Nat → Prop) (hl : ds.length = 3) (h : d_finding_holds ds g q ex) : w_finding_holds ex (kEndS q) (startD ["word", "pattern", "value", "item"] ds) g := by
  obtain ⟨w, p, v, rfl, hw, hp, ⟨⟨t, ht⟩, hx⟩, hq⟩ := h
  simp [w_finding_holds]
  refine ⟨_, ht, ?_⟩
  cases v with
  | tup xs =>
    cases ht
    obtain ⟨lx, okx⟩ := hx xs rfl
    have t1 : isTyp "tuple" "tuple" = true := by decide
    simp [t1]
    cases xs with
    | nil =>
      rw [if_pos rfl]
      exact ⟨_, Nat.le_refl _, hq⟩
    | cons d ds =>
      obtain ⟨⟨t, ht⟩, hd⟩ := okx d List.mem_cons_self
      rw [if_neg (fun z => by cases z)]
      refine ⟨d, atI_ofNat (j := 0) rfl, _, ht, ?_⟩
      cases d with
      | str x =>
        cases ht
        have t2 : isTyp "str" "str" = true := by decide
        simp [t2]
        have ec : cutL (D.str x :: ds) (some 1) none = ds := by
          rw [show (some (1 : Int)) = some ((1 : Nat) : Int) from rfl, cut_from]
          rfl
        rw [ec]
        rw [List.length_cons] at lx
        refine ⟨small_line (by omega), ?_⟩
        rw [show ds = ds.map (fun d => d) from (List.map_id' _).symm]
        refine lcW_all (M := stg) (fun d => d) (fun d => D.bl (isI d)) ds (fun d hd k1 k0 hk => ?_) ?_
        · simp
          exact ⟨d, rfl, (okx d (List.mem_cons_of_mem _ hd)).1, hk⟩
        rw [show (ds.map fun d => D.bl (isI d)) = (ds.map isI).map D.bl by rw [List.map_map]; rfl]
        refine all_call ?_
        rw [List.all_map, List.map_id']
        show isB (D.bl (ds.all isI)) _
        have hq : q (.bl (ds.all isI && deq (.tup (.str x :: ds)) (fndD w p))) g := hq
        cases c : ds.all isI with
        | false =>
          rw [c] at hq
          simp
          exact ⟨_, Nat.le_refl _, hq⟩
        | true =>
          rw [c, Bool.true_and] at hq
          simp
          refine ⟨w, p, rfl, hw, hp, ?_⟩
          have s1 : Sh 1 (.tup (.str x :: ds)) := sh_tup (k := 0) (all_cons (sh_str x (hd x rfl)) fun d hd => by
            have := List.all_eq_true.mp c d hd
            cases d with
            | int i => exact sh_int i
            | _ => cases this)
          have s2 : Sh 1 (fndD w p) := by
            unfold fndD
            split
            · exact sh_tup (k := 0) (all_cons (sh_str _ (by decide)) (all_cons (sh_int _) (all_cons (sh_int _) all_nil)))
            · exact sh_tup (k := 0) (all_cons (sh_str _ (by decide)) (all_cons (sh_int _) all_nil))
          exact ⟨s1.ok (by decide), s2.ok (by decide), _, Nat.le_refl _, hq⟩
      | ob => cases ht
      | exn => cases ht
      | tx => cases ht
      | _ =>
        cases ht
        simp [isTyp]
        exact ⟨_, Nat.le_refl _, hq⟩
  | ob => cases ht
  | exn => cases ht
  | tx => cases ht
  | _ =>
    cases ht
    simp [isTyp]
    exact ⟨_, Nat.le_refl _, hq⟩
theorem p_l_drawn (ds : List D) (g : Nat) (q : D → Nat → Prop) (ex : Exn → Nat → Prop) (hl : ds.length = 2) (h : d_l_drawn ds g q ex) : w_l_drawn ex (kEndS q) (startD ["_law_stream_here", "_law_most", "_law_size", "_law_letters", "_law_found", "_law_k", "_law_many"] ds) g := by
  obtain ⟨most, rfl, h1, h2, hg, hq⟩ := h
  -- the end: all found are letters
  have fin : ∀ (ys : List D) (g' : Nat), (∀ d ∈ ys, IsL d) → 1 ≤ ys.length → ys.length ≤ most → g' ≤ g + 40 → oJoin [] (.lst ys) fun r => ∃ n, g' ≤ n ∧ q r n := fun ys g' hy l1 l2 hg' => by
    obtain ⟨cs, rfl, hL, hc⟩ := isL_all hy
    refine ⟨_, cs.map fun c => [c], .inl rfl, by rw [List.map_map]; rfl, by rw [ones_sum, List.length_nil, Nat.mul_zero]; omega, g + 40, hg', ?_⟩
    rw [jn_ones]
    exact hq cs (by omega) (by omega) hL
  simp [w_l_drawn]
  refine draw_n (by omega) (by omega) (by omega) fun v hv => ?_
  simp
  refine ⟨small_line (by decide), pick_of (by omega) rfl (by simp) (by simp) fun L hL => ?_⟩
  have hLs : ∃ x : List Nat, L = .str x ∧ x ≠ [] ∧ x.length ≤ 26 ∧ Lets x := by
    have : ∀ x ∈ [[97], [97, 98], [97, 98, 99], [97, 122], [97, 97, 98], [97, 98, 99, 100, 101, 102, 103, 104, 105, 106, 107, 108, 109, 110, 111, 112, 113, 114, 115, 116, 117, 118, 119, 120, 121, 122]], x ≠ [] ∧ x.length ≤ 26 ∧ ∀ c ∈ x, 97 ≤ c ∧ c < 123 := by decide
    have hm : L ∈ ([[97], [97, 98], [97, 98, 99], [97, 122], [97, 97, 98], [97, 98, 99, 100, 101, 102, 103, 104, 105, 106, 107, 108, 109, 110, 111, 112, 113, 114, 115, 116, 117, 118, 119, 120, 121, 122]] : List (List Nat)).map D.str := hL
    obtain ⟨x, hx, rfl⟩ := List.mem_map.mp hm
    exact ⟨x, rfl, this x hx⟩
  obtain ⟨x, rfl, hx0, hxl, hxL⟩ := hLs
  have e1 : (1 : Int) + v = ((v + 1 : Nat) : Int) := by omega
  have rl : rngL 0 (1 + (v : Int)) = (List.range (v + 1)).map fun (i : Nat) => D.int (i : Int) := by rw [e1, rngL_0]
  refine ⟨by omega, by omega, by rw [rngL_len]; exact small_line (by omega), ?_⟩
  rw [rl]
  refine lcW_draw _ (fun _ d => IsL d) 1 (g + 40) (List.range (v + 1)) (by rw [List.length_range]; omega) (fun i hi g1 k1 k0 hg1 hk => ?_) fun ys hy => ?_
  · simp
    refine pick_of (by omega) rfl (by simpa using hx0) (by rw [List.length_map]; omega) fun d hd => hk d ?_
    obtain ⟨c, hc, rfl⟩ := List.mem_map.mp hd
    exact ⟨c, rfl, hxL c hc⟩
  · obtain ⟨hy1, hy2⟩ := paired_all hy
    rw [List.length_range] at hy2
    rw [List.length_range]
    refine draw_l (k := 3) (by omega) fun u hu => ?_
    simp
    split
    · -- repeated
      have em : (if (5 : Int) < 1 + (v : Int) then (5 : Int) else 1 + (v : Int)) = ((if 5 < 1 + v then 5 else 1 + v : Nat) : Int) := by split <;> split <;> omega
      rw [em]
      refine draw_n (by split <;> omega) (by split <;> omega) (by omega) fun m hm => ?_
      simp
      refine ⟨by omega, by omega, small_line (by omega), ?_⟩
      have pos : 0 < 1 + m := by omega
      have hm' : 1 + m ≤ ys.length := by split at hm <;> omega
      refine lcW_all (M := stg) _ (fun i => ys.getD (i % (1 + m)) .non) (List.range (v + 1)) (fun i hi k1 k0 hk => ?_) ?_
      · simp
        have lt := Nat.mod_lt i pos
        refine ⟨by omega, ?_⟩
        rw [show (1 : Int) + (m : Int) = ((1 + m : Nat) : Int) by omega, ← Int.natCast_emod]
        refine ⟨ys.getD (i % (1 + m)) .non, atI_ofNat ?_, hk⟩
        rw [List.getD_eq_getElem?_getD, List.getElem?_eq_getElem (by omega)]
        rfl
      · have zs : ∀ d ∈ (List.range (v + 1)).map (fun i => ys.getD (i % (1 + m)) D.non), IsL d := fun d hd => by
          obtain ⟨i, _, rfl⟩ := List.mem_map.mp hd
          have lt := Nat.mod_lt i pos
          rw [List.getD_eq_getElem?_getD, List.getElem?_eq_getElem (by omega)]
          exact hy1 _ (List.getElem_mem _)
        generalize hzs : (List.range (v + 1)).map (fun i => ys.getD (i % (1 + m)) D.non) = zs' at zs ⊢
        have hzl : zs'.length = v + 1 := by rw [← hzs]; simp
        refine draw_l (k := 2) (by omega) fun t ht => ?_
        simp
        split
        · refine pick_of (by omega) rfl (by simp) (by simp) fun d hd => ?_
          rw [e1]
          refine draw_n (by omega) (by omega) (by omega) fun s hs => ?_
          simp
          refine ⟨s, ixN_ofNat (by omega), ?_⟩
          have hd' : IsL d := by
            have : ∀ c ∈ [97, 98, 122], 97 ≤ c ∧ c < 123 := by decide
            have hm : d ∈ ([97, 98, 122] : List Nat).map (fun c => D.str [c]) := hd
            obtain ⟨c, hc, rfl⟩ := List.mem_map.mp hm
            exact ⟨c, rfl, this c hc⟩
          refine fin _ _ (fun d' hd2 => ?_) (by rw [List.length_set]; omega) (by rw [List.length_set]; omega) (by omega)
          rcases List.mem_or_eq_of_mem_set hd2 with h | rfl
          · exact zs d' h
          · exact hd'
        · exact fin zs' _ zs (by omega) (by omega) (by omega)
    · exact fin ys _ hy1 (by omega) (by omega) (by omega)
theorem p_count_parts (ds : List D) (g : Nat) (q : D → Nat → Prop) (ex : Exn → Nat → Prop) (hl : ds.length = 1) (h : d_count_parts ds g q ex) : w_count_parts ex (kEndS q) (startD ["word", "tail", "shared"] ds) g := by
  obtain ⟨w, rfl, hw, hq⟩ := h
  simp [w_count_parts]
  refine ⟨w, rfl, hw, _, rfl, small_line (by rw [List.length_map, new_len]; omega), ?_⟩
  refine lcW_all (M := stg) (fun x : List Nat × Nat => D.tup [.str x.1, .int (x.2 : Nat)]) (fun x => D.int ((x.1.length - x.2 : Nat) : Int)) (newW w) (fun x hx k1 k0 hk => ?_) ?_
  · have := new_le hx
    have sx := small_line (n := x.1.length) (by omega)
    simp [gwT, sx]
    rw [show (x.1.length : Int) - (x.2 : Int) = ((x.1.length - x.2 : Nat) : Int) by omega]
    exact hk
  have e : ((newW w).map fun x => D.int ((x.1.length - x.2 : Nat) : Int)) = (((newW w).map fun x => x.1.length - x.2).map fun n : Nat => (n : Int)).map D.int := by
    rw [List.map_map, List.map_map]
    rfl
  rw [e]
  refine sum_call ?_
  rw [sum_cast, ← prt_len]
  exact ⟨_, Nat.le_refl _, hq⟩
theorem p_part_index (ds : List D) (g : Nat) (q : D → Nat → Prop) (ex : Exn → Nat → Prop) (hl : ds.length = 2) (h : d_part_index ds g q ex) : w_part_index ex (kEndS q) (startD ["word", "value", "found", "tail", "shared"] ds) g := by
  obtain ⟨w, v, rfl, hw, ⟨t, ht⟩, hq⟩ := h
  simp [w_part_index]
  refine ⟨_, ht, ?_⟩
  cases v with
  | str x =>
    cases ht
    have t2 : isTyp "str" "str" = true := by decide
    simp [t2]
    by_cases e : x = []
    · rw [if_pos e]
      rw [show pixD w (.str x) = .non from if_neg fun m => prt_ne m e] at hq
      exact ⟨_, Nat.le_refl _, hq⟩
    rw [if_neg e]
    by_cases s : subB x w = true
    · have m := (sub_prt e).mp s
      rw [show pixD w (.str x) = .int ((prtW w).idxOf x : Nat) from if_pos m] at hq
      simp [s]
      refine ⟨w, rfl, hw, _, rfl, ?_⟩
      have xl := (prt_each m).1
      refine forE_word (M := stg) (fun i ρ (g' : Nat) => g' = g ∧ x ∈ prtF w i ∧ (∀ j, j < i → (w.drop ((tOrd w).getD j 0)).take x.length ≠ x) ∧ ∃ (r : Nat) (y3 y4 : Sl), (prtW w).idxOf x = r + (prtF w i).idxOf x ∧ ρ = [.im (.str w), .im (.str x), .im (.int r), y3, y4]) _ ⟨rfl, m, fun j hj => absurd hj (Nat.not_lt_zero _), 0, .no, .no, by rw [prtF_zero, Nat.zero_add], rfl⟩ (fun i d ρ g' K hd hI hK => ?_) (fun ρ g' hI => ?_)
      · obtain ⟨rfl, mem, no, r, y3, y4, hr, rfl⟩ := hI
        rw [List.getElem?_map] at hd
        have hi : i < w.length := by
          have := (List.getElem?_eq_some_iff.mp (by rw [List.getElem?_map]; exact hd)).1
          rwa [List.length_map, new_len] at this
        have hx := new_at hi
        rw [hx] at hd
        cases hd
        have tl := new_le (List.mem_of_getElem? hx)
        simp only at tl
        rw [prtF_step hx, List.idxOf_append] at hr
        rw [prtF_step hx] at mem
        have tk := hds_take (x := x) hi
        generalize hT : w.drop ((tOrd w).getD i 0) = t at *
        generalize (0 :: hdsW w).getD i 0 = s at *
        have st := small_line (n := t.length) (by omega)
        simp [gwT]
        by_cases c : t.take x.length = x
        · have hs : s < x.length := by
            refine Nat.lt_of_not_le fun z => ?_
            obtain ⟨j, hj, h2⟩ := tk z e c
            exact no j (by omega) h2
          obtain ⟨m1, m2⟩ := beg_idx c hs
          rw [if_pos m1, m2] at hr
          rw [if_pos c]
          refine ⟨small_line (by omega), _, Nat.le_refl _, ?_⟩
          rw [show (r : Int) + (x.length : Int) - (s : Int) - 1 = (((prtW w).idxOf x : Nat) : Int) by omega]
          exact hq
        · have m1 := beg_not (s := s) c
          rw [if_neg m1, beg_len] at hr
          simp only at hr
          rw [if_neg c]
          refine ⟨st, ?_⟩
          rw [show (r : Int) + ((t.length : Int) - (s : Int)) = ((r + (t.length - s) : Nat) : Int) by omega]
          refine hK _ _ ⟨rfl, ?_, fun j hj => ?_, _, _, _, by omega, rfl⟩
          · rcases List.mem_append.mp mem with h | h
            · exact absurd h m1
            · exact h
          · by_cases z : j = i
            · rw [z, hT]
              exact c
            · exact no j (by omega)
      · obtain ⟨rfl, mem, no, r, y3, y4, hr, rfl⟩ := hI
        rw [List.length_map, new_len, prtF_end] at mem
        cases mem
    · have m : x ∉ prtW w := fun m => s ((sub_prt e).mpr m)
      rw [show pixD w (.str x) = .non from if_neg m] at hq
      simp [s]
      exact ⟨_, Nat.le_refl _, hq⟩
  | ob => cases ht
  | exn => cases ht
  | tx => cases ht
  | _ =>
    cases ht
    simp [isTyp]
    exact ⟨_, Nat.le_refl _, hq⟩
theorem p_each_part (ds : List D) (g : Nat) (q : List D → Nat → Prop) (hl : ds.length = 1) (h : d_each_part ds g q) : w_each_part (kEndY q) [] (startD ["word", "tail", "shared", "length"] ds) g := by
  obtain ⟨w, rfl, hw, hq⟩ := h
  simp [w_each_part]
  refine ⟨w, rfl, hw, _, rfl, ?_⟩
  have ps := prt_small w
  have : w.length * w.length ≤ 1000 * 1000 := Nat.mul_le_mul hw hw
  have hs : (1000000 : Nat) < sizeLine := lt_line (by decide)
  have le : ∀ i, (prtU w i).length ≤ (prtW w).length := fun i => by
    unfold prtU
    have : prtW w = (((newW w).take i).flatMap fun x => begW x.1 x.2) ++ ((newW w).drop i).flatMap fun x => begW x.1 x.2 := by
      rw [← List.flatMap_append, List.take_append_drop]
      rfl
    rw [this, List.length_append]
    omega
  refine forY_word (M := stg) (fun i es ρ g' => g' = g ∧ es = txts (prtU w i) ∧ ∃ y1 y2 y3, ρ = [.im (.str w), y1, y2, y3]) _ ⟨rfl, rfl, _, _, _, rfl⟩ (fun i d es ρ g' K hd hI hK => ?_) (fun es ρ g' hI => ?_)
  · obtain ⟨rfl, rfl, y1, y2, y3, rfl⟩ := hI
    rw [List.getElem?_map] at hd
    cases hx : (newW w)[i]? with
    | none => rw [hx] at hd; cases hd
    | some x =>
      rw [hx] at hd
      cases hd
      obtain ⟨t, s⟩ := x
      have nl := new_le (List.mem_of_getElem? hx)
      have nl1 : s ≤ t.length := nl.1
      have nl2 : t.length ≤ w.length := nl.2
      have lu := le (i + 1)
      rw [prtU_step hx] at hK lu
      have bl : (begW t s).length = t.length - s := beg_len t s
      rw [List.length_append] at lu
      have lu : (prtU w i).length + (begW t s).length ≤ (prtW w).length := lu
      simp
      refine ⟨small_line (by omega), ⟨by omega, by omega, by omega, by omega⟩, ?_⟩
      refine forY_word (M := stg) (fun j es ρ g2 => g2 = g' ∧ es = txts (prtU w i ++ (begW t s).take j) ∧ ∃ y3, ρ = [.im (.str w), .im (.str t), .im (.int (s : Nat)), y3]) _ ⟨rfl, by rw [List.take_zero, List.append_nil], _, rfl⟩ (fun j d es ρ g' K hd hI hK => ?_) (fun es ρ g' hI => ?_)
      · obtain ⟨rfl, rfl, y3, rfl⟩ := hI
        obtain ⟨hj, rfl⟩ := rngL_get _ _ _ _ hd
        have hj' : j < t.length - s := by omega
        have at_ := beg_at hj'
        simp [-List.take_succ]
        rw [show (s : Int) + 1 + (j : Int) = ((s + j + 1 : Nat) : Int) by omega, cut_to]
        refine ⟨?_, small_line (by omega), ?_⟩
        · unfold txts
          rw [List.length_map, List.length_append, List.length_take]
          omega
        · refine hK _ _ _ ⟨rfl, ?_, _, rfl⟩
          rw [List.take_succ (l := begW t s), at_, ← List.append_assoc]
          unfold txts
          rw [List.map_append (l₂ := (some _).toList)]
          rfl
      · obtain ⟨rfl, rfl, y3, rfl⟩ := hI
        rw [show (rngL ((s : Int) + 1) ((t.length : Int) + 1)).length = (begW t s).length by unfold rngL; rw [List.length_map, List.length_range, bl]; omega, List.take_length]
        exact hK _ _ _ ⟨rfl, rfl, _, _, _, rfl⟩
  · obtain ⟨rfl, rfl, y1, y2, y3, rfl⟩ := hI
    rw [List.length_map, prtU_all]
    exact hq
theorem p_part_at (ds : List D) (g : Nat) (q : D → Nat → Prop) (ex : Exn → Nat → Prop) (hl : ds.length = 2) (h : d_part_at ds g q ex) : w_part_at ex (kEndS q) (startD ["word", "index", "rest", "tail", "shared"] ds) g := by
  obtain ⟨w, v, rfl, hw, ov, hq⟩ := h
  simp [w_part_at]
  refine ⟨w, rfl, hw, ?_⟩
  simp
  refine ⟨v, _, _, rfl, ov, ?_⟩
  simp only [sm_isB]
  split at hq
  · rename_i c
    rw [if_pos c]
    refine ⟨w, rfl, hw, _, rfl, ?_⟩
    have hv : ∃ j : Nat, v = .int j ∧ j < (prtW w).length := by
      cases v with
      | int i =>
        simp [isInt] at c
        exact ⟨i.toNat, by congr 1; omega, by omega⟩
      | _ => exact absurd c (by simp [isInt])
    obtain ⟨j, rfl, hj⟩ := hv
    rw [natD_int] at hq
    refine forE_word (M := stg) (fun i ρ (g' : Nat) => g' = g ∧ ∃ (r : Nat) (y3 y4 : Sl), (prtF w i)[r]? = (prtW w)[j]? ∧ ρ = [.im (.str w), .im (.int j), .im (.int r), y3, y4]) _ ⟨rfl, j, .no, .no, rfl, rfl⟩ (fun i d ρ g' K hd hI hK => ?_) (fun ρ g' hI => ?_)
    · obtain ⟨rfl, r, y3, y4, hr, rfl⟩ := hI
      rw [List.getElem?_map] at hd
      have hi : i < w.length := by
        have := (List.getElem?_eq_some_iff.mp (by rw [List.getElem?_map]; exact hd)).1
        rwa [List.length_map, new_len] at this
      have hx := new_at hi
      rw [hx] at hd
      cases hd
      have xl := new_le (List.mem_of_getElem? hx)
      simp only at xl hr
      rw [prtF_step hx, List.getElem?_append, beg_len] at hr
      generalize w.drop ((tOrd w).getD i 0) = t at *
      generalize (0 :: hdsW w).getD i 0 = s at *
      have st := small_line (n := t.length) (by omega)
      simp [gwT, st]
      by_cases c2 : r < t.length - s
      · rw [if_pos c2, beg_at c2, List.getElem?_eq_getElem hj] at hr
        rw [if_pos (by omega)]
        rw [show (s : Int) + (r : Int) + 1 = ((s + r + 1 : Nat) : Int) by omega, cut_to]
        rw [List.getD_eq_getElem?_getD, List.getElem?_eq_getElem hj, ← hr] at hq
        exact ⟨_, Nat.le_refl _, hq⟩
      · rw [if_neg c2] at hr
        rw [if_neg (by omega)]
        rw [show (r : Int) - ((t.length : Int) - (s : Int)) = ((r - (t.length - s) : Nat) : Int) by omega]
        exact hK _ _ ⟨rfl, _, _, _, hr, rfl⟩
    · obtain ⟨rfl, r, y3, y4, hr, rfl⟩ := hI
      rw [List.length_map, new_len, prtF_end, List.getElem?_eq_getElem hj] at hr
      cases hr
  · rename_i c
    rw [if_neg c]
    exact hq
theorem fnd_fine (w p : List Nat) : valF (fndD w p) ∧ fhB (fndD w p) (fndD w p) = true := by
  have nbf : nb (fndD w p) = true := by unfold fndD; split <;> rfl
  have e := deq_refl nbf
  unfold fndD at e ⊢
  split
  · rename_i c
    rw [if_pos c] at e
    refine ⟨⟨⟨_, rfl⟩, fun xs hx => ?_⟩, ?_⟩
    · cases hx
      refine ⟨by simp, all_cons ⟨⟨_, rfl⟩, fun x hx => ?_⟩ (all_cons ⟨⟨_, rfl⟩, fun x hx => by cases hx⟩ (all_cons ⟨⟨_, rfl⟩, fun x hx => by cases hx⟩ all_nil))⟩
      cases hx
      decide
    · simp only [fhB, List.all_cons, List.all_nil, isI, e]
      rfl
  · rename_i c
    rw [if_neg c] at e
    refine ⟨⟨⟨_, rfl⟩, fun xs hx => ?_⟩, ?_⟩
    · cases hx
      refine ⟨by simp, all_cons ⟨⟨_, rfl⟩, fun x hx => ?_⟩ (all_cons ⟨⟨_, rfl⟩, fun x hx => by cases hx⟩ all_nil)⟩
      cases hx
      decide
    · simp only [fhB, List.all_cons, List.all_nil, isI, e]
      rfl
theorem p_l_pattern_right (ds : List D) (g : Nat) (q : D → Nat → Prop) (ex : Exn → Nat → Prop) (hl : ds.length = 4) (h : d_l_pattern_right ds g q ex) : w_l_pattern_right ex (kEndS q) (startD ["_law_word", "_law_order", "_law_rows", "_law_pattern", "_law_found", "_law_places", "_law_less", "_law_place", "_law_more"] ds) g := by
  obtain ⟨w, p, rfl, w1, w2, p1, p2, hq⟩ := h
  simp [w_l_pattern_right]
  have lo := tOrd_len w
  have pl := plc_len w p
  have al := pla_len w p
  have pe := pla_eq w p
  have mm := plc_prt (w := w) (p := p) p1
  have sm : lowW w p + manyW w p ≤ w.length := by
    have h1 := congrArg List.length pe
    rw [al, List.length_take, List.length_drop, lo] at h1
    have h2 : lowW w p ≤ w.length := by
      have := List.countP_le_length (p := fun t => decide (t < p)) (l := tailsW w)
      rw [tails_len] at this
      exact this
    omega
  obtain ⟨fv, ff⟩ := fnd_fine w p
  refine ⟨w, p, rfl, by omega, by omega, w, p, rfl, by omega, by omega, w, p, _, rfl, by omega, by omega, fv, ?_⟩
  rw [ff]
  have ft : ∀ x, x ∈ txts (prtW w) → flatD x = true := fun x hx => by
    obtain ⟨y, _, rfl⟩ := List.mem_map.mp hx
    rfl
  have eqv : ((txts (prtW w)).any fun y => eqF y (.str p)) = decide (p ∈ prtW w) := by
    rw [Bool.eq_iff_iff, List.any_eq_true, decide_eq_true_eq]
    constructor
    · rintro ⟨x, hx, h⟩
      obtain ⟨y, hy, rfl⟩ := List.mem_map.mp hx
      have : y = p := by simpa [eqF] using h
      rw [← this]
      exact hy
    · intro h
      exact ⟨_, List.mem_map_of_mem h, by simp [eqF]⟩
  have nil : (nats (plcW w p) = []) ↔ ¬ p ∈ prtW w := by
    rw [← mm, ← pl]
    cases plcW w p with
    | nil => simp [nats]
    | cons a b => simp [nats]
  have due : ∀ {Q : D → Nat → Prop} {ex : Exn → Nat → Prop}, Q (pixD w (.str p)) g → d_part_index [.str w, .str p] g Q ex := fun h => ⟨w, .str p, rfl, by omega, ⟨_, rfl⟩, h⟩
  have fe : fndD w p = if 0 < manyW w p then .tup [.str sPlaces, .int (lowW w p : Nat), .int ((lowW w p + manyW w p : Nat) : Int)] else .tup [.str sBetween, .int (lowW w p : Nat)] := rfl
  simp
  refine ⟨ft, ?_⟩
  rw [eqv]
  by_cases c : p ∈ prtW w
  · have cm := mm.mpr c
    rw [if_pos cm] at fe
    have em : (nats (plcW w p)).isEmpty = false := by
      rw [List.isEmpty_eq_false_iff]
      exact fun z => nil.mp z c
    rw [fe, em, decide_eq_true c, if_neg (by decide)]
    simp [sPlaces]
    have eC : cutL (nats (tOrd w)) (some (lowW w p : Int)) (some ((lowW w p : Int) + (manyW w p : Int))) = nats (plaW w p) := by
      rw [show (lowW w p : Int) + (manyW w p : Int) = ((lowW w p + manyW w p : Nat) : Int) by omega, cut_mid, show lowW w p + manyW w p - lowW w p = manyW w p by omega, pe]
      unfold nats
      rw [List.map_take, List.map_drop]
    refine ⟨_, atI_ofNat (j := 0) rfl, ?_⟩
    simp
    refine ⟨_, atI_ofNat (j := 1) rfl, ?_⟩
    simp
    refine ⟨_, atI_ofNat (j := 2) rfl, ?_⟩
    simp
    rw [eC]
    refine ⟨w, p, rfl, by omega, by omega, shp_lstN _, shp_lstN _, ?_⟩
    rw [deq_refl (d := .lst (nats (plaW w p))) (nb_nats _), if_pos rfl]
    have ep : pixD w (.str p) = .int ((prtW w).idxOf p : Nat) := if_pos c
    rw [ep] at due
    refine due ?_
    simp
    refine ⟨_, atI_ofNat (j := 1) rfl, ?_⟩
    simp
    refine ⟨_, atI_ofNat (j := 2) rfl, ?_⟩
    simp
    rw [eC]
    refine ⟨(plaW w p).map fun n : Nat => (n : Int), by unfold nats; rw [List.map_map]; rfl, fun ys hp hs => ?_⟩
    obtain ⟨zs, rfl⟩ : ∃ zs : List Nat, ys = zs.map fun n : Nat => (n : Int) := by
      refine ⟨ys.map Int.toNat, ?_⟩
      rw [List.map_map]
      conv => lhs; rw [← List.map_id ys]
      refine List.map_congr_left fun y hy => ?_
      obtain ⟨n, _, rfl⟩ := List.mem_map.mp (hp.mem_iff.mp hy)
      rfl
    have ez : zs = plcW w p := pla_sorted (by
      have := hp.map Int.toNat
      rw [List.map_map, List.map_map] at this
      have id1 : ∀ L : List Nat, L.map (Int.toNat ∘ fun n : Nat => (n : Int)) = L := fun L => by
        conv => rhs; rw [← List.map_id L]
        exact List.map_congr_left fun _ _ => rfl
      rwa [id1, id1] at this) (by
      rw [List.pairwise_map] at hs
      exact hs.imp fun {a b} z => by omega)
    rw [ez, List.map_map, show (plcW w p).map (D.int ∘ fun n : Nat => (n : Int)) = nats (plcW w p) from rfl]
    refine ⟨shp_lstN (plcW w p), shp_lstN (plcW w p), ?_⟩
    rw [if_pos (deq_refl (d := .lst (nats (plcW w p))) (nb_nats _))]
    refine due ?_
    have ix := List.idxOf_lt_length_of_mem c
    have ok : isInt (.int ((prtW w).idxOf p : Nat)) 0 ((prtW w).length - 1) = true := by
      simp [isInt]
      omega
    refine ⟨w, _, rfl, by omega, ⟨_, rfl⟩, ?_⟩
    rw [if_pos ok]
    have eg : (prtW w).getD (natD (.int ((prtW w).idxOf p : Nat))) [] = p := by
      show (prtW w).getD ((prtW w).idxOf p) [] = p
      rw [List.getD_eq_getElem?_getD, List.getElem?_eq_getElem ix]
      exact List.getElem_idxOf ix
    rw [eg]
    simp
    exact ⟨_, Nat.le_refl _, hq⟩
  · have cm : ¬ 0 < manyW w p := fun z => c (mm.mp z)
    rw [if_neg cm] at fe
    have em : (nats (plcW w p)).isEmpty = true := by
      rw [List.isEmpty_iff]
      exact nil.mpr c
    rw [fe, em, decide_eq_false c, if_neg (by decide)]
    simp [sBetween]
    have e1 : cutL (nats (tOrd w)) none (some (lowW w p : Int)) = nats ((tOrd w).take (lowW w p)) := by
      rw [cut_to]
      unfold nats
      rw [List.map_take]
    have e2 : cutL (nats (tOrd w)) (some (lowW w p : Int)) none = nats ((tOrd w).drop (lowW w p)) := by
      rw [cut_from]
      unfold nats
      rw [List.map_drop]
    refine ⟨_, atI_ofNat (j := 0) rfl, ?_⟩
    simp
    have ep : pixD w (.str p) = .non := if_neg c
    rw [ep] at due
    refine due ?_
    simp
    rw [if_pos (nil.mpr c)]
    have sl : (nats (tOrd w)).length ≤ sizeLine := by rw [nats_len, lo]; exact small_line (by omega)
    refine ⟨sl, ?_⟩
    refine lcW_map (M := stg) (fun i : Nat => D.int i) (fun i : Nat => D.int i) (fun i => decide (w.drop i < p)) (tOrd w) (fun i hi k1 k0 hk => ?_) ?_
    · simp
      rw [cut_from]
      exact ⟨small_line (by omega), by simpa using hk⟩
    rw [(low_cut w p).1, show ((tOrd w).take (lowW w p)).map (fun i : Nat => D.int i) = nats ((tOrd w).take (lowW w p)) from rfl]
    refine ⟨sl, ?_⟩
    refine lcW_map (M := stg) (fun i : Nat => D.int i) (fun i : Nat => D.int i) (fun i => decide (p < w.drop i)) (tOrd w) (fun i hi k1 k0 hk => ?_) ?_
    · simp
      rw [cut_from]
      exact ⟨small_line (by omega), by simpa using hk⟩
    rw [more_eq (by omega), show ((tOrd w).drop (lowW w p)).map (fun i : Nat => D.int i) = nats ((tOrd w).drop (lowW w p)) from rfl]
    refine ⟨_, atI_ofNat (j := 1) rfl, ?_⟩
    simp
    rw [e1]
    refine ⟨shp_lstN _, shp_lstN _, ?_⟩
    rw [if_pos (deq_refl (d := .lst (nats ((tOrd w).take (lowW w p)))) (nb_nats _))]
    refine ⟨_, atI_ofNat (j := 1) rfl, ?_⟩
    simp
    rw [e2]
    refine ⟨shp_lstN _, shp_lstN _, _, Nat.le_refl _, ?_⟩
    have := deq_refl (d := .lst (nats ((tOrd w).drop (lowW w p)))) (nb_nats _)
    rw [show deq (D.lst (nats ((tOrd w).drop (lowW w p)))) _ = true from this]
    exact hq
theorem p_law : w_law kLaw (rhoLaw 12 1) (0 : Nat) := by
  simp only [w_law]
  refine seqP (fun ρ (g : Nat) => True) (fun ρ g _ => by simp) (fun Y hY => ?_)
  simp only [wFor, wRng1, wC, asI]
  refine ⟨by decide, by decide, ?_⟩
  rw [show rngL 0 (2 : Int) = (List.range 2).map fun (i : Nat) => D.int (i : Int) from rngL_0 2]
  refine forW_word (M := stg) (fun i ρ (g : Nat) => g ≤ 1000 * i ∧ ∃ y2 y3 y4 y5 y6 y7 y8 y9 y10 y11, ρ = [.no, .im (.ob 0), y2, y3, y4, y5, y6, y7, y8, y9, y10, y11]) _ ⟨Nat.le_refl _, _, _, _, _, _, _, _, _, _, _, rfl⟩ (fun i d ρ (g : Nat) K hd hI hK => ?_) (fun ρ (g : Nat) hI => hY _ _ trivial)
  obtain ⟨hg, y2, y3, y4, y5, y6, y7, y8, y9, y10, y11, rfl⟩ := hI
  have hi : i < 2 := by
    have := (List.getElem?_eq_some_iff.mp hd).1
    simpa using this
  have ed : d = .int (i : Nat) := by
    rw [List.getElem?_map, List.getElem?_range hi] at hd
    exact (Option.some.inj hd).symm
  subst ed
  obtain ⟨m, hm, hm1, hm2⟩ : ∃ m : Nat, atI [D.int 24, D.int 10] (i : Int) = some (.int (m : Nat)) ∧ 1 ≤ m ∧ m ≤ 24 := by
    rcases (show i = 0 ∨ i = 1 by omega) with rfl | rfl
    · exact ⟨24, atI_ofNat (j := 0) rfl, by decide, by decide⟩
    · exact ⟨10, atI_ofNat (j := 1) rfl, by decide, by decide⟩
  simp only [gwN]
  refine seqP (fun ρ (g2 : Nat) => g2 = g + 40 ∧ ∃ w : List Nat, 1 ≤ w.length ∧ w.length ≤ 24 ∧ Lets w ∧ ρ = [.no, .im (.ob 0), .im (.int (i : Nat)), .im (.str w), y4, y5, y6, y7, y8, y9, y10, y11]) (fun ρ g2 hM => ?_) (fun Y hY => ?_)
  · obtain ⟨rfl, w, w1, w2, w3, rfl⟩ := hM
    have ps := prt_small w
    have : w.length * w.length ≤ 24 * 24 := Nat.mul_le_mul (by omega) (by omega)
    have pp := prt_pos w1
    have ne : txts (prtW w) ≠ [] := fun z => by
      have := congrArg List.length z
      unfold txts at this
      rw [List.length_map] at this
      simp at this
      rw [this] at pp
      simp at pp
    have tl : (txts (prtW w)).length = (prtW w).length := by unfold txts; rw [List.length_map]
    refine seqP (fun ρ (g2 : Nat) => g2 = g + 40 ∧ ρ = [.no, .im (.ob 0), .im (.int (i : Nat)), .im (.str w), .im (.tup (nats (tOrd w))), .im (.lst (txts (prtW w))), y6, y7, y8, y9, y10, y11]) (fun ρ g2 hM => ?_) (fun Y hY => ?_)
    · obtain ⟨rfl, rfl⟩ := hM
      refine seqP (fun ρ (g2 : Nat) => g2 = g + 40 ∧ ρ = [.no, .im (.ob 0), .im (.int (i : Nat)), .im (.str w), .im (.tup (nats (tOrd w))), .im (.lst (txts (prtW w))), y6, y7, y8, y9, y10, y11]) (fun ρ g2 hM => ?_) (fun Y hY => ?_)
      · obtain ⟨rfl, rfl⟩ := hM
        refine seqP (fun ρ (g2 : Nat) => g2 ≤ g + 80 ∧ ∃ L : List D, (∀ d ∈ L, ∃ p ∈ prtW w, d = .str p) ∧ ∃ y7, ρ = [.no, .im (.ob 0), .im (.int (i : Nat)), .im (.str w), .im (.tup (nats (tOrd w))), .im (.lst (txts (prtW w))), .im (.lst L), y7, y8, y9, y10, y11]) (fun ρ g2 hM => ?_) (fun Y hY => ?_)
        · obtain ⟨hg2, L, hL, y7, rfl⟩ := hM
          refine seqP (fun ρ (g3 : Nat) => g3 = g2 ∧ ∃ y7 y8, ρ = [.no, .im (.ob 0), .im (.int (i : Nat)), .im (.str w), .im (.tup (nats (tOrd w))), .im (.lst (txts (prtW w))), .im (.lst L), y7, y8, y9, y10, y11]) (fun ρ g3 hM => ?_) (fun Y hY => ?_)
          · obtain ⟨rfl, y7, y8, rfl⟩ := hM
            refine seqP (fun ρ (g4 : Nat) => g4 ≤ g3 + 480 ∧ ∃ y7, ρ = [.no, .im (.ob 0), .im (.int (i : Nat)), .im (.str w), .im (.tup (nats (tOrd w))), .im (.lst (txts (prtW w))), .im (.lst L), y7, y8, y9, y10, y11]) (fun ρ g4 hM => ?_) (fun Y hY => ?_)
            · obtain ⟨hg4, y7, rfl⟩ := hM
              simp
              have sl : (txts (prtW w)).length ≤ sizeLine := by rw [tl]; exact small_line (by omega)
              have last : ∀ (n : Nat) (y9 : Sl) (ρ : DEnv), ρ = [.no, .im (.ob 0), .im (.int (i : Nat)), .im (.str w), .im (.tup (nats (tOrd w))), .im (.lst (txts (prtW w))), .im (.lst L), y7, y8, y9, .im (.int (n : Nat)), .no] → lgW w ≤ n →
                  ∀ q : List D → Nat → Prop, q [] g4 → lcW (M := stg) (gwN 11) (wAnd (wB (wBin oGt (wCB cLen (wACons (wVar 11) wANil)) (wVar 10))) (wB (wBin oGt (wCB cLen (wACons (wCallB 2 d_places_of (wACons (wVar 3) (wACons (wVar 11) wANil)) xno) wANil)) (wC (.int 1))))) (wVar 11) ρ (txts (prtW w)) g4 q := by
                intro n y9 ρ hρ hn q hq
                subst hρ
                refine lcW_map (M := stg) (fun x : List Nat => D.str x) (fun x : List Nat => D.str x) (fun _ => false) (prtW w) (fun x hx k1 k0 hk => ?_) (by rw [List.filter_eq_nil_iff.mpr (fun _ _ => by simp)]; exact hq)
                have xl := (prt_each hx).1
                simp at hk ⊢
                refine ⟨small_line (by omega), ?_⟩
                by_cases c : n < x.length
                · rw [if_pos c]
                  refine ⟨w, x, rfl, by omega, by omega, ?_⟩
                  simp
                  have : ¬ 1 < (plcW w x).length := fun z => by
                    have := two_le (w := w) (x := x) z
                    omega
                  have lp : (plcW w x).length ≤ w.length := by
                    have := List.length_filter_le (fun p => decide ((w.drop p).take x.length = x)) (List.range w.length)
                    rw [List.length_range] at this
                    exact this
                  rw [nats_len, if_neg (by omega)]
                  exact hk
                · rw [if_neg c]
                  exact hk
              refine ⟨w, rfl, by omega, ?_⟩
              unfold twW
              by_cases c : lgW w = 0
              · rw [if_pos c]
                simp
                refine ⟨sl, ?_⟩
                exact last 0 _ _ rfl (by omega) _ ⟨rfl, hK _ _ ⟨by omega, _, _, _, _, _, _, _, _, _, _, rfl⟩⟩
              · rw [if_neg c]
                have tw := tw_len c
                have twl : (twP w).length ≤ w.length := by
                  unfold twP
                  rw [List.length_take, List.length_drop]
                  omega
                have twb : ∀ c ∈ twP w, c < 1114112 := fun c hc => by
                  unfold twP at hc
                  have := w3 c (List.mem_of_mem_drop (List.mem_of_mem_take hc))
                  omega
                simp [ptD]
                refine ⟨_, atI_ofNat (j := 0) rfl, w, _, rfl, by omega, by omega, ?_⟩
                refine ⟨_, atI_ofNat (j := 1) rfl, ?_⟩
                simp
                refine ⟨(sh_tup (sh_nats _)).ok (by decide), deq_refl (d := .tup (nats (plcW w (twP w)))) (nb_nats _), _, atI_ofNat (j := 0) rfl, ?_⟩
                simp
                refine ⟨small_line (by omega), sl, ?_⟩
                exact last (twP w).length _ _ rfl (by omega) _ ⟨rfl, hK _ _ ⟨by omega, _, _, _, _, _, _, _, _, _, _, rfl⟩⟩
            · simp
              rw [show rngL 0 (12 : Int) = (List.range 12).map fun (i : Nat) => D.int (i : Int) from rngL_0 12]
              refine forW_word (M := stg) (fun j ρ (g4 : Nat) => g4 ≤ g3 + 40 * j ∧ ∃ y7, ρ = [.no, .im (.ob 0), .im (.int (i : Nat)), .im (.str w), .im (.tup (nats (tOrd w))), .im (.lst (txts (prtW w))), .im (.lst L), y7, y8, y9, y10, y11]) _ ⟨Nat.le_refl _, _, rfl⟩ (fun j d ρ (g4 : Nat) K2 hd2 hI2 hK2 => ?_) (fun ρ (g4 : Nat) hI2 => ?_)
              · obtain ⟨hg4, y7, rfl⟩ := hI2
                have hj : j < 12 := by
                  have := (List.getElem?_eq_some_iff.mp hd2).1
                  simpa using this
                have ed : d = .int (j : Nat) := by
                  rw [List.getElem?_map, List.getElem?_range hj] at hd2
                  exact (Option.some.inj hd2).symm
                subst ed
                obtain ⟨m2, hm2, hm3, hm4⟩ : ∃ m : Nat, atI [D.int 3, D.int 24] ((j % 2 : Nat) : Int) = some (.int (m : Nat)) ∧ 1 ≤ m ∧ m ≤ 24 := by
                  rcases (show j % 2 = 0 ∨ j % 2 = 1 by omega) with e | e
                  · rw [e]
                    exact ⟨3, atI_ofNat (j := 0) rfl, by decide, by decide⟩
                  · rw [e]
                    exact ⟨24, atI_ofNat (j := 1) rfl, by decide, by decide⟩
                simp
                refine ⟨small_line (by decide), _, hm2, m2, rfl, hm3, by omega, by omega, fun p p1 p2 p3 => ?_⟩
                refine ⟨w, p, rfl, w1, w2, p1, by omega, ?_⟩
                simp
                exact hK2 _ _ ⟨by omega, _, rfl⟩
              · obtain ⟨hg4, y7, rfl⟩ := hI2
                simp at hg4
                exact hY _ _ ⟨by omega, _, rfl⟩
          · simp
            refine forW_word (M := stg) (fun j ρ (g4 : Nat) => g4 = g2 ∧ ∃ y7 y8, ρ = [.no, .im (.ob 0), .im (.int (i : Nat)), .im (.str w), .im (.tup (nats (tOrd w))), .im (.lst (txts (prtW w))), .im (.lst L), y7, y8, y9, y10, y11]) _ ⟨rfl, _, _, rfl⟩ (fun j d ρ (g4 : Nat) K2 hd2 hI2 hK2 => ?_) (fun ρ (g4 : Nat) hI2 => ?_)
            · obtain ⟨rfl, y7, y8, rfl⟩ := hI2
              obtain ⟨p, hp, rfl⟩ := hL d (List.mem_of_getElem? hd2)
              have pl := (prt_each hp).1
              have p1 := List.length_pos_iff.mpr (prt_ne hp)
              have ix := List.idxOf_lt_length_of_mem hp
              simp
              refine ⟨w, p, rfl, w1, w2, p1, by omega, ?_⟩
              simp
              refine ⟨w, .str p, rfl, by omega, ⟨_, rfl⟩, ?_⟩
              rw [show pixD w (.str p) = .int ((prtW w).idxOf p : Nat) from if_pos hp]
              simp
              refine ⟨.str p, atI_ofNat ?_, ?_⟩
              · unfold txts
                rw [List.getElem?_map, List.getElem?_eq_getElem ix, List.getElem_idxOf ix]
                rfl
              · simp
                exact hK2 _ _ ⟨rfl, _, _, rfl⟩
            · obtain ⟨rfl, y7, y8, rfl⟩ := hI2
              exact hY _ _ ⟨rfl, _, _, rfl⟩
        · simp
          split
          · exact hY _ _ ⟨by omega, _, fun d hd => (by
              obtain ⟨p, hp, rfl⟩ := List.mem_map.mp hd
              exact ⟨p, hp, rfl⟩), _, rfl⟩
          · rw [show rngL 0 (40 : Int) = (List.range 40).map fun (i : Nat) => D.int (i : Int) from rngL_0 40]
            refine ⟨small_line (by simp), ?_⟩
            refine lcW_draw _ (fun _ d => ∃ p ∈ prtW w, d = .str p) 1 (g + 80) (List.range 40) (by rw [List.length_range]; omega) (fun i hi g1 k1 k0 hg1 hk => ?_) fun ys hy => ?_
            · simp
              refine pick_of (by omega) rfl ne (by omega) fun d hd => hk d ?_
              obtain ⟨p, hp, rfl⟩ := List.mem_map.mp hd
              exact ⟨p, hp, rfl⟩
            · obtain ⟨hy1, hy2⟩ := paired_all hy
              exact hY _ _ ⟨by rw [List.length_range]; omega, _, hy1, _, rfl⟩
      · simp
        refine .inl ⟨prtW w, rfl, by omega, fun ys h1 h2 => ?_⟩
        have ey : ys = prtW w := rise_uniq h1 (prtW_rise w) h2
        subst ey
        have sh : shp (.lst (txts (prtW w))) = true := (sh_lst (k := 0) fun d hd => by
          obtain ⟨x, hx, rfl⟩ := List.mem_map.mp hd
          exact sh_str x fun c hc => by
            have := w3 c ((prt_each hx).2 c hc)
            omega).ok (by decide)
        refine ⟨sh, sh, deq_refl (d := .lst (txts (prtW w))) (nb_txts _), w, rfl, by omega, ?_⟩
        rw [tl]
        simp
        exact hY _ _ ⟨rfl, rfl⟩
    · simp
      refine ⟨w, rfl, by omega, w, rfl, by omega, small_line (by decide), ?_⟩
      exact hY _ _ ⟨rfl, rfl⟩
  · simp
    refine ⟨small_line (by decide), _, hm, m, rfl, hm1, by omega, by omega, fun w w1 w2 w3 => ?_⟩
    exact hY _ _ ⟨rfl, w, w1, by omega, w3, rfl⟩
end LW
set_option Elab.async false
set_option linter.all false
set_option maxRecDepth 100000
set_option maxHeartbeats 4000000
namespace LW
open PySem L2 DL
theorem all_mk {l : PySem.W.OpenLaw} {w : World} {K : PySem.W.Frag} {h : Heap} {nm_NoIndex qn_NoIndex : Str} {N_NoIndex I_NoIndex : Addr} {bs_NoIndex bm_NoIndex sb_NoIndex : List Value} {sn_NoIndex : List Str} {ab_NoIndex : Bool} {col_NoIndex : Option Bool} {dd_NoIndex : Option Addr} {m0_NoIndex m1_NoIndex m2_NoIndex m3_NoIndex m5_NoIndex : Option Value} {o1_NoIndex doc_NoIndex pm_NoIndex cdv_NoIndex ct_NoIndex : Value} {od_NoIndex an_NoIndex : Option Addr} {osl_NoIndex : Array (Option Value)} {p1_NoIndex p2_NoIndex q1_NoIndex q2_NoIndex q3_NoIndex q4_NoIndex : Pos} {C_NoIndex : Addr} {mg : Str → Option Value} {fa f1 f2 f3 f4 f5 f6 f7 f8 f9 f10 f11 f12 f13 f14 f15 f16 f17 f18 f19 f20 f21 : Addr} (X : K.In h) (G : h.Ns mainGlobals mg) (hfa : mg "law" = some (.ref fa))
    {od1 an1 od2 an2 od3 an3 od4 an4 od5 an5 od6 an6 od7 an7 od8 an8 od9 an9 od10 an10 od11 an11 od12 an12 od13 an13 od14 an14 od15 an15 od16 an16 od17 an17 od18 an18 od19 an19 od20 an20 od21 an21 : Option Addr} {sl1 sl2 sl3 sl4 sl5 sl6 sl7 sl8 sl9 sl10 sl11 sl12 sl13 sl14 sl15 sl16 sl17 sl18 sl19 sl20 sl21 : Array (Option Value)} {oc1 kV1 dc1 pm1 cd1 ct1 oc2 kV2 dc2 pm2 cd2 ct2 oc3 kV3 dc3 pm3 cd3 ct3 oc4 kV4 dc4 pm4 cd4 ct4 oc5 kV5 dc5 pm5 cd5 ct5 oc6 kV6 dc6 pm6 cd6 ct6 oc7 kV7 dc7 pm7 cd7 ct7 oc8 kV8 dc8 pm8 cd8 ct8 oc9 kV9 dc9 pm9 cd9 ct9 oc10 kV10 dc10 pm10 cd10 ct10 oc11 kV11 dc11 pm11 cd11 ct11 oc12 kV12 dc12 pm12 cd12 ct12 oc13 kV13 dc13 pm13 cd13 ct13 oc14 kV14 dc14 pm14 cd14 ct14 oc15 kV15 dc15 pm15 cd15 ct15 oc16 kV16 dc16 pm16 cd16 ct16 oc17 kV17 dc17 pm17 cd17 ct17 oc18 kV18 dc18 pm18 cd18 ct18 oc19 kV19 dc19 pm19 cd19 ct19 oc20 kV20 dc20 pm20 cd20 ct20 oc21 kV21 dc21 pm21 cd21 ct21 : Value}
    (a1 : PySem.W.nsIn K mainGlobals "is_integer" = some (some (.ref f1))) (l1 : K.lookup f1 = some ⟨oc1, od1, .func (PySem.W.fnOf "is_integer" "is_integer" (defArgs s_is_integer) (defBody s_is_integer) (defScope s_is_integer) .none kV1 dc1 pm1 an1 cd1 ct1), sl1⟩) (c1 : PySem.W.codeIn K cd1 "is_integer" = true) (k1 : PySem.W.keepIn K (.ref f1) = true)
    (a2 : PySem.W.nsIn K mainGlobals "tail_order" = some (some (.ref f2))) (l2 : K.lookup f2 = some ⟨oc2, od2, .func (PySem.W.fnOf "tail_order" "tail_order" (defArgs s_tail_order) (defBody s_tail_order) (defScope s_tail_order) .none kV2 dc2 pm2 an2 cd2 ct2), sl2⟩) (c2 : PySem.W.codeIn K cd2 "tail_order" = true) (k2 : PySem.W.keepIn K (.ref f2) = true)
    (a3 : PySem.W.nsIn K mainGlobals "agreement" = some (some (.ref f3))) (l3 : K.lookup f3 = some ⟨oc3, od3, .func (PySem.W.fnOf "agreement" "agreement" (defArgs s_agreement) (defBody s_agreement) (defScope s_agreement) .none kV3 dc3 pm3 an3 cd3 ct3), sl3⟩) (c3 : PySem.W.codeIn K cd3 "agreement" = true) (k3 : PySem.W.keepIn K (.ref f3) = true)
    (a4 : PySem.W.nsIn K mainGlobals "heads_of" = some (some (.ref f4))) (l4 : K.lookup f4 = some ⟨oc4, od4, .func (PySem.W.fnOf "heads_of" "heads_of" (defArgs s_heads_of) (defBody s_heads_of) (defScope s_heads_of) .none kV4 dc4 pm4 an4 cd4 ct4), sl4⟩) (c4 : PySem.W.codeIn K cd4 "heads_of" = true) (k4 : PySem.W.keepIn K (.ref f4) = true)
    (a5 : PySem.W.nsIn K mainGlobals "new_parts" = some (some (.ref f5))) (l5 : K.lookup f5 = some ⟨oc5, od5, .func (PySem.W.fnOf "new_parts" "new_parts" (defArgs s_new_parts) (defBody s_new_parts) (defScope s_new_parts) .none kV5 dc5 pm5 an5 cd5 ct5), sl5⟩) (c5 : PySem.W.codeIn K cd5 "new_parts" = true) (k5 : PySem.W.keepIn K (.ref f5) = true)
    (a6 : PySem.W.nsIn K mainGlobals "count_parts" = some (some (.ref f6))) (l6 : K.lookup f6 = some ⟨oc6, od6, .func (PySem.W.fnOf "count_parts" "count_parts" (defArgs s_count_parts) (defBody s_count_parts) (defScope s_count_parts) .none kV6 dc6 pm6 an6 cd6 ct6), sl6⟩) (c6 : PySem.W.codeIn K cd6 "count_parts" = true) (k6 : PySem.W.keepIn K (.ref f6) = true)
    (a7 : PySem.W.nsIn K mainGlobals "part_at" = some (some (.ref f7))) (l7 : K.lookup f7 = some ⟨oc7, od7, .func (PySem.W.fnOf "part_at" "part_at" (defArgs s_part_at) (defBody s_part_at) (defScope s_part_at) .none kV7 dc7 pm7 an7 cd7 ct7), sl7⟩) (c7 : PySem.W.codeIn K cd7 "part_at" = true) (k7 : PySem.W.keepIn K (.ref f7) = true)
    (a8 : PySem.W.nsIn K mainGlobals "part_index" = some (some (.ref f8))) (l8 : K.lookup f8 = some ⟨oc8, od8, .func (PySem.W.fnOf "part_index" "part_index" (defArgs s_part_index) (defBody s_part_index) (defScope s_part_index) .none kV8 dc8 pm8 an8 cd8 ct8), sl8⟩) (c8 : PySem.W.codeIn K cd8 "part_index" = true) (k8 : PySem.W.keepIn K (.ref f8) = true)
    (a9 : PySem.W.nsIn K mainGlobals "each_part" = some (some (.ref f9))) (l9 : K.lookup f9 = some ⟨oc9, od9, .func (PySem.W.fnOf "each_part" "each_part" (defArgs s_each_part) (defBody s_each_part) (defScope s_each_part) .none kV9 dc9 pm9 an9 cd9 ct9), sl9⟩) (c9 : PySem.W.codeIn K cd9 "each_part" = true) (k9 : PySem.W.keepIn K (.ref f9) = true)
    (a10 : PySem.W.nsIn K mainGlobals "longest_twice" = some (some (.ref f10))) (l10 : K.lookup f10 = some ⟨oc10, od10, .func (PySem.W.fnOf "longest_twice" "longest_twice" (defArgs s_longest_twice) (defBody s_longest_twice) (defScope s_longest_twice) .none kV10 dc10 pm10 an10 cd10 ct10), sl10⟩) (c10 : PySem.W.codeIn K cd10 "longest_twice" = true) (k10 : PySem.W.keepIn K (.ref f10) = true)
    (a11 : PySem.W.nsIn K mainGlobals "find" = some (some (.ref f11))) (l11 : K.lookup f11 = some ⟨oc11, od11, .func (PySem.W.fnOf "find" "find" (defArgs s_find) (defBody s_find) (defScope s_find) .none kV11 dc11 pm11 an11 cd11 ct11), sl11⟩) (c11 : PySem.W.codeIn K cd11 "find" = true) (k11 : PySem.W.keepIn K (.ref f11) = true)
    (a12 : PySem.W.nsIn K mainGlobals "each_place" = some (some (.ref f12))) (l12 : K.lookup f12 = some ⟨oc12, od12, .func (PySem.W.fnOf "each_place" "each_place" (defArgs s_each_place) (defBody s_each_place) (defScope s_each_place) .none kV12 dc12 pm12 an12 cd12 ct12), sl12⟩) (c12 : PySem.W.codeIn K cd12 "each_place" = true) (k12 : PySem.W.keepIn K (.ref f12) = true)
    (a13 : PySem.W.nsIn K mainGlobals "places_of" = some (some (.ref f13))) (l13 : K.lookup f13 = some ⟨oc13, od13, .func (PySem.W.fnOf "places_of" "places_of" (defArgs s_places_of) (defBody s_places_of) (defScope s_places_of) .none kV13 dc13 pm13 an13 cd13 ct13), sl13⟩) (c13 : PySem.W.codeIn K cd13 "places_of" = true) (k13 : PySem.W.keepIn K (.ref f13) = true)
    (a14 : PySem.W.nsIn K mainGlobals "is_whole" = some (some (.ref f14))) (l14 : K.lookup f14 = some ⟨oc14, od14, .func (PySem.W.fnOf "is_whole" "is_whole" (defArgs s_is_whole) (defBody s_is_whole) (defScope s_is_whole) .none kV14 dc14 pm14 an14 cd14 ct14), sl14⟩) (c14 : PySem.W.codeIn K cd14 "is_whole" = true) (k14 : PySem.W.keepIn K (.ref f14) = true)
    (a15 : PySem.W.nsIn K mainGlobals "finding_holds" = some (some (.ref f15))) (l15 : K.lookup f15 = some ⟨oc15, od15, .func (PySem.W.fnOf "finding_holds" "finding_holds" (defArgs s_finding_holds) (defBody s_finding_holds) (defScope s_finding_holds) .none kV15 dc15 pm15 an15 cd15 ct15), sl15⟩) (c15 : PySem.W.codeIn K cd15 "finding_holds" = true) (k15 : PySem.W.keepIn K (.ref f15) = true)
    (a16 : PySem.W.nsIn K mainGlobals "_law_stream" = some (some (.ref f16))) (l16 : K.lookup f16 = some ⟨oc16, od16, .func (PySem.W.fnOf "_law_stream" "_law_stream" (defArgs sStream) (defBody sStream) (defScope sStream) .none kV16 dc16 pm16 an16 cd16 ct16), sl16⟩) (c16 : PySem.W.codeIn K cd16 "_law_stream" = true) (k16 : PySem.W.keepIn K (.ref f16) = true)
    (a17 : PySem.W.nsIn K mainGlobals "_law_draw" = some (some (.ref f17))) (l17 : K.lookup f17 = some ⟨oc17, od17, .func (PySem.W.fnOf "_law_draw" "_law_draw" (defArgs sDraw) (defBody sDraw) (defScope sDraw) .none kV17 dc17 pm17 an17 cd17 ct17), sl17⟩) (c17 : PySem.W.codeIn K cd17 "_law_draw" = true) (k17 : PySem.W.keepIn K (.ref f17) = true)
    (a18 : PySem.W.nsIn K mainGlobals "_law_pick" = some (some (.ref f18))) (l18 : K.lookup f18 = some ⟨oc18, od18, .func (PySem.W.fnOf "_law_pick" "_law_pick" (defArgs s_l_pick) (defBody s_l_pick) (defScope s_l_pick) .none kV18 dc18 pm18 an18 cd18 ct18), sl18⟩) (c18 : PySem.W.codeIn K cd18 "_law_pick" = true) (k18 : PySem.W.keepIn K (.ref f18) = true)
    (a19 : PySem.W.nsIn K mainGlobals "_law_drawn" = some (some (.ref f19))) (l19 : K.lookup f19 = some ⟨oc19, od19, .func (PySem.W.fnOf "_law_drawn" "_law_drawn" (defArgs s_l_drawn) (defBody s_l_drawn) (defScope s_l_drawn) .none kV19 dc19 pm19 an19 cd19 ct19), sl19⟩) (c19 : PySem.W.codeIn K cd19 "_law_drawn" = true) (k19 : PySem.W.keepIn K (.ref f19) = true)
    (a20 : PySem.W.nsIn K mainGlobals "_law_pattern_right" = some (some (.ref f20))) (l20 : K.lookup f20 = some ⟨oc20, od20, .func (PySem.W.fnOf "_law_pattern_right" "_law_pattern_right" (defArgs s_l_pattern_right) (defBody s_l_pattern_right) (defScope s_l_pattern_right) .none kV20 dc20 pm20 an20 cd20 ct20), sl20⟩) (c20 : PySem.W.codeIn K cd20 "_law_pattern_right" = true) (k20 : PySem.W.keepIn K (.ref f20) = true)
    (a21 : PySem.W.nsIn K mainGlobals "law" = some (some (.ref f21))) (l21 : K.lookup f21 = some ⟨oc21, od21, .func (PySem.W.fnOf "law" "law" (defArgs s_law) (defBody s_law) (defScope s_law) .none kV21 dc21 pm21 an21 cd21 ct21), sl21⟩) (c21 : PySem.W.codeIn K cd21 "law" = true) (k21 : PySem.W.keepIn K (.ref f21) = true)
    (z1 : PySem.W.nsIn K mainGlobals "abs" = some none)
    (z2 : PySem.W.nsIn K mainGlobals "all" = some none)
    (z3 : PySem.W.nsIn K mainGlobals "bool" = some none)
    (z4 : PySem.W.nsIn K mainGlobals "int" = some none)
    (z5 : PySem.W.nsIn K mainGlobals "isinstance" = some none)
    (z6 : PySem.W.nsIn K mainGlobals "len" = some none)
    (z7 : PySem.W.nsIn K mainGlobals "list" = some none)
    (z8 : PySem.W.nsIn K mainGlobals "max" = some none)
    (z9 : PySem.W.nsIn K mainGlobals "min" = some none)
    (z10 : PySem.W.nsIn K mainGlobals "range" = some none)
    (z11 : PySem.W.nsIn K mainGlobals "set" = some none)
    (z12 : PySem.W.nsIn K mainGlobals "sorted" = some none)
    (z13 : PySem.W.nsIn K mainGlobals "str" = some none)
    (z14 : PySem.W.nsIn K mainGlobals "sum" = some none)
    (z15 : PySem.W.nsIn K mainGlobals "tuple" = some none)
    (z16 : PySem.W.nsIn K mainGlobals "zip" = some none)
    (aC_NoIndex : PySem.W.nsIn K mainGlobals "NoIndex" = some (some (.ref C_NoIndex)))
    (ga_NoIndex : PySem.W.findIn K (.ref C_NoIndex) "__getattribute__" = some (some (.builtin "BaseException.__getattribute__")))
    (gg_NoIndex : PySem.W.findIn K (.ref C_NoIndex) "__getattr__" = some none)
    (eb_NoIndex : PySem.W.subIn K (.ref C_NoIndex) (.type "BaseException") = some true)
    (hd_NoIndex : PySem.W.hasDictIn K C_NoIndex = true)
    (kc_NoIndex : PySem.W.keepIn K (.ref C_NoIndex) = true)
    (ty_NoIndex : PySem.W.typeIn K (.ref C_NoIndex) = some (.type "type"))
    (xL_NoIndex : K.lookup C_NoIndex = some (excClassObj nm_NoIndex qn_NoIndex C_NoIndex N_NoIndex bs_NoIndex bm_NoIndex true sn_NoIndex sb_NoIndex ab_NoIndex col_NoIndex dd_NoIndex m0_NoIndex m1_NoIndex m2_NoIndex m3_NoIndex m5_NoIndex "LookupError.__new__"))
    (te_NoIndex : PySem.W.excTail [.type "LookupError", .type "Exception", .type "BaseException", .type "object"] bm_NoIndex = true)
    (sa_NoIndex : PySem.W.findIn K (.ref C_NoIndex) "__setattr__" = some (some (.builtin "object.__setattr__")))
    (tk_NoIndex : PySem.W.takerIn K C_NoIndex "value" = some none)
    (iC_NoIndex : PySem.W.findIn K (.ref C_NoIndex) "__init__" = some (some (.ref I_NoIndex)))
    (tI_NoIndex : PySem.W.typeIn K (.ref I_NoIndex) = some (.type "function"))
    (lI_NoIndex : K.lookup I_NoIndex = some ⟨o1_NoIndex, od_NoIndex, .func (PySem.W.fnOf "__init__" "NoIndex.__init__" (xA "value" p1_NoIndex p2_NoIndex) (xB "value" q1_NoIndex q2_NoIndex q3_NoIndex q4_NoIndex) (xS "value") .none .none doc_NoIndex pm_NoIndex an_NoIndex cdv_NoIndex ct_NoIndex), osl_NoIndex⟩)
    (cI_NoIndex : PySem.W.codeIn K cdv_NoIndex "NoIndex.__init__" = true)
    : ∃ fd : FuncData, (∀ (s : Shared) (v : Value), BindsTo s fd ⟨[v], []⟩ [("_law_script", v)]) ∧ ∀ base : Heap, K.In base → base.Ns mainGlobals mg → SmB base → FnG l.prog w K mg base 8 fa fd ["_law_script"] (spLaw K) := by
  have e := hfa.symm.trans (PySem.W.mg_of X G a21)
  cases e
  have F1 := fun_mk (st := s_is_integer) l1 c1 k1
  have F2 := fun_mk (st := s_tail_order) l2 c2 k2
  have F3 := fun_mk (st := s_agreement) l3 c3 k3
  have F4 := fun_mk (st := s_heads_of) l4 c4 k4
  have F5 := fun_mk (st := s_new_parts) l5 c5 k5
  have F6 := fun_mk (st := s_count_parts) l6 c6 k6
  have F7 := fun_mk (st := s_part_at) l7 c7 k7
  have F8 := fun_mk (st := s_part_index) l8 c8 k8
  have F9 := fun_mk (st := s_each_part) l9 c9 k9
  have F10 := fun_mk (st := s_longest_twice) l10 c10 k10
  have F11 := fun_mk (st := s_find) l11 c11 k11
  have F12 := fun_mk (st := s_each_place) l12 c12 k12
  have F13 := fun_mk (st := s_places_of) l13 c13 k13
  have F14 := fun_mk (st := s_is_whole) l14 c14 k14
  have F15 := fun_mk (st := s_finding_holds) l15 c15 k15
  have F16 := fun_mk (st := sStream) l16 c16 k16
  have F17 := fun_mk (st := sDraw) l17 c17 k17
  have F18 := fun_mk (st := s_l_pick) l18 c18 k18
  have F19 := fun_mk (st := s_l_drawn) l19 c19 k19
  have F20 := fun_mk (st := s_l_pattern_right) l20 c20 k20
  have F21 := fun_mk (st := s_law) l21 c21 k21
  have g1 := PySem.W.mg_of X G a1
  have g2 := PySem.W.mg_of X G a2
  have g3 := PySem.W.mg_of X G a3
  have g4 := PySem.W.mg_of X G a4
  have g5 := PySem.W.mg_of X G a5
  have g6 := PySem.W.mg_of X G a6
  have g7 := PySem.W.mg_of X G a7
  have g8 := PySem.W.mg_of X G a8
  have g9 := PySem.W.mg_of X G a9
  have g10 := PySem.W.mg_of X G a10
  have g11 := PySem.W.mg_of X G a11
  have g12 := PySem.W.mg_of X G a12
  have g13 := PySem.W.mg_of X G a13
  have g14 := PySem.W.mg_of X G a14
  have g15 := PySem.W.mg_of X G a15
  have g16 := PySem.W.mg_of X G a16
  have g17 := PySem.W.mg_of X G a17
  have g18 := PySem.W.mg_of X G a18
  have g19 := PySem.W.mg_of X G a19
  have g20 := PySem.W.mg_of X G a20
  have g21 := PySem.W.mg_of X G a21
  have m_abs := PySem.W.mg_none_of X G z1
  have m_all := PySem.W.mg_none_of X G z2
  have m_bool := PySem.W.mg_none_of X G z3
  have m_int := PySem.W.mg_none_of X G z4
  have m_isinstance := PySem.W.mg_none_of X G z5
  have m_len := PySem.W.mg_none_of X G z6
  have m_list := PySem.W.mg_none_of X G z7
  have m_max := PySem.W.mg_none_of X G z8
  have m_min := PySem.W.mg_none_of X G z9
  have m_range := PySem.W.mg_none_of X G z10
  have m_set := PySem.W.mg_none_of X G z11
  have m_sorted := PySem.W.mg_none_of X G z12
  have m_str := PySem.W.mg_none_of X G z13
  have m_sum := PySem.W.mg_none_of X G z14
  have m_tuple := PySem.W.mg_none_of X G z15
  have m_zip := PySem.W.mg_none_of X G z16
  have xr_NoIndex : RaisesF K "NoIndex" "value" := ⟨"LookupError", _, _, _, C_NoIndex, I_NoIndex, _, ⟨aC_NoIndex, (exInit_of xL_NoIndex te_NoIndex).1, (exInit_of xL_NoIndex te_NoIndex).2, sa_NoIndex, tk_NoIndex, hd_NoIndex, iC_NoIndex, tI_NoIndex, kc_NoIndex, eb_NoIndex, ty_NoIndex, by decide, ⟨_, _, _, _, _, _, _, _, _, _, _, _, _, _, lI_NoIndex, cI_NoIndex⟩, PySem.F.excBase_LookupError, PySem.F.store_LookupError⟩⟩
  have bs := F16.binds (ps := ["_law_script"]) fun _ _ _ _ _ _ us hl => match us, hl with | [_], _ => rfl
  have bd := F17.binds (ps := ["_law_stream_here", "_law_many"]) fun _ _ _ _ _ _ us hl => match us, hl with | [_, _], _ => rfl
  refine ⟨PySem.W.fnOf "law" "law" (defArgs s_law) (defBody s_law) (defScope s_law) .none kV21 dc21 pm21 an21 cd21 ct21, fun s v => .of_eq rfl, fun base _ _ m_sm => ?_⟩
  have F_l_draw := fnB_of F17 g17 (ok_draw (P := l.prog) (w := w) (base := base) F17 m_len) bd
  have FS := ok_stream (P := l.prog) (w := w) (mg := mg) (base := base) F16 m_len m_abs
  have F_is_integer := ok_is_integer (P := l.prog) (w := w) (base := base) F1 g1 m_bool m_int m_isinstance p_is_integer
  have F_tail_order := ok_tail_order (P := l.prog) (w := w) (base := base) F2 g2 m_len m_range m_sorted m_tuple p_tail_order
  have F_agreement := ok_agreement (P := l.prog) (w := w) (base := base) F3 g3 m_zip p_agreement
  have F_places_of := ok_places_of (P := l.prog) (w := w) (base := base) F13 g13 m_len m_range m_tuple p_places_of
  have F_is_whole := ok_is_whole (P := l.prog) (w := w) (base := base) F14 g14 m_bool m_int m_isinstance p_is_whole
  have F_heads_of := ok_heads_of (P := l.prog) (w := w) (base := base) F4 g4 F_tail_order F_agreement m_tuple m_zip p_heads_of
  have F_find := ok_find (P := l.prog) (w := w) (base := base) F11 g11 F_tail_order m_len p_find
  have F_each_place := ok_each_place (P := l.prog) (w := w) (base := base) F12 g12 F_tail_order p_each_place
  have F_l_pick := ok_l_pick (P := l.prog) (w := w) (base := base) F18 g18 F_l_draw m_len p_l_pick
  have F_new_parts := ok_new_parts (P := l.prog) (w := w) (base := base) F5 g5 F_tail_order F_heads_of m_list m_zip p_new_parts
  have F_longest_twice := ok_longest_twice (P := l.prog) (w := w) (base := base) F10 g10 F_heads_of F_tail_order m_len m_max m_range m_tuple p_longest_twice
  have F_finding_holds := ok_finding_holds (P := l.prog) (w := w) (base := base) F15 g15 F_is_whole F_find m_all m_isinstance m_str m_tuple p_finding_holds
  have F_l_drawn := ok_l_drawn (P := l.prog) (w := w) (base := base) F19 g19 F_l_draw F_l_pick m_min m_range p_l_drawn
  have F_count_parts := ok_count_parts (P := l.prog) (w := w) (base := base) F6 g6 F_new_parts m_len m_sum p_count_parts
  have F_part_index := ok_part_index (P := l.prog) (w := w) (base := base) F8 g8 F_new_parts m_isinstance m_len m_str p_part_index
  have F_each_part := ok_each_part (P := l.prog) (w := w) (base := base) F9 g9 F_new_parts m_len m_range p_each_part
  have F_part_at := ok_part_at (P := l.prog) (w := w) (base := base) F7 g7 F_count_parts F_is_integer F_new_parts m_len xr_NoIndex p_part_at
  have F_l_pattern_right := ok_l_pattern_right (P := l.prog) (w := w) (base := base) F20 g20 F_find F_places_of F_finding_holds F_each_place F_part_index F_part_at m_list m_sorted p_l_pattern_right
  exact ok_law (P := l.prog) (w := w) (base := base) F21 FS g16 k16 bs F_l_drawn F_each_part F_tail_order F_count_parts F_l_pick F_l_pattern_right F_part_index F_longest_twice F_places_of m_len m_list m_range m_set m_sorted p_law
end LW
open PySem PySem.W PyProof.Rows
set_option maxHeartbeats 0 in
theorem PySem.Challenge.cw_tailranks_k56_whole_parts_are_found_holds : PySem.Challenge.rw_tailranks_k56_whole_parts_are_found.Holds := by
  w_on; o_law; k_head; (case hw => w_witness2)
  k_fill
  refine DL.walkG (l := PySem.Challenge.rw_tailranks_k56_whole_parts_are_found) (n := 63) (k := 8) (x := "_law_script") (sp := fun w => DL.spLaw _) rfl (by decide +kernel) (by decide) rfl ⟨rfl, by decide, by decide⟩ (fun w h Y => PySem.W.kIn_of Y) ?F (fun _ _ a ns hl hS => ⟨a, ns, rfl, hS, hl, fun _ => rfl⟩)
  case F =>
    intro w mg fa h KX G hmg
    refine' LW.all_mk KX G hmg ?a1 ?l1 ?c1 ?k1 ?a2 ?l2 ?c2 ?k2 ?a3 ?l3 ?c3 ?k3 ?a4 ?l4 ?c4 ?k4 ?a5 ?l5 ?c5 ?k5 ?a6 ?l6 ?c6 ?k6 ?a7 ?l7 ?c7 ?k7 ?a8 ?l8 ?c8 ?k8 ?a9 ?l9 ?c9 ?k9 ?a10 ?l10 ?c10 ?k10 ?a11 ?l11 ?c11 ?k11 ?a12 ?l12 ?c12 ?k12 ?a13 ?l13 ?c13 ?k13 ?a14 ?l14 ?c14 ?k14 ?a15 ?l15 ?c15 ?k15 ?a16 ?l16 ?c16 ?k16 ?a17 ?l17 ?c17 ?k17 ?a18 ?l18 ?c18 ?k18 ?a19 ?l19 ?c19 ?k19 ?a20 ?l20 ?c20 ?k20 ?a21 ?l21 ?c21 ?k21 ?z1 ?z2 ?z3 ?z4 ?z5 ?z6 ?z7 ?z8 ?z9 ?z10 ?z11 ?z12 ?z13 ?z14 ?z15 ?z16 ?aC_NoIndex ?ga_NoIndex ?gg_NoIndex ?eb_NoIndex ?hd_NoIndex ?kc_NoIndex ?ty_NoIndex ?xL_NoIndex ?te_NoIndex ?sa_NoIndex ?tk_NoIndex ?iC_NoIndex ?tI_NoIndex ?lI_NoIndex ?cI_NoIndex
    (case a1 => k_is); (case l1 => k_is); (case c1 => k_is); (case k1 => k_is); (case a2 => k_is); (case l2 => k_is); (case c2 => k_is); (case k2 => k_is); (case a3 => k_is); (case l3 => k_is); (case c3 => k_is); (case k3 => k_is); (case a4 => k_is); (case l4 => k_is); (case c4 => k_is); (case k4 => k_is); (case a5 => k_is); (case l5 => k_is); (case c5 => k_is); (case k5 => k_is); (case a6 => k_is); (case l6 => k_is); (case c6 => k_is); (case k6 => k_is); (case a7 => k_is); (case l7 => k_is); (case c7 => k_is); (case k7 => k_is); (case a8 => k_is); (case l8 => k_is); (case c8 => k_is); (case k8 => k_is); (case a9 => k_is); (case l9 => k_is); (case c9 => k_is); (case k9 => k_is); (case a10 => k_is); (case l10 => k_is); (case c10 => k_is); (case k10 => k_is); (case a11 => k_is); (case l11 => k_is); (case c11 => k_is); (case k11 => k_is); (case a12 => k_is); (case l12 => k_is); (case c12 => k_is); (case k12 => k_is); (case a13 => k_is); (case l13 => k_is); (case c13 => k_is); (case k13 => k_is); (case a14 => k_is); (case l14 => k_is); (case c14 => k_is); (case k14 => k_is); (case a15 => k_is); (case l15 => k_is); (case c15 => k_is); (case k15 => k_is); (case a16 => k_is); (case l16 => k_is); (case c16 => k_is); (case k16 => k_is); (case a17 => k_is); (case l17 => k_is); (case c17 => k_is); (case k17 => k_is); (case a18 => k_is); (case l18 => k_is); (case c18 => k_is); (case k18 => k_is); (case a19 => k_is); (case l19 => k_is); (case c19 => k_is); (case k19 => k_is); (case a20 => k_is); (case l20 => k_is); (case c20 => k_is); (case k20 => k_is); (case a21 => k_is); (case l21 => k_is); (case c21 => k_is); (case k21 => k_is); (case z1 => k_is); (case z2 => k_is); (case z3 => k_is); (case z4 => k_is); (case z5 => k_is); (case z6 => k_is); (case z7 => k_is); (case z8 => k_is); (case z9 => k_is); (case z10 => k_is); (case z11 => k_is); (case z12 => k_is); (case z13 => k_is); (case z14 => k_is); (case z15 => k_is); (case z16 => k_is); (case aC_NoIndex => k_is); (case ga_NoIndex => k_is); (case gg_NoIndex => k_is); (case eb_NoIndex => k_is); (case hd_NoIndex => k_is); (case kc_NoIndex => k_is); (case ty_NoIndex => k_is); (case xL_NoIndex => k_is); (case te_NoIndex => rfl); (case sa_NoIndex => k_is); (case tk_NoIndex => k_is); (case iC_NoIndex => k_is); (case tI_NoIndex => k_is); (case lI_NoIndex => k_is); (case cI_NoIndex => k_is)
