import PyProof.Rows.All
import Wide.All
import OpenK.AllK
import Wide.FinOn
import HandS.ForMost
import HandS.Exc
import HandS.ExcOwn
import HandS.TryOnly
import HandS.TryMany
import HandS.WordsExc
import KE.KDictKeyed
import HandS.Wide
import HandS.TupAny
import PyProof.StrOps2
import HandS.RaiseMore
import HandS.ExcIs
import HandS.Style
import HandS.More
import PySem.Challenge.RW_forkplan_k96_refusals_ahead
set_option Elab.async false
set_option linter.all false
set_option maxRecDepth 100000
set_option maxHeartbeats 4000000
namespace Fp
open PySem PySem.Spec L2
open PyProof.Rows hiding St

/-! ### data, owned values -/
inductive D where
  | non | bl (b : Bool) | int (i : Int) | str (s : Str) | tup (ds : List D) | lst (ds : List D) | dct (kvs : List (NestedKey × D))
  | exn (c : Str)
inductive W where
  | sh (d : D) | lst (ws : List W) | tup (ws : List W) | dct (kvs : List (NestedKey × W)) | obj (c : Str) (fs : List (Str × W)) | mov

mutual
def keyD : NestedKey → D
  | .none => .non
  | .num i => .int i
  | .text s => .str s
  | .tup ks => .tup (keyDs ks)
def keyDs : List NestedKey → List D
  | [] => []
  | k :: ks => keyD k :: keyDs ks
end
mutual
def dKey : D → Option NestedKey
  | .non => some .none
  | .int i => some (.num i)
  | .str s => some (.text s)
  | .tup ds => (dKeys ds).map .tup
  | _ => none
def dKeys : List D → Option (List NestedKey)
  | [] => some []
  | d :: ds => match dKey d, dKeys ds with
    | some k, some ks => some (k :: ks)
    | _, _ => none
end
mutual
def W.data : W → Option D
  | .sh d => some d
  | .lst ws => (W.datas ws).map .lst
  | .tup ws => (W.datas ws).map .tup
  | .dct kvs => (W.datak kvs).map .dct
  | _ => none
def W.datas : List W → Option (List D)
  | [] => some []
  | w :: ws => match W.data w, W.datas ws with
    | some d, some ds => some (d :: ds)
    | _, _ => none
def W.datak : List (NestedKey × W) → Option (List (NestedKey × D))
  | [] => some []
  | (k, w) :: ws => match W.data w, W.datak ws with
    | some d, some ds => some ((k, d) :: ds)
    | _, _ => none
end

/-! ### what a text fixes -/
structure G where
  P : Program
  w : World
  K : PySem.W.Frag
  mg : Str → Option Value
abbrev gx (X : Cx) : G := ⟨X.prog, X.w, X.K, X.mg⟩

def nk : Key → NestedKey
  | .inl i => .num i
  | .inr s => .text s
/-- a dict with tuples as keys, by its raw object -/
def DictO (g : G) (a : Addr) (l : List (NestedKey × Addr × V)) : HO :=
  .ext fun h => (a == sysModules) = false ∧ ∃ (o : Obj) (es : Array DictEntry) (ep : Nat) (xs : List (NestedKey × Addr × Value)), h.get? a = some o ∧ o.ExactDict ∧ o.data = .dict es ep ∧ es.toList = xs.map (entryOfKey (nestedKind g.P g.w)) ∧ (xs.map (·.1)).Nodup ∧
    Paired (fun (p : NestedKey × Addr × V) (q : NestedKey × Addr × Value) => p.1 = q.1 ∧ p.2.1 = q.2.1 ∧ RelV p.2.2 q.2.2) l xs
/-- the object u at a is a dict of these keys (with their own values) and values -/
def DctIs (g : G) (a : Addr) (u : HO) (kvs : List (NestedKey × V × V)) : Prop :=
  (∃ l : List (Key × V), u = .dK l ∧ kvs = l.map fun p => (nk p.1, kV p.1, p.2)) ∨
  (∃ l : List (NestedKey × Addr × V), u = DictO g a l ∧ l ≠ [] ∧ l.length ≤ sizeLine ∧ (∀ p ∈ l, p.1.depth ≤ 8) ∧ kvs = l.map fun p => (p.1, .ref p.2.1, p.2.2))

/-- an exception that was caught, as an object -/
def ExnO (a : Addr) (oe : Obj) : HO := .ext fun h => h.get? a = some oe
mutual
inductive DV (g : G) (F : Hp) : V → D → Prop
  | non : DV g F .non .non
  | bl (b : Bool) : DV g F (.bl b) (.bl b)
  | int (i : Int) : DV g F (.int i) (.int i)
  | str (s : Str) : DV g F (.str s) (.str s)
  | tup {a : Addr} {vs : List V} {ds : List D} : SqT g.K F a vs → DVs g F vs ds → DV g F (.ref a) (.tup ds)
  | lst {a : Addr} {vs : List V} {ds : List D} : Rd F a (.lst vs) → DVs g F vs ds → DV g F (.ref a) (.lst ds)
  | dct {a : Addr} {u : HO} {kvs : List (NestedKey × V × V)} {ds : List (NestedKey × D)} : Rd F a u → DctIs g a u kvs → DKs g F kvs ds → DV g F (.ref a) (.dct ds)
  | exn {a C : Addr} {c : Str} {oe : Obj} {vs : Array Value} : Rd F a (ExnO a oe) → oe.cls = .ref C → oe.dict = none → oe.data = .fields vs → g.mg c = some (.ref C) → DV g F (.ref a) (.exn c)
inductive DVs (g : G) (F : Hp) : List V → List D → Prop
  | nil : DVs g F [] []
  | cons {v : V} {vs : List V} {d : D} {ds : List D} : DV g F v d → DVs g F vs ds → DVs g F (v :: vs) (d :: ds)
inductive DKs (g : G) (F : Hp) : List (NestedKey × V × V) → List (NestedKey × D) → Prop
  | nil : DKs g F [] []
  | cons {k : NestedKey} {kv v : V} {r : List (NestedKey × V × V)} {d : D} {ds : List (NestedKey × D)} : DV g F kv (keyD k) → DV g F v d → DKs g F r ds → DKs g F ((k, kv, v) :: r) ((k, d) :: ds)
end

abbrev AS := Addr → Prop
def U (S T : AS) : AS := fun a => S a ∨ T a
def Dj (S T : AS) : Prop := ∀ a, S a → T a → False
def Sb (S T : AS) : Prop := ∀ a, S a → T a
def Ep : AS := fun _ => False

mutual
inductive OV (g : G) (F H : Hp) : V → W → AS → Prop
  | sh {v : V} {d : D} {S : AS} : DV g F v d → OV g F H v (.sh d) S
  | lst {a : Addr} {vs : List V} {ws : List W} {S T : AS} : S a → H a = some (.lst vs) → (∀ b, T b → S b ∧ b ≠ a) → OVs g F H vs ws T → OV g F H (.ref a) (.lst ws) S
  | tup {a : Addr} {vs : List V} {ws : List W} {S T : AS} : S a → H a = some (.tup vs) → (∀ b, T b → S b ∧ b ≠ a) → OVs g F H vs ws T → OV g F H (.ref a) (.tup ws) S
  | dct {a : Addr} {u : HO} {kvs : List (NestedKey × V × V)} {ws : List (NestedKey × W)} {S T : AS} : S a → H a = some u → DctIs g a u kvs → (∀ b, T b → S b ∧ b ≠ a) → OKs g F H kvs ws T → OV g F H (.ref a) (.dct ws) S
  | obj {a dx C : Addr} {c : Str} {fs : List (Str × V)} {ws : List (Str × W)} {S T : AS} : S a → S dx → H a = some (.ins C dx fs) → H dx = some (.own a) → g.mg c = some (.ref C) → (∀ b, T b → S b ∧ b ≠ a ∧ b ≠ dx) → OFs g F H fs ws T → OV g F H (.ref a) (.obj c ws) S
  | mov {v : V} {S : AS} : OV g F H v .mov S
inductive OVs (g : G) (F H : Hp) : List V → List W → AS → Prop
  | nil {S : AS} : OVs g F H [] [] S
  | cons {v : V} {vs : List V} {w : W} {ws : List W} {S S1 S2 : AS} : Sb S1 S → Sb S2 S → Dj S1 S2 → OV g F H v w S1 → OVs g F H vs ws S2 → OVs g F H (v :: vs) (w :: ws) S
inductive OKs (g : G) (F H : Hp) : List (NestedKey × V × V) → List (NestedKey × W) → AS → Prop
  | nil {S : AS} : OKs g F H [] [] S
  | cons {k : NestedKey} {kv v : V} {r : List (NestedKey × V × V)} {w : W} {ws : List (NestedKey × W)} {S S1 S2 : AS} : Sb S1 S → Sb S2 S → Dj S1 S2 → DV g F kv (keyD k) → OV g F H v w S1 → OKs g F H r ws S2 → OKs g F H ((k, kv, v) :: r) ((k, w) :: ws) S
inductive OFs (g : G) (F H : Hp) : List (Str × V) → List (Str × W) → AS → Prop
  | nil {S : AS} : OFs g F H [] [] S
  | cons {f : Str} {v : V} {r : List (Str × V)} {w : W} {ws : List (Str × W)} {S S1 S2 : AS} : Sb S1 S → Sb S2 S → Dj S1 S2 → OV g F H v w S1 → OFs g F H r ws S2 → OFs g F H ((f, v) :: r) ((f, w) :: ws) S
end

/-! ### growing -/
def notFrz : HO → Prop
  | .frz _ _ => False
  | _ => True
def Sub (F F' : Hp) : Prop := ∀ a o, F a = some o → F' a = some o ∨ (notFrz o ∧ ∃ ob, F' a = some (.frz ob o))
theorem Sub.refl (F : Hp) : Sub F F := fun _ _ h => .inl h
theorem Sub.trans {F F1 F2 : Hp} (a : Sub F F1) (b : Sub F1 F2) : Sub F F2 := fun x o h => by
  rcases a x o h with h1 | ⟨n, ob, h1⟩
  · exact b x o h1
  · rcases b x _ h1 with h2 | ⟨n2, _⟩
    · exact .inr ⟨n, ob, h2⟩
    · exact n2.elim
theorem Sub.rd {F F' : Hp} {a : Addr} {u : HO} (s : Sub F F') (h : Rd F a u) : Rd F' a u := by
  rcases h with h | ⟨o, h⟩
  · rcases s a _ h with h1 | ⟨_, ob, h1⟩
    · exact .inl h1
    · exact .inr ⟨ob, h1⟩
  · rcases s a _ h with h1 | ⟨n, _⟩
    · exact .inr ⟨o, h1⟩
    · exact n.elim
theorem Sub.sqL {K : PySem.W.Frag} {F F' : Hp} {a : Addr} {xs : List V} (s : Sub F F') (h : SqL K F a xs) : SqL K F' a xs := by
  rcases h with h | h
  · exact .inl (s.rd h)
  · exact .inr h
theorem Sub.sqT {K : PySem.W.Frag} {F F' : Hp} {a : Addr} {xs : List V} (s : Sub F F') (h : SqT K F a xs) : SqT K F' a xs := by
  rcases h with h | h
  · exact .inl (s.rd h)
  · exact .inr h
theorem Sub.of_same {F F' : Hp} (s : Same F F') : Sub F F' := fun a o h => .inl (s a o h)
mutual
theorem DV.sub {g : G} {F F' : Hp} (s : Sub F F') : ∀ {v : V} {d : D}, DV g F v d → DV g F' v d
  | _, _, .non => .non
  | _, _, .bl b => .bl b
  | _, _, .int i => .int i
  | _, _, .str x => .str x
  | _, _, .tup h1 h2 => .tup (s.sqT h1) (DVs.sub s h2)
  | _, _, .lst h1 h2 => .lst (s.rd h1) (DVs.sub s h2)
  | _, _, .dct h1 h2 h3 => .dct (s.rd h1) h2 (DKs.sub s h3)
  | _, _, .exn h1 h2 h3 h4 h5 => .exn (s.rd h1) h2 h3 h4 h5
theorem DVs.sub {g : G} {F F' : Hp} (s : Sub F F') : ∀ {v : List V} {d : List D}, DVs g F v d → DVs g F' v d
  | _, _, .nil => .nil
  | _, _, .cons h1 h2 => .cons (DV.sub s h1) (DVs.sub s h2)
theorem DKs.sub {g : G} {F F' : Hp} (s : Sub F F') : ∀ {v : List (NestedKey × V × V)} {d : List (NestedKey × D)}, DKs g F v d → DKs g F' v d
  | _, _, .nil => .nil
  | _, _, .cons h0 h1 h2 => .cons (DV.sub s h0) (DV.sub s h1) (DKs.sub s h2)
end
mutual
theorem OV.mono {g : G} {F F' H H' : Hp} (s : Sub F F') : ∀ {v : V} {w : W} {S : AS}, (∀ a, S a → H' a = H a) → OV g F H v w S → OV g F' H' v w S
  | _, _, _, k, .sh h => .sh (h.sub s)
  | _, _, _, k, .lst h1 h2 h3 h4 => .lst h1 ((k _ h1).trans h2) h3 (OVs.mono s (fun a ha => k a (h3 a ha).1) h4)
  | _, _, _, k, .tup h1 h2 h3 h4 => .tup h1 ((k _ h1).trans h2) h3 (OVs.mono s (fun a ha => k a (h3 a ha).1) h4)
  | _, _, _, k, .dct h1 h2 h3 h4 h5 => .dct h1 ((k _ h1).trans h2) h3 h4 (OKs.mono s (fun a ha => k a (h4 a ha).1) h5)
  | _, _, _, k, .obj h1 h1' h2 h3 hm h4 h5 => .obj h1 h1' ((k _ h1).trans h2) ((k _ h1').trans h3) hm h4 (OFs.mono s (fun a ha => k a (h4 a ha).1) h5)
  | _, _, _, _, .mov => .mov
theorem OVs.mono {g : G} {F F' H H' : Hp} (s : Sub F F') : ∀ {v : List V} {w : List W} {S : AS}, (∀ a, S a → H' a = H a) → OVs g F H v w S → OVs g F' H' v w S
  | _, _, _, k, .nil => .nil
  | _, _, _, k, .cons h1 h2 h3 h4 h5 => .cons h1 h2 h3 (OV.mono s (fun a ha => k a (h1 a ha)) h4) (OVs.mono s (fun a ha => k a (h2 a ha)) h5)
theorem OKs.mono {g : G} {F F' H H' : Hp} (s : Sub F F') : ∀ {v : List (NestedKey × V × V)} {w : List (NestedKey × W)} {S : AS}, (∀ a, S a → H' a = H a) → OKs g F H v w S → OKs g F' H' v w S
  | _, _, _, k, .nil => .nil
  | _, _, _, k, .cons h1 h2 h3 h0 h4 h5 => .cons h1 h2 h3 (h0.sub s) (OV.mono s (fun a ha => k a (h1 a ha)) h4) (OKs.mono s (fun a ha => k a (h2 a ha)) h5)
theorem OFs.mono {g : G} {F F' H H' : Hp} (s : Sub F F') : ∀ {v : List (Str × V)} {w : List (Str × W)} {S : AS}, (∀ a, S a → H' a = H a) → OFs g F H v w S → OFs g F' H' v w S
  | _, _, _, k, .nil => .nil
  | _, _, _, k, .cons h1 h2 h3 h4 h5 => .cons h1 h2 h3 (OV.mono s (fun a ha => k a (h1 a ha)) h4) (OFs.mono s (fun a ha => k a (h2 a ha)) h5)
end
end Fp

set_option Elab.async false
set_option linter.all false
set_option maxRecDepth 100000
set_option maxHeartbeats 4000000
namespace Fp
open PySem PySem.Spec L2
open PyProof.Rows hiding St

/-! ### sets of addresses -/
theorem Sb.refl (S : AS) : Sb S S := fun _ h => h
theorem Sb.trans {S T R : AS} (a : Sb S T) (b : Sb T R) : Sb S R := fun x h => b x (a x h)
theorem Sb.l {S T : AS} : Sb S (U S T) := fun _ h => .inl h
theorem Sb.r {S T : AS} : Sb T (U S T) := fun _ h => .inr h
theorem Sb.u {S T R : AS} (a : Sb S R) (b : Sb T R) : Sb (U S T) R := fun x h => h.elim (a x) (b x)
theorem Dj.symm {S T : AS} (d : Dj S T) : Dj T S := fun a x y => d a y x
theorem Dj.mono {S T S' T' : AS} (d : Dj S T) (a : Sb S' S) (b : Sb T' T) : Dj S' T' := fun x h h' => d x (a x h) (b x h')
theorem Dj.ep (S : AS) : Dj S Ep := fun _ _ h => h
theorem Dj.pe (S : AS) : Dj Ep S := fun _ h _ => h

mutual
theorem OV.wk {g : G} {F H : Hp} : ∀ {v : V} {w : W} {S S' : AS}, Sb S S' → OV g F H v w S → OV g F H v w S'
  | _, _, _, _, _, .sh h => .sh h
  | _, _, _, _, k, .lst h1 h2 h3 h4 => .lst (k _ h1) h2 (fun b hb => ⟨k _ (h3 b hb).1, (h3 b hb).2⟩) h4
  | _, _, _, _, k, .tup h1 h2 h3 h4 => .tup (k _ h1) h2 (fun b hb => ⟨k _ (h3 b hb).1, (h3 b hb).2⟩) h4
  | _, _, _, _, k, .dct h1 h2 h3 h4 h5 => .dct (k _ h1) h2 h3 (fun b hb => ⟨k _ (h4 b hb).1, (h4 b hb).2⟩) h5
  | _, _, _, _, k, .obj h1 h1' h2 h3 hm h4 h5 => .obj (k _ h1) (k _ h1') h2 h3 hm (fun b hb => ⟨k _ (h4 b hb).1, (h4 b hb).2⟩) h5
  | _, _, _, _, _, .mov => .mov
end
theorem OVs.wk {g : G} {F H : Hp} : ∀ {v : List V} {w : List W} {S S' : AS}, Sb S S' → OVs g F H v w S → OVs g F H v w S'
  | _, _, _, _, _, .nil => .nil
  | _, _, _, _, k, .cons h1 h2 h3 h4 h5 => .cons (h1.trans k) (h2.trans k) h3 h4 h5
theorem OKs.wk {g : G} {F H : Hp} : ∀ {v : List (NestedKey × V × V)} {w : List (NestedKey × W)} {S S' : AS}, Sb S S' → OKs g F H v w S → OKs g F H v w S'
  | _, _, _, _, _, .nil => .nil
  | _, _, _, _, k, .cons h1 h2 h3 h0 h4 h5 => .cons (h1.trans k) (h2.trans k) h3 h0 h4 h5
theorem OFs.wk {g : G} {F H : Hp} : ∀ {v : List (Str × V)} {w : List (Str × W)} {S S' : AS}, Sb S S' → OFs g F H v w S → OFs g F H v w S'
  | _, _, _, _, _, .nil => .nil
  | _, _, _, _, k, .cons h1 h2 h3 h4 h5 => .cons (h1.trans k) (h2.trans k) h3 h4 h5

/-! ### states and steps -/
structure Good (F H : Hp) (S : AS) : Prop where
  same : Same F H
  own : ∀ a, S a → F a = none ∧ ∃ o, H a = some o
structure Step (F : Hp) (S : AS) (H F' H' : Hp) (S' : AS) : Prop where
  ext : Sub F F'
  fr : ∀ a o, H a = some o → ¬ S a → F a = none → H' a = some o
  nf : ∀ a o, F' a = some o → (∃ o, F a = some o) ∨ S a ∨ H a = none
  ns : ∀ a, S' a → S a ∨ H a = none
  gd : Good F' H' S'
theorem Good.sb {F H : Hp} {S T : AS} (g : Good F H S) (s : Sb T S) : Good F H T := ⟨g.same, fun a h => g.own a (s a h)⟩
theorem Step.refl {F H : Hp} {S : AS} (g : Good F H S) : Step F S H F H S := ⟨.refl F, fun _ _ h _ _ => h, fun _ o h => .inl ⟨o, h⟩, fun _ h => .inl h, g⟩
theorem Good.nn {F H : Hp} {S : AS} (g : Good F H S) {a : Addr} (h : H a = none) : F a = none := g.same.free h
theorem Good.nin {F H : Hp} {S : AS} (g : Good F H S) {a : Addr} (h : H a = none) : ¬ S a := fun s => by
  obtain ⟨o, e⟩ := (g.own a s).2
  rw [h] at e; cases e
/-- an address that holds nothing tracked behind a step held nothing ahead -/
theorem Step.back {F H F' H' : Hp} {S S' : AS} (g : Good F H S) (s : Step F S H F' H' S') {a : Addr} (h : H' a = none) (hS : ¬ S a) : H a = none := by
  cases q : H a with
  | none => rfl
  | some o =>
    cases f : F a with
    | none => rw [s.fr a o q hS f] at h; cases h
    | some u =>
      rcases s.ext a u f with e | ⟨_, ob, e⟩ <;> rw [s.gd.same _ _ e] at h <;> cases h
theorem Step.trans {F H F1 H1 F2 H2 : Hp} {S S1 S2 : AS} (g : Good F H S) (a : Step F S H F1 H1 S1) (b : Step F1 S1 H1 F2 H2 S2) : Step F S H F2 H2 S2 where
  ext := a.ext.trans b.ext
  fr := fun x o h hS hF => by
    have h1 := a.fr x o h hS hF
    refine b.fr x o h1 (fun z => ?_) ?_
    · rcases a.ns x z with z | z
      · exact hS z
      · rw [h] at z; cases z
    · cases q : F1 x with
      | none => rfl
      | some u =>
        rcases a.nf x u q with ⟨o', z⟩ | z | z
        · rw [hF] at z; cases z
        · exact (hS z).elim
        · rw [h] at z; cases z
  nf := fun x o h => by
    rcases b.nf x o h with ⟨o', z⟩ | z | z
    · exact a.nf x o' z
    · rcases a.ns x z with z | z
      · exact .inr (.inl z)
      · exact .inr (.inr z)
    · by_cases hS : S x
      · exact .inr (.inl hS)
      · exact .inr (.inr (a.back g z hS))
  ns := fun x h => by
    rcases b.ns x h with z | z
    · exact a.ns x z
    · by_cases hS : S x
      · exact .inl hS
      · exact .inr (a.back g z hS)
  gd := b.gd
theorem Step.sb {F H F' H' : Hp} {S S' T : AS} (s : Step F S H F' H' S') (h : Sb T S') : Step F S H F' H' T := ⟨s.ext, s.fr, s.nf, fun a z => s.ns a (h a z), s.gd.sb h⟩
/-- what stands apart from a step's own addresses stays -/
theorem Step.keep {F H F' H' : Hp} {S S' T : AS} (s : Step F S H F' H' S') (g : Good F H (U S T)) (d : Dj S T) : ∀ a, T a → H' a = H a := fun a h => by
  obtain ⟨f, o, e⟩ := g.own a (.inr h)
  rw [e]
  exact s.fr a o e (fun z => d a z h) f
theorem Step.frame {F H F' H' : Hp} {S S' T : AS} (s : Step F S H F' H' S') (g : Good F H (U S T)) (d : Dj S T) : Step F (U S T) H F' H' (U S' T) ∧ Dj S' T := by
  have dj : Dj S' T := fun a h1 h2 => by
    rcases s.ns a h1 with z | z
    · exact d a z h2
    · exact g.nin z (.inr h2)
  refine ⟨⟨s.ext, fun a o h hS hF => s.fr a o h (fun z => hS (.inl z)) hF, fun a o h => (s.nf a o h).elim .inl fun z => z.elim (fun z => .inr (.inl (.inl z))) fun z => .inr (.inr z), fun a h => ?_, s.gd.same, fun a h => ?_⟩, dj⟩
  · rcases h with h | h
    · exact (s.ns a h).elim (fun z => .inl (.inl z)) .inr
    · exact .inl (.inr h)
  · rcases h with h | h
    · exact s.gd.own a h
    · obtain ⟨f, o, e⟩ := g.own a (.inr h)
      refine ⟨?_, o, by rw [s.keep g d a h, e]⟩
      cases q : F' a with
      | none => rfl
      | some u =>
        rcases s.nf a u q with ⟨o', z⟩ | z | z
        · rw [f] at z; cases z
        · exact (d a z h).elim
        · rw [e] at z; cases z
/-- with fewer addresses of one's own ahead -/
theorem Step.more {F H F' H' : Hp} {S S' T : AS} (s : Step F S H F' H' S') (h : Sb S T) : Step F T H F' H' S' :=
  ⟨s.ext, fun a o q hS hF => s.fr a o q (fun z => hS (h a z)) hF, fun a o q => (s.nf a o q).elim .inl fun z => z.elim (fun z => .inr (.inl (h a z))) fun z => .inr (.inr z), fun a z => (s.ns a z).elim (fun z => .inl (h a z)) .inr, s.gd⟩
/-- a new object, one's own -/
theorem Step.new {F H : Hp} {S : AS} {p : Addr} {o : HO} (g : Good F H S) (n : H p = none) : Step F S H F (upd H p o) (U S (fun a => a = p)) where
  ext := .refl F
  fr := fun a u h _ _ => by rw [upd_ne (ne_of_none h n)]; exact h
  nf := fun _ o h => .inl ⟨o, h⟩
  ns := fun a h => h.elim .inl fun z => .inr (by rw [z]; exact n)
  gd := ⟨fun a u h => by rw [upd_ne (ne_of_none (g.same a u h) n)]; exact g.same a u h, fun a h => by
    rcases h with h | rfl
    · obtain ⟨f, u, e⟩ := g.own a h
      exact ⟨f, u, by rw [upd_ne (ne_of_none e n)]; exact e⟩
    · exact ⟨g.nn n, o, upd_same⟩⟩
/-- a new object, shared at once -/
theorem Step.newF {F H : Hp} {S : AS} {p : Addr} {o : HO} (g : Good F H S) (n : H p = none) : Step F S H (upd F p o) (upd H p o) S where
  ext := fun a u h => .inl (by rw [upd_ne (ne_of_none (g.same a u h) n)]; exact h)
  fr := fun a u h _ _ => by rw [upd_ne (ne_of_none h n)]; exact h
  nf := fun a u h => by
    by_cases e : a = p
    · rw [e]; exact .inr (.inr n)
    · rw [upd_ne e] at h; exact .inl ⟨u, h⟩
  ns := fun a h => .inl h
  gd := ⟨fun a u h => by
    by_cases e : a = p
    · subst e; rw [upd_same] at h ⊢; exact h
    · rw [upd_ne e] at h ⊢; exact g.same a u h, fun a h => by
    obtain ⟨f, u, e⟩ := g.own a h
    have hn := ne_of_none e n
    exact ⟨by rw [upd_ne hn]; exact f, u, by rw [upd_ne hn]; exact e⟩⟩
/-- an object of one's own written -/
theorem Step.write {F H : Hp} {S : AS} {p : Addr} {o : HO} (g : Good F H S) (h : S p) : Step F S H F (upd H p o) S where
  ext := .refl F
  fr := fun a u e hS _ => by rw [upd_ne (fun z => hS (by rw [z]; exact h))]; exact e
  nf := fun _ o h => .inl ⟨o, h⟩
  ns := fun a h => .inl h
  gd := ⟨fun a u e => by rw [upd_ne (fun z => by rw [z, (g.own p h).1] at e; cases e)]; exact g.same a u e, fun a z => by
    by_cases e : a = p
    · subst e; exact ⟨(g.own a h).1, o, upd_same⟩
    · obtain ⟨f, u, q⟩ := g.own a z
      exact ⟨f, u, by rw [upd_ne e]; exact q⟩⟩

/-! ### sharing what was one's own -/
open Classical in
noncomputable def frzF (F H : Hp) (S : AS) : Hp := fun a => if S a then H a else F a
theorem frzF_in {F H : Hp} {S : AS} {a : Addr} (h : S a) : frzF F H S a = H a := by unfold frzF; rw [if_pos h]
theorem frzF_out {F H : Hp} {S : AS} {a : Addr} (h : ¬ S a) : frzF F H S a = F a := by unfold frzF; rw [if_neg h]
theorem frzF_sub {F H : Hp} {S T : AS} (g : Good F H S) (t : Sb T S) : Same F (frzF F H T) := fun a o h => by
  rw [frzF_out (fun z => by rw [(g.own a (t a z)).1] at h; cases h)]; exact h
mutual
theorem OV.dv {g : G} {F H : Hp} {R : AS} (s : Same F (frzF F H R)) : ∀ {v : V} {w : W} {S : AS} {d : D}, Sb S R → OV g F H v w S → W.data w = some d → DV g (frzF F H R) v d
  | _, _, _, _, k, .sh h, e => by
    cases e
    exact h.sub (.of_same s)
  | _, _, _, _, k, .lst (ws := ws) h1 h2 h3 h4, e => by
    simp only [W.data, Option.map_eq_some_iff] at e
    obtain ⟨ds, e, rfl⟩ := e
    exact .lst (.of (by rw [frzF_in (k _ h1)]; exact h2)) (OVs.dv s (fun a z => k a (h3 a z).1) h4 e)
  | _, _, _, _, k, .tup (ws := ws) h1 h2 h3 h4, e => by
    simp only [W.data, Option.map_eq_some_iff] at e
    obtain ⟨ds, e, rfl⟩ := e
    exact .tup (.of (by rw [frzF_in (k _ h1)]; exact h2)) (OVs.dv s (fun a z => k a (h3 a z).1) h4 e)
  | _, _, _, _, k, .dct (ws := ws) h1 h2 h3 h4 h5, e => by
    simp only [W.data, Option.map_eq_some_iff] at e
    obtain ⟨ds, e, rfl⟩ := e
    exact .dct (.inl (by rw [frzF_in (k _ h1)]; exact h2)) h3 (OKs.dv s (fun a z => k a (h4 a z).1) h5 e)
  | _, _, _, _, k, .obj _ _ _ _ _ _ _, e => by simp [W.data] at e
  | _, _, _, _, k, .mov, e => by simp [W.data] at e
theorem OVs.dv {g : G} {F H : Hp} {R : AS} (s : Same F (frzF F H R)) : ∀ {v : List V} {w : List W} {S : AS} {d : List D}, Sb S R → OVs g F H v w S → W.datas w = some d → DVs g (frzF F H R) v d
  | _, _, _, _, k, .nil, e => by cases e; exact .nil
  | _, _, _, _, k, .cons (w := w) (ws := ws) h1 h2 h3 h4 h5, e => by
    simp only [W.datas] at e
    split at e
    · rename_i d ds e1 e2
      cases e
      exact .cons (OV.dv s (h1.trans k) h4 e1) (OVs.dv s (h2.trans k) h5 e2)
    · cases e
theorem OKs.dv {g : G} {F H : Hp} {R : AS} (s : Same F (frzF F H R)) : ∀ {v : List (NestedKey × V × V)} {w : List (NestedKey × W)} {S : AS} {d : List (NestedKey × D)}, Sb S R → OKs g F H v w S → W.datak w = some d → DKs g (frzF F H R) v d
  | _, _, _, _, k, .nil, e => by cases e; exact .nil
  | _, _, _, _, k, .cons (w := w) (ws := ws) h1 h2 h3 h0 h4 h5, e => by
    simp only [W.datak] at e
    split at e
    · rename_i d ds e1 e2
      cases e
      exact .cons (h0.sub (.of_same s)) (OV.dv s (h1.trans k) h4 e1) (OKs.dv s (h2.trans k) h5 e2)
    · cases e
end
/-- sharing: the part T of one's own -/
theorem Step.share {F H : Hp} {S T : AS} (g : Good F H (U S T)) (d : Dj S T) : Step F (U S T) H (frzF F H T) H S where
  ext := .of_same (frzF_sub g .r)
  fr := fun _ _ h _ _ => h
  nf := fun a o h => by
    by_cases z : T a
    · exact .inr (.inl (.inr z))
    · rw [frzF_out z] at h; exact .inl ⟨o, h⟩
  ns := fun a h => .inl (.inl h)
  gd := ⟨fun a o h => by
    by_cases z : T a
    · rw [frzF_in z] at h; exact h
    · rw [frzF_out z] at h; exact g.same a o h, fun a h => ⟨by rw [frzF_out (fun z => d a h z)]; exact (g.own a (.inl h)).1, (g.own a (.inl h)).2⟩⟩
theorem OV.share {g : G} {F H : Hp} {S T : AS} {v : V} {w : W} {d : D} (q : Good F H (U S T)) (h : OV g F H v w T) (e : W.data w = some d) : DV g (frzF F H T) v d := h.dv (frzF_sub q .r) (.refl T) e

/-! ### slots -/
abbrev Env := List W
def OO (g : G) (F H : Hp) (o : Option V) (w : W) (S : AS) : Prop := w = .mov ∨ ∃ v, o = some v ∧ OV g F H v w S
inductive OSs (g : G) (F H : Hp) : St → Env → AS → Prop
  | nil {S : AS} : OSs g F H [] [] S
  | cons {o : Option V} {σ : St} {w : W} {ρ : Env} {S S1 S2 : AS} : Sb S1 S → Sb S2 S → Dj S1 S2 → OO g F H o w S1 → OSs g F H σ ρ S2 → OSs g F H (o :: σ) (w :: ρ) S
theorem OO.mono {g : G} {F F' H H' : Hp} (s : Sub F F') {o : Option V} {w : W} {S : AS} (k : ∀ a, S a → H' a = H a) (h : OO g F H o w S) : OO g F' H' o w S :=
  h.elim .inl fun ⟨v, e, h⟩ => .inr ⟨v, e, h.mono s k⟩
theorem OO.wk {g : G} {F H : Hp} {o : Option V} {w : W} {S S' : AS} (k : Sb S S') (h : OO g F H o w S) : OO g F H o w S' := h.elim .inl fun ⟨v, e, h⟩ => .inr ⟨v, e, h.wk k⟩
theorem OSs.mono {g : G} {F F' H H' : Hp} (s : Sub F F') : ∀ {σ : St} {ρ : Env} {S : AS}, (∀ a, S a → H' a = H a) → OSs g F H σ ρ S → OSs g F' H' σ ρ S
  | _, _, _, _, .nil => .nil
  | _, _, _, k, .cons h1 h2 h3 h4 h5 => .cons h1 h2 h3 (h4.mono s fun a z => k a (h1 a z)) (OSs.mono s (fun a z => k a (h2 a z)) h5)
theorem OSs.wk {g : G} {F H : Hp} : ∀ {σ : St} {ρ : Env} {S S' : AS}, Sb S S' → OSs g F H σ ρ S → OSs g F H σ ρ S'
  | _, _, _, _, _, .nil => .nil
  | _, _, _, _, k, .cons h1 h2 h3 h4 h5 => .cons (h1.trans k) (h2.trans k) h3 h4 h5
theorem OSs.length {g : G} {F H : Hp} : ∀ {σ : St} {ρ : Env} {S : AS}, OSs g F H σ ρ S → σ.length = ρ.length
  | _, _, _, .nil => rfl
  | _, _, _, .cons _ _ _ _ h => by rw [List.length_cons, List.length_cons, OSs.length h]
/-- one slot apart from the others -/
theorem OSs.focus {g : G} {F H : Hp} : ∀ {σ : St} {ρ : Env} {S : AS} {i : Nat} {w : W}, OSs g F H σ ρ S → ρ[i]? = some w →
    ∃ (o : Option V) (S1 S2 : AS), σ[i]? = some o ∧ Sb S1 S ∧ Sb S2 S ∧ Dj S1 S2 ∧ OO g F H o w S1 ∧
      ∀ {F' H' : Hp} {o' : Option V} {w' : W} {T : AS}, Sub F F' → (∀ a, S2 a → H' a = H a) → Dj T S2 → OO g F' H' o' w' T → OSs g F' H' (σ.set i o') (ρ.set i w') (U T S2)
  | _, _, _, 0, _, .cons (w := w) (S1 := S1) (S2 := S2) h1 h2 h3 h4 h5, e => by
    have e : w = _ := Option.some.inj e
    subst e
    exact ⟨_, S1, S2, rfl, h1, h2, h3, h4, fun s k d h => .cons .l .r d h (h5.mono s k)⟩
  | _, _, _, i + 1, _, .cons (o := o) (σ := σ) (w := w0) (ρ := ρ) (S1 := S1) (S2 := S2) h1 h2 h3 h4 h5, e => by
    obtain ⟨ov, T1, T2, q1, q2, q3, q4, q5, q6⟩ := OSs.focus h5 (i := i) (by simpa using e)
    refine ⟨ov, T1, U S1 T2, by simpa using q1, q2.trans h2, h1.u (q3.trans h2), fun a z z' => ?_, q5, fun {F' H' o' w' T} s k d h => ?_⟩
    · rcases z' with z' | z'
      · exact h3 a z' (q2 a z)
      · exact q4 a z z'
    · have q := q6 (F' := F') (H' := H') (o' := o') (w' := w') (T := T) s (fun a z => k a (.inr z)) (d.mono (.refl T) .r) h
      refine .cons (S1 := S1) (S2 := U T T2) (fun a z => .inr (.inl z)) (fun a z => z.elim .inl fun z => .inr (.inr z)) (fun a z z' => ?_) (h4.mono s fun a z => k a (.inl z)) q
      rcases z' with z' | z'
      · exact d a z' (.inl z)
      · exact h3 a z (q3 a z')
  | _, _, _, _, _, .nil, e => by simp at e
end Fp

set_option Elab.async false
set_option linter.all false
set_option maxRecDepth 100000
set_option maxHeartbeats 4000000
namespace Fp
open PySem PySem.Spec L2
open PyProof.Rows hiding St

/-! ### the mirror's monad: an environment, a result, an exception by its name, or no word -/
inductive Out (α : Type) where
  | ok (a : α) (ρ : Env)
  | exc (c : Str) (ρ : Env)
  | bad
abbrev ER (α : Type) := Env → Out α
def bnd {α β : Type} (m : ER α) (f : α → ER β) : ER β := fun ρ => match m ρ with
  | .ok a ρ' => f a ρ'
  | .exc c ρ' => .exc c ρ'
  | .bad => .bad
def rt {α : Type} (a : α) : ER α := fun ρ => .ok a ρ
def bad {α : Type} : ER α := fun _ => .bad
def opt {α : Type} (o : Option α) : ER α := fun ρ => match o with
  | some a => .ok a ρ
  | none => .bad

/-- what is left to be shown of a result, from a state on -/
def ResP {α β : Type} (R : Hp → Hp → β → α → AS → Prop) (g : G) (Wx : WX) (σ : St) (F : Hp) (S : AS) (H : Hp) (r : Out α) (Q : β → Hp → Prop) : Prop :=
  match r with
  | .ok a ρ' => ∀ b F' H' S1 S2, Dj S1 S2 → Step F S H F' H' (U S1 S2) → OSs g F' H' σ ρ' S1 → R F' H' b a S2 → Q b H'
  | .exc c ρ' => ∀ cls F' H' S', g.mg c = some cls → Step F S H F' H' S' → OSs g F' H' σ ρ' S' → Wx cls none σ H'
  | .bad => False
def tG {α β : Type} (R : Hp → Hp → β → α → AS → Prop) (g : G) (Wx : WX) (m : ER α) (σ : St) (H : Hp) (Q : β → Hp → Prop) : Prop :=
  ∃ ρ F S, Good F H S ∧ OSs g F H σ ρ S ∧ ResP R g Wx σ F S H (m ρ) Q
def tE (g : G) (Wx : WX) (m : ER W) : TE := tG (OV g) g Wx m
def tA (g : G) (Wx : WX) (m : ER (List W)) : TA := tG (OVs g) g Wx m
def RB (_ _ : Hp) (b a : Bool) (_ : AS) : Prop := b = a
def tT (g : G) (Wx : WX) (m : ER Bool) : TT := tG RB g Wx m

section
variable {α β γ δ : Type} {R : Hp → Hp → β → α → AS → Prop} {R2 : Hp → Hp → δ → γ → AS → Prop} {g : G} {Wx : WX} {σ : St} {F H : Hp} {S T : AS}
theorem ResP.step {F2 H2 : Hp} {S2 : AS} {r : Out α} {Q : β → Hp → Prop} (gd : Good F H S) (s : Step F S H F2 H2 S2) (h : ResP R g Wx σ F S H r Q) : ResP R g Wx σ F2 S2 H2 r Q := by
  cases r with
  | ok a ρ' => exact fun b F' H' S1 S2 d s' o r => h b F' H' S1 S2 d (s.trans gd s') o r
  | exc c ρ' => exact fun cls F' H' S' e s' o => h cls F' H' S' e (s.trans gd s') o
  | bad => exact h
/-- a part of a computation, the part T of one's own standing by -/
theorem ResP.bind {m : ER α} {f : α → ER γ} {ρ : Env} {Q : δ → Hp → Prop} {Q1 : β → Hp → Prop} (h : ResP R2 g Wx σ F (U S T) H (bnd m f ρ) Q) (d : Dj S T) (gd : Good F H (U S T)) (O : OSs g F H σ ρ S)
    (hk : ∀ a ρ1 b F1 H1 S1 T1, Dj S1 T1 → Dj (U S1 T1) T → Good F1 H1 (U (U S1 T1) T) → Sub F F1 → (∀ a, T a → H1 a = H a) → OSs g F1 H1 σ ρ1 S1 → R F1 H1 b a T1 → ResP R2 g Wx σ F1 (U (U S1 T1) T) H1 (f a ρ1) Q → Q1 b H1) :
    tG R g Wx m σ H Q1 := by
  refine ⟨ρ, F, S, gd.sb .l, O, ?_⟩
  unfold bnd at h
  cases e : m ρ with
  | ok a ρ1 =>
    rw [e] at h
    intro b F1 H1 S1 T1 d1 s1 O1 r1
    obtain ⟨s2, d2⟩ := s1.frame gd d
    exact hk a ρ1 b F1 H1 S1 T1 d1 d2 s2.gd s1.ext (s1.keep gd d) O1 r1 (ResP.step gd s2 h)
  | exc c ρ1 =>
    rw [e] at h
    intro cls F1 H1 S1 hc s1 O1
    exact h cls F1 H1 S1 hc ((s1.frame gd d).1.sb .l) O1
  | bad => rw [e] at h; exact h
/-- .. nothing standing by -/
theorem tG_bind {m : ER α} {f : α → ER γ} {Q : δ → Hp → Prop} {Q1 : β → Hp → Prop} (h : tG R2 g Wx (bnd m f) σ H Q)
    (hk : ∀ a ρ1 b F1 H1 S1 T1, Dj S1 T1 → Good F1 H1 (U S1 T1) → OSs g F1 H1 σ ρ1 S1 → R F1 H1 b a T1 → ResP R2 g Wx σ F1 (U S1 T1) H1 (f a ρ1) Q → Q1 b H1) :
    tG R g Wx m σ H Q1 := by
  obtain ⟨ρ, F, S, gd, O, h⟩ := h
  refine ⟨ρ, F, S, gd, O, ?_⟩
  unfold bnd at h
  cases e : m ρ with
  | ok a ρ1 =>
    rw [e] at h
    intro b F1 H1 S1 T1 d1 s1 O1 r1
    exact hk a ρ1 b F1 H1 S1 T1 d1 s1.gd O1 r1 (ResP.step gd s1 h)
  | exc c ρ1 =>
    rw [e] at h
    exact h
  | bad => rw [e] at h; exact h
/-- the end: an answer made of the part T -/
theorem ResP.ans {a : α} {ρ : Env} {Q : β → Hp → Prop} (h : ResP R g Wx σ F (U S T) H (.ok a ρ) Q) (d : Dj S T) (gd : Good F H (U S T)) (O : OSs g F H σ ρ S) :
    ∀ b F' H' T', Step F T H F' H' T' → R F' H' b a T' → Q b H' := fun b F' H' T' s r => by
  have gd' : Good F H (U T S) := gd.sb (Sb.u .r .l)
  obtain ⟨s2, d2⟩ := s.frame gd' d.symm
  refine h b F' H' S T' d2.symm ((s2.sb (Sb.u .r .l)).more (Sb.u .r .l)) ?_ r
  exact O.mono s.ext (s.keep gd' d.symm)
theorem ResP.ans0 {a : α} {ρ : Env} {Q : β → Hp → Prop} (h : ResP R g Wx σ F S H (.ok a ρ) Q) (gd : Good F H S) (O : OSs g F H σ ρ S) :
    ∀ b F' H' T', Step F Ep H F' H' T' → R F' H' b a T' → Q b H' := by
  have h' : ResP R g Wx σ F (U S Ep) H (.ok a ρ) Q := ResP.step gd ((Step.refl gd).sb (Sb.u (.refl S) fun _ z => z.elim)) h
  exact h'.ans (Dj.ep S) (gd.sb (Sb.u (.refl S) fun _ z => z.elim)) O
theorem ResP.imp {r : Out α} {Q Q' : β → Hp → Prop} (h : ResP R g Wx σ F S H r Q) (hq : ∀ b H, Q b H → Q' b H) : ResP R g Wx σ F S H r Q' := by
  cases r with
  | ok a ρ' => exact fun b F' H' S1 S2 d s' o r => hq _ _ (h b F' H' S1 S2 d s' o r)
  | exc c ρ' => exact h
  | bad => exact h
end

/-! ### the judgements by mirrors -/
theorem peW {X : Cx} {e : Expr} {t t' : TE} (h : PE X e t) (k : ∀ σ H Q, t' σ H Q → t σ H Q) : PE X e t' := ⟨fun pins s σ H Q I q => h.run pins s σ H Q I (k σ H Q q)⟩
theorem ptW {X : Cx} {e : Expr} {t t' : TT} (h : PT X e t) (k : ∀ σ H Q, t' σ H Q → t σ H Q) : PT X e t' := ⟨fun pins s σ H Q I q => h.run pins s σ H Q I (k σ H Q q)⟩
theorem paW {X : Cx} {e : List Expr} {t t' : TA} (h : PA X e t) (k : ∀ σ H Q, t' σ H Q → t σ H Q) : PA X e t' := ⟨fun pos pins s σ H Q I q => h.run pos pins s σ H Q I (k σ H Q q)⟩
theorem psW {X : Cx} {e : Stmt} {t t' : TS} (h : PS X e t) (k : ∀ D σ H, t' D σ H → t D σ H) : PS X e t' := ⟨fun pins s σ H D I q => h.run pins s σ H D I (k D σ H q)⟩
theorem pssW {X : Cx} {e : List Stmt} {t t' : TS} (h : PSs X e t) (k : ∀ D σ H, t' D σ H → t D σ H) : PSs X e t' := ⟨fun pins s σ H D I q => h.run pins s σ H D I (k D σ H q)⟩

section
variable {X : Cx} {Wx : WX} {pos : Pos}
/-! ### constants and names -/
def mC (d : D) : ER W := rt (.sh d)
theorem e_c {e : Expr} {v : V} {d : D} (h : PE X e (tC v)) (hv : ∀ F, DV (gx X) F v d) : PE X e (tE (gx X) Wx (mC d)) := peW h fun σ H Q q => by
  obtain ⟨ρ, F, S, gd, O, h⟩ := q
  exact h.ans0 gd O v F H Ep (Step.refl (gd.sb fun _ z => z.elim)) (.sh (hv F))
theorem e_int {i j} : PE X (.Constant (.int i) j pos) (tE (gx X) Wx (mC (.int i))) := e_c pe_int fun _ => .int i
theorem e_bl {b j} : PE X (.Constant (.bool b) j pos) (tE (gx X) Wx (mC (.bl b))) := e_c pe_bl fun _ => .bl b
theorem e_non {j} : PE X (.Constant .none j pos) (tE (gx X) Wx (mC .non)) := e_c pe_non fun _ => .non
theorem e_str {x j} : PE X (.Constant (.str x) j pos) (tE (gx X) Wx (mC (.str x))) := e_c pe_str fun _ => .str x
/-- the slot's value, shared from now on -/
def mV (i : Nat) : ER W := fun ρ => match ρ[i]? with
  | some w => match w.data with
    | some d => .ok (.sh d) (ρ.set i (.sh d))
    | none => .bad
  | none => .bad
theorem setSelf {α : Type} {l : List α} {i : Nat} {a : α} (h : l[i]? = some a) : l.set i a = l := by
  obtain ⟨hi, e⟩ := List.getElem?_eq_some_iff.mp h
  rw [← e]; exact List.set_getElem_self hi
theorem e_v {e : Expr} {i : Nat} (h : PE X e (tVar i)) : PE X e (tE (gx X) Wx (mV i)) := peW h fun σ H Q q => by
  obtain ⟨ρ, F, S, gd, O, h⟩ := q
  unfold mV at h
  cases e1 : ρ[i]? with
  | none => rw [e1] at h; exact h.elim
  | some w =>
    rw [e1] at h
    simp only at h
    cases e2 : w.data with
    | none => rw [e2] at h; exact h.elim
    | some d =>
      rw [e2] at h
      simp only at h
      obtain ⟨o, S1, S2, q1, q2, q3, q4, q5, q6⟩ := O.focus e1
      rcases q5 with rfl | ⟨v, rfl, q5⟩
      · simp [W.data] at e2
      · refine ⟨v, q1, ?_⟩
        have gd2 : Good F H (U S2 S1) := gd.sb (q3.u q2)
        have st := Step.share gd2 q4.symm
        have dv := q5.share gd2 e2
        have O2 := q6 (F' := frzF F H S1) (H' := H) (o' := some v) (w' := .sh d) (T := Ep) st.ext (fun _ _ => rfl) (fun _ z => z.elim) (.inr ⟨v, rfl, .sh dv⟩)
        have e3 : σ.set i (some v) = σ := setSelf q1
        rw [e3] at O2
        exact h v (frzF F H S1) H S2 Ep (Dj.ep _) ((st.more (q3.u q2)).sb (Sb.u (.refl _) fun _ z => z.elim)) (O2.wk (Sb.u (fun _ z => z.elim) (.refl _))) (.sh dv)
/-- the slot's value, handed on -/
def mMv (i : Nat) : ER W := fun ρ => match ρ[i]? with
  | some .mov => .bad
  | some w => .ok w (ρ.set i .mov)
  | none => .bad
theorem e_mv {e : Expr} {i : Nat} (h : PE X e (tVar i)) : PE X e (tE (gx X) Wx (mMv i)) := peW h fun σ H Q q => by
  obtain ⟨ρ, F, S, gd, O, h⟩ := q
  unfold mMv at h
  cases e1 : ρ[i]? with
  | none => rw [e1] at h; exact h.elim
  | some w =>
    rw [e1] at h
    obtain ⟨o, S1, S2, q1, q2, q3, q4, q5, q6⟩ := O.focus e1
    rcases q5 with rfl | ⟨v, rfl, q5⟩
    · exact h.elim
    · refine ⟨v, q1, ?_⟩
      have h' : ResP (OV (gx X)) (gx X) Wx σ F S H (.ok w (ρ.set i .mov)) Q := by
        cases w with
        | mov => exact h.elim
        | _ => exact h
      have O2 := q6 (F' := F) (H' := H) (o' := some v) (w' := .mov) (T := Ep) (.refl F) (fun _ _ => rfl) (fun _ z => z.elim) (.inl rfl)
      have e3 : σ.set i (some v) = σ := setSelf q1
      rw [e3] at O2
      exact h' v F H S2 S1 q4.symm ((Step.refl gd).sb (q3.u q2)) (O2.wk (Sb.u (fun _ z => z.elim) (.refl _))) q5
end
end Fp

set_option Elab.async false
set_option linter.all false
set_option maxRecDepth 100000
set_option maxHeartbeats 4000000
namespace Fp
open PySem PySem.Spec L2
open PyProof.Rows hiding St

/-! ### reading values -/
def RBor (g : G) (F H : Hp) (v : V) (w : W) (_ : AS) : Prop := Same F H ∧ ∃ T, OV g F H v w T
/-- a value that is looked at, not kept -/
def tB (g : G) (Wx : WX) (m : ER W) : TE := tG (RBor g) g Wx m
theorem b_of {X : Cx} {Wx : WX} {e : Expr} {m : ER W} (h : PE X e (tE (gx X) Wx m)) : PE X e (tB (gx X) Wx m) := peW h fun σ H Q q => by
  obtain ⟨ρ, F, S, gd, O, h⟩ := q
  refine ⟨ρ, F, S, gd, O, ?_⟩
  cases e : m ρ with
  | ok a ρ' => rw [e] at h; exact fun b F' H' S1 S2 d s o r => h b F' H' S1 S2 d s o ⟨s.gd.same, S2, r⟩
  | exc c ρ' => rw [e] at h; exact h
  | bad => rw [e] at h; exact h
def mBv (i : Nat) : ER W := fun ρ => match ρ[i]? with
  | some .mov => .bad
  | some w => .ok w ρ
  | none => .bad
theorem slotAt {g : G} {F H : Hp} {σ : St} {ρ : Env} {S : AS} {i : Nat} {w : W} (O : OSs g F H σ ρ S) (e : ρ[i]? = some w) (hm : w ≠ .mov) : ∃ v T, σ[i]? = some (some v) ∧ OV g F H v w T := by
  obtain ⟨o, S1, S2, q1, q2, q3, q4, q5, q6⟩ := O.focus e
  rcases q5 with rfl | ⟨v, rfl, q5⟩
  · exact absurd rfl hm
  · exact ⟨v, S1, q1, q5⟩
theorem b_v {X : Cx} {Wx : WX} {e : Expr} {i : Nat} (h : PE X e (tVar i)) : PE X e (tB (gx X) Wx (mBv i)) := peW h fun σ H Q q => by
  obtain ⟨ρ, F, S, gd, O, h⟩ := q
  unfold mBv at h
  cases e1 : ρ[i]? with
  | none => rw [e1] at h; exact h.elim
  | some w =>
    rw [e1] at h
    have hm : w ≠ .mov := fun z => by subst z; exact h
    obtain ⟨v, T, q1, q5⟩ := slotAt O e1 hm
    refine ⟨v, q1, ?_⟩
    have h' : ResP (RBor (gx X)) (gx X) Wx σ F S H (.ok w ρ) Q := by
      cases w with
      | mov => exact absurd rfl hm
      | _ => exact h
    exact h' v F H S Ep (Dj.ep _) ((Step.refl gd).sb (Sb.u (.refl _) fun _ z => z.elim)) O ⟨gd.same, T, q5⟩
/-- what is looked at is shared data: it may be kept -/
def mSh (m : ER W) : ER W := bnd m fun w => match w with
  | .sh d => rt (.sh d)
  | _ => bad
theorem e_sh {X : Cx} {Wx : WX} {e : Expr} {m : ER W} (h : PE X e (tB (gx X) Wx m)) : PE X e (tE (gx X) Wx (mSh m)) := peW h fun σ H Q q => by
  refine tG_bind (R2 := OV (gx X)) q fun a ρ1 b F1 H1 S1 T1 d1 gd O r h => ?_
  cases a with
  | sh d =>
    obtain ⟨_, T, hr⟩ := r
    cases hr with
    | sh dv => exact h.ans0 gd (O.wk .l) b F1 H1 Ep (Step.refl (gd.sb fun _ z => z.elim)) (.sh dv)
  | _ => exact h.elim

def shs : List W → Option (List D)
  | [] => some []
  | .sh d :: r => (shs r).map (d :: ·)
  | _ :: _ => none
def W.items : W → Option (List D)
  | .sh (.lst ds) => some ds
  | .lst ws => shs ws
  | _ => none
def W.titems : W → Option (List D)
  | .sh (.tup ds) => some ds
  | .tup ws => shs ws
  | _ => none
theorem shs_dv {g : G} {F H : Hp} : ∀ {vs : List V} {ws : List W} {S : AS} {ds : List D}, OVs g F H vs ws S → shs ws = some ds → DVs g F vs ds
  | _, _, _, _, .nil, e => by cases e; exact .nil
  | _, _, _, _, .cons (w := w) _ _ _ h4 h5, e => by
    cases w with
    | sh d =>
      simp only [shs, Option.map_eq_some_iff] at e
      obtain ⟨ds, e, rfl⟩ := e
      cases h4 with
      | sh dv => exact .cons dv (shs_dv h5 e)
    | _ => simp [shs] at e
theorem DVs.length {g : G} {F : Hp} : ∀ {vs : List V} {ds : List D}, DVs g F vs ds → vs.length = ds.length
  | _, _, .nil => rfl
  | _, _, .cons _ h => by rw [List.length_cons, List.length_cons, DVs.length h]
theorem DVs.get {g : G} {F : Hp} : ∀ {vs : List V} {ds : List D} {i : Nat} {d : D}, DVs g F vs ds → ds[i]? = some d → ∃ v, vs[i]? = some v ∧ DV g F v d
  | _, _, i, _, .nil, e => by simp at e
  | _, _, 0, _, .cons h _, e => by
    have e := Option.some.inj e
    subst e
    exact ⟨_, rfl, h⟩
  | _, _, i + 1, _, .cons _ h, e => DVs.get h (i := i) (by simpa using e)
theorem DVs.append {g : G} {F : Hp} : ∀ {vs us : List V} {ds es : List D}, DVs g F vs ds → DVs g F us es → DVs g F (vs ++ us) (ds ++ es)
  | _, _, _, _, .nil, h => h
  | _, _, _, _, .cons a b, h => .cons a (DVs.append b h)
theorem DVs.take {g : G} {F : Hp} : ∀ {vs : List V} {ds : List D} (n : Nat), DVs g F vs ds → DVs g F (vs.take n) (ds.take n)
  | _, _, 0, _ => .nil
  | _, _, _ + 1, .nil => .nil
  | _, _, n + 1, .cons a b => .cons a (DVs.take n b)
theorem DVs.drop {g : G} {F : Hp} : ∀ {vs : List V} {ds : List D} (n : Nat), DVs g F vs ds → DVs g F (vs.drop n) (ds.drop n)
  | _, _, 0, h => h
  | _, _, _ + 1, .nil => .nil
  | _, _, n + 1, .cons _ b => DVs.drop n b
theorem DVs.snoc {g : G} {F : Hp} {vs : List V} {ds : List D} {v : V} {d : D} (h : DVs g F vs ds) (k : DV g F v d) : DVs g F (vs ++ [v]) (ds ++ [d]) := h.append (.cons k .nil)
theorem DVs.dropLast {g : G} {F : Hp} {vs : List V} {ds : List D} (h : DVs g F vs ds) : DVs g F vs.dropLast ds.dropLast := by
  rw [List.dropLast_eq_take, List.dropLast_eq_take, ← h.length]; exact h.take _
theorem DVs.ovs {g : G} {F H : Hp} : ∀ {vs : List V} {ds : List D} {S : AS}, DVs g F vs ds → OVs g F H vs (ds.map .sh) S
  | _, _, _, .nil => .nil
  | _, _, _, .cons a b => .cons (S1 := Ep) (S2 := Ep) (fun _ z => z.elim) (fun _ z => z.elim) (fun _ z _ => z) (.sh a) (DVs.ovs b)
theorem lst_of {g : G} {F H : Hp} {S : AS} {v : V} {w : W} {ds : List D} (h : OV g F H v w S) (s : Same F H) (e : w.items = some ds) : ∃ a vs, v = .ref a ∧ Rd H a (.lst vs) ∧ DVs g F vs ds := by
  cases h with
  | sh dv =>
    cases dv with
    | lst h1 h2 => cases e; exact ⟨_, _, rfl, (Sub.of_same s).rd h1, h2⟩
    | _ => cases e
  | lst h1 h2 h3 h4 => exact ⟨_, _, rfl, .of h2, shs_dv h4 e⟩
  | _ => cases e
theorem tup_of {g : G} {F H : Hp} {S : AS} {v : V} {w : W} {ds : List D} (h : OV g F H v w S) (s : Same F H) (e : w.titems = some ds) : ∃ a vs, v = .ref a ∧ SqT g.K H a vs ∧ DVs g F vs ds := by
  cases h with
  | sh dv =>
    cases dv with
    | tup h1 h2 => cases e; exact ⟨_, _, rfl, (Sub.of_same s).sqT h1, h2⟩
    | _ => cases e
  | tup h1 h2 h3 h4 => exact ⟨_, _, rfl, .of h2, shs_dv h4 e⟩
  | _ => cases e

/-! ### operations by values -/
/-- what r asks is told by f: the operands looked at, the answer new or shared -/
def Op2 (g : G) (r : R2) (f : W → W → Option W) : Prop := ∀ (F H : Hp) (S1 S2 : AS) (x y : V) (w1 w2 w : W) (Q : VK), Same F H → OV g F H x w1 S1 → OV g F H y w2 S2 → f w1 w2 = some w →
  (∀ v F' H' T, Step F Ep H F' H' T → OV g F' H' v w T → Q v H') → r x y H Q
theorem Op2.or {g : G} {r r' : R2} {f f' : W → W → Option W} (h : Op2 g r f) (h' : Op2 g r' f') : Op2 g (fun x y H Q => r x y H Q ∨ r' x y H Q) (fun a b => match f a b with | some w => some w | none => f' a b) :=
  fun F H S1 S2 x y w1 w2 w Q s o1 o2 e k => by
    cases q : f w1 w2 with
    | some w' =>
      simp only [q] at e
      exact .inl (h F H S1 S2 x y w1 w2 w Q s o1 o2 (q.trans e) k)
    | none =>
      simp only [q] at e
      exact .inr (h' F H S1 S2 x y w1 w2 w Q s o1 o2 e k)
theorem stayE {F H : Hp} (s : Same F H) : Step F Ep H F H Ep := Step.refl ⟨s, fun _ z => z.elim⟩
theorem same_good {F H : Hp} (s : Same F H) : Good F H Ep := ⟨s, fun _ z => z.elim⟩

def mBin (f : W → W → Option W) (ma mb : ER W) : ER W := bnd ma fun a => bnd mb fun b => opt (f a b)
section
variable {X : Cx} {Wx : WX} {a b : Expr} {ma mb : ER W} {pos : Pos} {r : R2} {f : W → W → Option W}
/-- the left one kept meanwhile -/
theorem w_bin (ho : Op2 (gx X) r f) : ∀ σ H Q, tE (gx X) Wx (mBin f ma mb) σ H Q → tOp r (tE (gx X) Wx ma) (tB (gx X) Wx mb) σ H Q := fun σ H Q q => by
  refine tG_bind (R2 := OV (gx X)) q fun wa ρ1 v1 F1 H1 S1 T1 d1 gd O r1 h => ?_
  refine ResP.bind (R := RBor (gx X)) h d1 gd O fun wb ρ2 v2 F2 H2 S2 T2 d2 d3 gd2 sb k O2 r2 h2 => ?_
  obtain ⟨sm, T, r2⟩ := r2
  unfold opt at h2
  cases e : f wa wb with
  | none => rw [e] at h2; exact h2.elim
  | some w =>
    rw [e] at h2
    exact ho F2 H2 T1 T v1 v2 wa wb w Q sm (r1.mono sb k) r2 e (h2.ans0 gd2 (O2.wk (Sb.l.trans .l)))
theorem e_bin {op : Operator} (hr : OpR X (binaryOp op) r) (ho : Op2 (gx X) r f) (ha : PE X a (tE (gx X) Wx ma)) (hb : PE X b (tB (gx X) Wx mb)) : PE X (.BinOp a op b pos) (tE (gx X) Wx (mBin f ma mb)) :=
  peW (pe_op hr ha hb) (w_bin ho)
/-- the left one a slot: looked at behind the right one -/
def mBinV (f : W → W → Option W) (i : Nat) (mb : ER W) : ER W := bnd (mBv i) fun _ => bnd mb fun b => bnd (mBv i) fun a => opt (f a b)
theorem mBv_ok {i : Nat} {ρ ρ' : Env} {w : W} (h : mBv i ρ = .ok w ρ') : ρ' = ρ ∧ ρ[i]? = some w ∧ w ≠ .mov := by
  unfold mBv at h
  cases e : ρ[i]? with
  | none => rw [e] at h; cases h
  | some u =>
    rw [e] at h
    cases u with
    | mov => cases h
    | _ => cases h; exact ⟨rfl, rfl, fun z => by cases z⟩
theorem mBv_no {i : Nat} {ρ ρ' : Env} {c : Str} (h : mBv i ρ = .exc c ρ') : False := by
  unfold mBv at h
  cases e : ρ[i]? with
  | none => rw [e] at h; cases h
  | some u =>
    rw [e] at h
    cases u with
    | mov => cases h
    | _ => cases h
theorem w_binV {i : Nat} (ho : Op2 (gx X) r f) : ∀ σ H Q, tE (gx X) Wx (mBinV f i mb) σ H Q → tOp r (tVar i) (tB (gx X) Wx mb) σ H Q := fun σ H Q q => by
  obtain ⟨ρ, F, S, gd, O, h⟩ := q
  unfold mBinV at h
  rw [bnd] at h
  cases e : mBv i ρ with
  | bad => rw [e] at h; exact h.elim
  | exc c ρ1 => exact (mBv_no e).elim
  | ok w0 ρ0 =>
    rw [e] at h
    obtain ⟨rfl, e0, hm⟩ := mBv_ok e
    obtain ⟨v, T0, q1, _⟩ := slotAt O e0 hm
    refine ⟨v, q1, _, F, S, gd, O, ?_⟩
    simp only at h
    rw [bnd] at h
    cases e1 : mb ρ0 with
    | bad => rw [e1] at h; exact h.elim
    | exc c ρ1 => rw [e1] at h; exact h
    | ok wb ρ1 =>
      rw [e1] at h
      intro y F1 H1 S1 T1 d1 st O1 r1
      obtain ⟨sm, T, r1⟩ := r1
      simp only at h
      rw [bnd] at h
      cases e2 : mBv i ρ1 with
      | bad => rw [e2] at h; exact h.elim
      | exc c ρ2 => exact (mBv_no e2).elim
      | ok wa ρ2 =>
        rw [e2] at h
        obtain ⟨rfl, e3, hm2⟩ := mBv_ok e2
        obtain ⟨v2, T2, q2, o2⟩ := slotAt O1 e3 hm2
        rw [q1] at q2
        cases q2
        simp only [opt] at h
        cases e4 : f wa wb with
        | none => rw [e4] at h; exact h.elim
        | some w =>
          rw [e4] at h
          exact ho F1 H1 T2 T v y wa wb w Q sm o2 r1 e4 ((ResP.step gd st h).ans0 st.gd (O1.wk .l))
theorem e_binV {op : Operator} {i : Nat} (hr : OpR X (binaryOp op) r) (ho : Op2 (gx X) r f) (ha : PE X a (tVar i)) (hb : PE X b (tB (gx X) Wx mb)) : PE X (.BinOp a op b pos) (tE (gx X) Wx (mBinV f i mb)) :=
  peW (pe_op hr ha hb) (w_binV ho)
/-- the left one looked at, shared -/
def mBinS (f : W → W → Option W) (ma mb : ER W) : ER W := mBin f (mSh ma) mb
/-! tests -/
def mTest (m : ER W) : ER Bool := bnd m fun w => match w with
  | .sh (.bl b) => rt b
  | _ => bad
theorem t_of {t : TE} {m : ER W} {e : Expr} (h : PT X e (tTest t)) (hw : ∀ σ H Q, tE (gx X) Wx m σ H Q → t σ H Q) : PT X e (tT (gx X) Wx (mTest m)) := ptW h fun σ H Q q => by
  refine hw σ H _ ?_
  refine tG_bind (R2 := RB) q fun a ρ1 b F1 H1 S1 T1 d1 gd O r h => ?_
  cases a with
  | sh d =>
    cases d with
    | bl k =>
      cases r with
      | sh dv =>
        cases dv
        exact ⟨k, rfl, h.ans0 gd (O.wk .l) k F1 H1 Ep (Step.refl (gd.sb fun _ z => z.elim)) rfl⟩
    | _ => exact h.elim
  | _ => exact h.elim
theorem e_cmp {op : CmpOp} (hr : OpR X (compareOp op) r) (ho : Op2 (gx X) r f) (ha : PE X a (tE (gx X) Wx ma)) (hb : PE X b (tB (gx X) Wx mb)) (hm : behindInMarks op b = false) : PE X (.Compare a [op] [b] pos) (tE (gx X) Wx (mBin f ma mb)) :=
  peW (pe_cmpR hr ha hb hm) (w_bin ho)
theorem e_cmpV {op : CmpOp} {i : Nat} (hr : OpR X (compareOp op) r) (ho : Op2 (gx X) r f) (ha : PE X a (tVar i)) (hb : PE X b (tB (gx X) Wx mb)) (hm : behindInMarks op b = false) : PE X (.Compare a [op] [b] pos) (tE (gx X) Wx (mBinV f i mb)) :=
  peW (pe_cmpR hr ha hb hm) (w_binV ho)
theorem t_cmp {op : CmpOp} (hr : OpR X (compareOp op) r) (ho : Op2 (gx X) r f) (ha : PE X a (tE (gx X) Wx ma)) (hb : PE X b (tB (gx X) Wx mb)) (hm : behindInMarks op b = false) : PT X (.Compare a [op] [b] pos) (tT (gx X) Wx (mTest (mBin f ma mb))) :=
  t_of (pt_cmpR hr ha hb hm) (w_bin ho)
theorem t_cmpV {op : CmpOp} {i : Nat} (hr : OpR X (compareOp op) r) (ho : Op2 (gx X) r f) (ha : PE X a (tVar i)) (hb : PE X b (tB (gx X) Wx mb)) (hm : behindInMarks op b = false) : PT X (.Compare a [op] [b] pos) (tT (gx X) Wx (mTest (mBinV f i mb))) :=
  t_of (pt_cmpR hr ha hb hm) (w_binV ho)
end
end Fp

set_option Elab.async false
set_option linter.all false
set_option maxRecDepth 100000
set_option maxHeartbeats 4000000
namespace Fp
open PySem PySem.Spec L2
open PyProof.Rows hiding St

/-! ### operators of ints -/
def iop (f : Int → Int → Option D) : W → W → Option W
  | .sh (.int i), .sh (.int j) => (f i j).map .sh
  | _, _ => none
def dV : D → V
  | .int i => .int i
  | .bl b => .bl b
  | .str s => .str s
  | _ => .non
theorem op2_int {g : G} {C : Int → Int → Prop} [∀ i j, Decidable (C i j)] {h : Int → Int → V} {k : Int → Int → D} (hk : ∀ F i j, DV g F (h i j) (k i j)) : Op2 g (rI C h) (iop fun i j => if C i j then some (k i j) else none) := by
  intro F H S1 S2 x y w1 w2 w Q s o1 o2 e q
  unfold iop at e
  split at e
  · rename_i i j
    simp only at e
    by_cases c : C i j
    · rw [if_pos c] at e
      cases e
      cases o1 with | sh d1 => cases o2 with | sh d2 =>
        cases d1; cases d2
        exact ⟨i, j, rfl, rfl, c, q _ F H Ep (stayE s) (.sh (hk F i j))⟩
    · rw [if_neg c] at e; cases e
  · cases e
theorem op2_int0 {g : G} {h : Int → Int → V} {k : Int → Int → D} (hk : ∀ F i j, DV g F (h i j) (k i j)) : Op2 g (rI0 h) (iop fun i j => some (k i j)) := by
  intro F H S1 S2 x y w1 w2 w Q s o1 o2 e q
  unfold iop at e
  split at e
  · rename_i i j
    cases e
    cases o1 with | sh d1 => cases o2 with | sh d2 =>
      cases d1; cases d2
      exact ⟨i, j, rfl, rfl, q _ F H Ep (stayE s) (.sh (hk F i j))⟩
  · cases e
/-- list + list -/
def catL (a b : W) : Option W := match a.items, b.items with
  | some xs, some ys => if xs.length + ys.length ≤ sizeLine then some (.lst ((xs ++ ys).map .sh)) else none
  | _, _ => none
def rCatR : R2 := fun x y H Q => ∃ l b xs zs, x = .ref l ∧ y = .ref b ∧ Rd H l (.lst xs) ∧ Rd H b (.lst zs) ∧ xs.length + zs.length ≤ sizeLine ∧ ∀ p, H p = none → Q (.ref p) (upd H p (.lst (xs ++ zs)))
theorem lst_rd {X : Cx} {pins : List (Addr × Obj)} {σ : St} {H : Hp} {s : Shared} {l : Addr} {xs : List V} (I : Inv X pins σ H s) (h : Rd H l (.lst xs)) :
    xs.length ≤ sizeLine ∧ ∃ (its : List Value) (n : Nat), Vals xs its ∧ xs.length = its.length ∧ s.heap.get? l = some { cls := .type "list", data := .seq its.toArray n } := by
  obtain ⟨z, its, n, r, e⟩ := h.ok I.hok
  exact ⟨z, its, n, r, r.length, e⟩
theorem op_catR {X : Cx} : OpR X (binaryOp .Add) rCatR := by
  intro pins s σ H x y v u Q I rx ry h
  obtain ⟨l, b, xs, zs, rfl, rfl, hH, hB, hz, q⟩ := h
  cases rx
  cases ry
  obtain ⟨z, its, n, r, hl, e⟩ := lst_rd I hH
  obtain ⟨z2, its2, n2, r2, hl2, e2⟩ := lst_rd I hB
  refine PySem.P.add_list e e2 ?_ (by rw [List.size_toArray, List.size_toArray]; omega)
  have ea : its.toArray ++ its2.toArray = (its ++ its2).toArray := by simp
  rw [ea]
  exact ⟨.ref _, _, I.lnew (t' := s.toks) (r.append r2) (by rw [List.length_append]; omega), rfl, q _ I.fresh⟩
theorem newL {g : G} {F H : Hp} {p : Addr} {vs : List V} {ds : List D} (s : Same F H) (n : H p = none) (dv : DVs g F vs ds) :
    Step F Ep H F (upd H p (.lst vs)) (fun a => a = p) ∧ OV g F (upd H p (.lst vs)) (.ref p) (.lst (ds.map .sh)) (fun a => a = p) := by
  refine ⟨(Step.new (same_good s) n).sb .r, .lst (T := Ep) rfl upd_same (fun _ z => z.elim) dv.ovs⟩
theorem newT {g : G} {F H : Hp} {p : Addr} {vs : List V} {ds : List D} (s : Same F H) (n : H p = none) (dv : DVs g F vs ds) :
    Step F Ep H (upd F p (.tup vs)) (upd H p (.tup vs)) Ep ∧ OV g (upd F p (.tup vs)) (upd H p (.tup vs)) (.ref p) (.sh (.tup ds)) Ep := by
  have st := Step.newF (o := .tup vs) (same_good s) n
  exact ⟨st, .sh (.tup (.of upd_same) (dv.sub st.ext))⟩
theorem op2_catR {g : G} : Op2 g rCatR catL := by
  intro F H S1 S2 x y w1 w2 w Q s o1 o2 e q
  unfold catL at e
  split at e
  · rename_i xs ys e1 e2
    by_cases c : xs.length + ys.length ≤ sizeLine
    · rw [if_pos c] at e
      cases e
      obtain ⟨a, vs, rfl, ra, da⟩ := lst_of o1 s e1
      obtain ⟨b, us, rfl, rb, db⟩ := lst_of o2 s e2
      refine ⟨a, b, vs, us, rfl, rfl, ra, rb, by rw [da.length, db.length]; exact c, fun p n => ?_⟩
      obtain ⟨st, ov⟩ := newL s n (da.append db)
      exact q _ _ _ _ st ov
    · rw [if_neg c] at e; cases e
  · cases e
/-- text + text -/
def catS : W → W → Option W
  | .sh (.str a), .sh (.str b) => if a.length + b.length ≤ sizeLine then some (.sh (.str (a ++ b))) else none
  | _, _ => none
def rCatS : R2 := fun x y H Q => ∃ i j, x = .str i ∧ y = .str j ∧ i.length + j.length ≤ sizeLine ∧ Q (.str (i ++ j)) H
theorem op2_catS {g : G} : Op2 g rCatS catS := by
  intro F H S1 S2 x y w1 w2 w Q s o1 o2 e q
  unfold catS at e
  split at e
  · rename_i a b
    by_cases c : a.length + b.length ≤ sizeLine
    · rw [if_pos c] at e
      cases e
      cases o1 with | sh d1 => cases o2 with | sh d2 =>
        cases d1; cases d2
        exact ⟨a, b, rfl, rfl, c, q _ F H Ep (stayE s) (.sh (.str _))⟩
    · rw [if_neg c] at e; cases e
  · cases e
/-- tuple + tuple -/
def catT (a b : W) : Option W := match a.titems, b.titems with
  | some xs, some ys => if xs.length + ys.length ≤ sizeLine then some (.sh (.tup (xs ++ ys))) else none
  | _, _ => none
theorem tup_dv {g : G} {F H : Hp} {S : AS} {v : V} {d : D} (h : OV g F H v (.sh d) S) : DV g F v d := by cases h; assumption
theorem op2_catT {g : G} : Op2 g (rCatA g.K) (fun a b => match a, b with
    | .sh a, .sh b => catT (.sh a) (.sh b)
    | _, _ => none) := by
  intro F H S1 S2 x y w1 w2 w Q s o1 o2 e q
  simp only at e
  split at e
  · rename_i da db
    unfold catT at e
    split at e
    · rename_i xs ys e1 e2
      by_cases c : xs.length + ys.length ≤ sizeLine
      · rw [if_pos c] at e
        cases e
        obtain ⟨a, vs, rfl, ra, dx⟩ := tup_of o1 s e1
        obtain ⟨b, us, rfl, rb, dy⟩ := tup_of o2 s e2
        have o1 := tup_dv o1
        have o2 := tup_dv o2
        refine ⟨a, b, vs, us, rfl, rfl, ra, rb, by rw [dx.length, dy.length]; exact c, fun z => ?_, fun _ z => ?_, fun _ _ p n => ?_⟩
        · subst z
          cases dx
          cases db <;> simp only [W.titems, Option.some.injEq, reduceCtorEq] at e2
          subst e2
          exact q _ F H Ep (stayE s) (.sh o2)
        · subst z
          cases dy
          cases da <;> simp only [W.titems, Option.some.injEq, reduceCtorEq] at e1
          subst e1
          rw [List.append_nil] at q
          exact q _ F H Ep (stayE s) (.sh o1)
        · obtain ⟨st, ov⟩ := newT s n (dx.append dy)
          exact q _ _ _ _ st ov
      · rw [if_neg c] at e; cases e
    · cases e
  · cases e
def fAdd (a b : W) : Option W := match iop (fun i j => some (.int (i + j))) a b with
  | some w => some w
  | none => match catS a b with
    | some w => some w
    | none => match (match a, b with
        | .sh a, .sh b => catT (.sh a) (.sh b)
        | _, _ => none) with
      | some w => some w
      | none => catL a b
theorem or_add {X : Cx} : OpR X (binaryOp .Add) (fun x y H Q => rI0 (fun i j => .int (i + j)) x y H Q ∨ rCatS x y H Q ∨ rCatA X.K x y H Q ∨ rCatR x y H Q) := op_add.or (op_add_str.or (op_catA.or op_catR))
theorem o2_add {g : G} : Op2 g (fun x y H Q => rI0 (fun i j => .int (i + j)) x y H Q ∨ rCatS x y H Q ∨ rCatA g.K x y H Q ∨ rCatR x y H Q) fAdd := (op2_int0 fun _ _ _ => .int _).or (op2_catS.or (op2_catT.or op2_catR))
def fSub : W → W → Option W := iop fun i j => some (.int (i - j))
theorem o2_sub {g : G} : Op2 g (rI0 fun i j => .int (i - j)) fSub := op2_int0 fun _ _ _ => .int _
def CMulA (i j : Int) : Prop := (-(2 ^ 64) < i ∧ i < 2 ^ 64) ∨ (-(2 ^ 64) < j ∧ j < 2 ^ 64) ∨ i.natAbs.log2 + j.natAbs.log2 < 1000000
instance (i j : Int) : Decidable (CMulA i j) := by unfold CMulA; infer_instance
theorem CMulA.ok {i j : Int} (h : CMulA i j) : IntMulOk i j := by
  rcases h with h | h | h
  · exact CMul.ok (.inl h)
  · exact CMul.ok (.inr h)
  · exact CMulW.ok h
theorem op_mulA {X : Cx} : OpR X (binaryOp .Mult) (rI CMulA fun i j => .int (i * j)) := opI fun _ _ _ _ _ _ _ hc q => mul_int q hc.ok
/-- text * int -/
def repStr (x : Str) (n : Int) : Str := if n < 1 then Str.empty else if n = 1 ∨ x.length = 0 then x else ⟨(List.replicate n.toNat x.cps).foldl (· ++ ·) #[]⟩
theorem foldApp : ∀ (l : List (Array Nat)) (acc : Array Nat), (l.foldl (· ++ ·) acc).size = acc.size + (l.map Array.size).sum
  | [], acc => by simp
  | x :: r, acc => by rw [List.foldl_cons, foldApp r, Array.size_append, List.map_cons, List.sum_cons]; omega
theorem repLen (x : Str) (n : Nat) : (⟨(List.replicate n x.cps).foldl (· ++ ·) #[]⟩ : Str).length = x.length * n := by
  show ((List.replicate n x.cps).foldl (· ++ ·) #[]).size = x.cps.size * n
  rw [foldApp, List.map_replicate, List.sum_replicate_nat, Nat.mul_comm]
  simp
def mulS : W → W → Option W
  | .sh (.str a), .sh (.int n) => if -(2 ^ 62) < n ∧ n < 2 ^ 62 ∧ a.length * n.toNat ≤ sizeLine then some (.sh (.str (repStr a n))) else none
  | _, _ => none
def rMulS : R2 := fun x y H Q => ∃ a n, x = .str a ∧ y = .int n ∧ (-(2 ^ 62) < n ∧ n < 2 ^ 62 ∧ a.length * n.toNat ≤ sizeLine) ∧ Q (.str (repStr a n)) H
theorem op_mulS {X : Cx} : OpR X (binaryOp .Mult) rMulS := by
  intro pins s σ H x y v u Q I rx ry h
  obtain ⟨a, n, rfl, rfl, ⟨h1, h2, h3⟩, q⟩ := h
  obtain ⟨t, rfl⟩ := rx
  obtain ⟨t', rfl⟩ := ry
  have key : n < 1 ∨ (¬ n < 1 ∧ (n = 1 ∨ a.length = 0)) ∨ (¬ n < 1 ∧ ¬ (n = 1 ∨ a.length = 0)) := by
    by_cases c : n < 1
    · exact .inl c
    · by_cases c2 : n = 1 ∨ a.length = 0
      · exact .inr (.inl ⟨c, c2⟩)
      · exact .inr (.inr ⟨c, c2⟩)
  have cb : (n == 1 || a.length == 0) = decide (n = 1 ∨ a.length = 0) := by
    rw [Bool.eq_iff_iff]; simp
  have hs : (sizeLine : Nat) = 2 ^ 24 := rfl
  refine PySem.P.mul_str (by rw [decide_eq_false (by omega), decide_eq_false (by omega)]; rfl) (fun c1 c2 => ?_) (fun c1 c2 => ?_) ?_
  · have h4 : (a.length : Int) * n ≤ 2 ^ 24 := by
      have e : n = (n.toNat : Int) := by omega
      rw [e, ← Int.natCast_mul]
      have := h3
      rw [hs] at this
      exact_mod_cast this
    have hn : 0 < n := by omega
    have : (a.length : Int) ≤ (2 ^ 63 - 1) / n := by
      rw [Int.le_ediv_iff_mul_le hn]
      omega
    omega
  · unfold Builtin.Str.tooLong
    exact decide_eq_false (by omega)
  · unfold repStr at q
    rcases key with c | ⟨c, c2⟩ | ⟨c, c2⟩
    · rw [if_pos c] at q ⊢
      exact ⟨by decide, ⟨.str _, H, I.tok _, ⟨_, rfl⟩, q⟩⟩
    · rw [if_neg c, if_pos c2] at q
      rw [if_neg c, cb, decide_eq_true c2, if_pos rfl]
      exact ⟨.str _, H, I, ⟨_, rfl⟩, q⟩
    · rw [if_neg c, if_neg c2] at q
      rw [if_neg c, cb, decide_eq_false c2, if_neg Bool.false_ne_true]
      refine ⟨?_, ⟨.str _, H, I.tok _, ⟨_, rfl⟩, q⟩⟩
      exact (repLen a n.toNat) ▸ h3
theorem op2_mulS {g : G} : Op2 g rMulS mulS := by
  intro F H S1 S2 x y w1 w2 w Q s o1 o2 e q
  unfold mulS at e
  split at e
  · rename_i a n
    split at e
    · rename_i c
      cases e
      cases o1 with | sh d1 => cases o2 with | sh d2 =>
        cases d1; cases d2
        exact ⟨a, n, rfl, rfl, c, q _ F H Ep (stayE s) (.sh (.str _))⟩
    · cases e
  · cases e
def fMul (a b : W) : Option W := match iop (fun i j => if CMulA i j then some (.int (i * j)) else none) a b with
  | some w => some w
  | none => mulS a b
theorem or_mul {X : Cx} : OpR X (binaryOp .Mult) (fun x y H Q => rI CMulA (fun i j => .int (i * j)) x y H Q ∨ rMulS x y H Q) := op_mulA.or op_mulS
theorem o2_mul {g : G} : Op2 g (fun x y H Q => rI CMulA (fun i j => .int (i * j)) x y H Q ∨ rMulS x y H Q) fMul := (op2_int fun _ _ _ => .int _).or op2_mulS
instance (i j : Int) : Decidable (CDivW i j) := by unfold CDivW; infer_instance
def fDiv : W → W → Option W := iop fun i j => if CDivW i j then some (.int (i / j)) else none
theorem o2_div {g : G} : Op2 g (rI CDivW fun i j => .int (i / j)) fDiv := op2_int fun _ _ _ => .int _
def fMod : W → W → Option W := iop fun i j => if 0 < j then some (.int (i % j)) else none
theorem o2_mod {g : G} : Op2 g (rI (fun _ j => 0 < j) fun i j => .int (i % j)) fMod := op2_int fun _ _ _ => .int _
instance (i j : Int) : Decidable (CPow i j) := by unfold CPow; infer_instance
def fPow : W → W → Option W := iop fun i j => if CPow i j then some (.int (i ^ j.toNat)) else none
theorem o2_pow {g : G} : Op2 g (rI CPow fun i j => .int (i ^ j.toNat)) fPow := op2_int fun _ _ _ => .int _
def fShr : W → W → Option W := iop fun i j => if 0 ≤ j then some (.int (i / 2 ^ j.toNat)) else none
theorem o2_shr {g : G} : Op2 g (rI (fun _ j => 0 ≤ j) fun i j => .int (i / 2 ^ j.toNat)) fShr := op2_int fun _ _ _ => .int _
/-! comparisons of ints -/
def fLt : W → W → Option W := iop fun i j => some (.bl (decide (i < j)))
def fLe : W → W → Option W := iop fun i j => some (.bl (decide (i ≤ j)))
def fGt : W → W → Option W := iop fun i j => some (.bl (decide (j < i)))
def fGe : W → W → Option W := iop fun i j => some (.bl (decide (j ≤ i)))
theorem o2_lt {g : G} : Op2 g (rI0 fun i j => .bl (decide (i < j))) fLt := op2_int0 fun _ _ _ => .bl _
theorem o2_le {g : G} : Op2 g (rI0 fun i j => .bl (decide (i ≤ j))) fLe := op2_int0 fun _ _ _ => .bl _
theorem o2_gt {g : G} : Op2 g (rI0 fun i j => .bl (decide (j < i))) fGt := op2_int0 fun _ _ _ => .bl _
theorem o2_ge {g : G} : Op2 g (rI0 fun i j => .bl (decide (j ≤ i))) fGe := op2_int0 fun _ _ _ => .bl _
end Fp

set_option Elab.async false
set_option linter.all false
set_option maxRecDepth 100000
set_option maxHeartbeats 4000000
namespace Fp
open PySem PySem.Spec L2
open PyProof.Rows hiding St

/-! ### == and != -/
mutual
def dpy : D → Option PyData
  | .non => some .none
  | .bl b => some (.bool b)
  | .int i => some (.int i)
  | .str s => some (.str s)
  | .tup ds => (dpys ds).map .tuple
  | .lst ds => (dpys ds).map .list
  | _ => none
def dpys : List D → Option (List PyData)
  | [] => some []
  | d :: ds => match dpy d, dpys ds with
    | some p, some ps => some (p :: ps)
    | _, _ => none
end
mutual
theorem dv_dp {g : G} {F H : Hp} (s : Same F H) : ∀ {v : V} {d : D} {p : PyData}, DV g F v d → dpy d = some p → Dp g.K H v p
  | _, _, _, .non, e => by cases e; exact .non
  | _, _, _, .bl b, e => by cases e; exact .bl b
  | _, _, _, .int i, e => by cases e; exact .int i
  | _, _, _, .str x, e => by cases e; exact .str x
  | _, _, _, .tup h1 h2, e => by
    simp only [dpy, Option.map_eq_some_iff] at e
    obtain ⟨ps, e, rfl⟩ := e
    exact .tup ((Sub.of_same s).sqT h1) (dvs_dp s h2 e)
  | _, _, _, .lst h1 h2, e => by
    simp only [dpy, Option.map_eq_some_iff] at e
    obtain ⟨ps, e, rfl⟩ := e
    exact .lst (.inl ((Sub.of_same s).rd h1)) (dvs_dp s h2 e)
  | _, _, _, .dct _ _ _, e => by simp [dpy] at e
  | _, _, _, .exn _ _ _ _ _, e => by simp [dpy] at e
theorem dvs_dp {g : G} {F H : Hp} (s : Same F H) : ∀ {v : List V} {d : List D} {p : List PyData}, DVs g F v d → dpys d = some p → DpAll g.K H v p
  | _, _, _, .nil, e => by cases e; exact .nil
  | _, _, _, .cons h1 h2, e => by
    simp only [dpys] at e
    split at e
    · rename_i p ps e1 e2
      cases e
      exact .cons (dv_dp s h1 e1) (dvs_dp s h2 e2)
    · cases e
end
mutual
theorem ov_dp {g : G} {F H : Hp} (s : Same F H) : ∀ {v : V} {w : W} {S : AS} {d : D} {p : PyData}, OV g F H v w S → W.data w = some d → dpy d = some p → Dp g.K H v p
  | _, _, _, _, _, .sh h, e, e2 => by
    cases e
    exact dv_dp s h e2
  | _, _, _, _, _, .lst h1 h2 h3 h4, e, e2 => by
    simp only [W.data, Option.map_eq_some_iff] at e
    obtain ⟨ds, e, rfl⟩ := e
    simp only [dpy, Option.map_eq_some_iff] at e2
    obtain ⟨ps, e2, rfl⟩ := e2
    exact .lst (.of h2) (ovs_dp s h4 e e2)
  | _, _, _, _, _, .tup h1 h2 h3 h4, e, e2 => by
    simp only [W.data, Option.map_eq_some_iff] at e
    obtain ⟨ds, e, rfl⟩ := e
    simp only [dpy, Option.map_eq_some_iff] at e2
    obtain ⟨ps, e2, rfl⟩ := e2
    exact .tup (.of h2) (ovs_dp s h4 e e2)
  | _, _, _, _, _, .dct _ _ _ _ _, e, e2 => by
    simp only [W.data, Option.map_eq_some_iff] at e
    obtain ⟨ds, e, rfl⟩ := e
    simp [dpy] at e2
  | _, _, _, _, _, .obj _ _ _ _ _ _ _, e, _ => by simp [W.data] at e
  | _, _, _, _, _, .mov, e, _ => by simp [W.data] at e
theorem ovs_dp {g : G} {F H : Hp} (s : Same F H) : ∀ {v : List V} {w : List W} {S : AS} {d : List D} {p : List PyData}, OVs g F H v w S → W.datas w = some d → dpys d = some p → DpAll g.K H v p
  | _, _, _, _, _, .nil, e, e2 => by cases e; cases e2; exact .nil
  | _, _, _, _, _, .cons h1 h2 h3 h4 h5, e, e2 => by
    simp only [W.datas] at e
    split at e
    · rename_i d ds e3 e4
      cases e
      simp only [dpys] at e2
      split at e2
      · rename_i p ps e5 e6
        cases e2
        exact .cons (ov_dp s h4 e3 e5) (ovs_dp s h5 e4 e6)
      · cases e2
    · cases e
end
def flatEq : D → D → Option Bool
  | .int i, .int j => some (decide (i = j))
  | .str i, .str j => some (decide (i = j))
  | _, _ => none
def rFlat (neg : Bool) : R2 := fun x y H Q => ∃ k, ((∃ i j, x = .int i ∧ y = .int j ∧ k = decide (i = j)) ∨ (∃ i j, x = .str i ∧ y = .str j ∧ k = decide (i = j))) ∧ Q (.bl (if neg then !k else k)) H
theorem op_eqF {X : Cx} : OpR X (compareOp .Eq) (rFlat false) := by
  intro pins s σ H x y v u Q I rx ry h
  obtain ⟨k, h, q⟩ := h
  rcases h with ⟨i, j, rfl, rfl, rfl⟩ | ⟨i, j, rfl, rfl, rfl⟩
  · refine op_eq pins s σ H _ _ v u Q I rx ry ⟨rfl, ?_⟩
    have e : decide (V.int i = V.int j) = decide (i = j) := by rw [dec_int, Bool.beq_eq_decide_eq]
    rw [e]; exact q
  · refine op_eq pins s σ H _ _ v u Q I rx ry ⟨rfl, ?_⟩
    have e : decide (V.str i = V.str j) = decide (i = j) := by rw [dec_str, Bool.beq_eq_decide_eq]
    rw [e]; exact q
theorem op_neF {X : Cx} : OpR X (compareOp .NotEq) (rFlat true) := by
  intro pins s σ H x y v u Q I rx ry h
  obtain ⟨k, h, q⟩ := h
  rcases h with ⟨i, j, rfl, rfl, rfl⟩ | ⟨i, j, rfl, rfl, rfl⟩
  · refine op_ne pins s σ H _ _ v u Q I rx ry ⟨rfl, ?_⟩
    have e : decide (V.int i = V.int j) = decide (i = j) := by rw [dec_int, Bool.beq_eq_decide_eq]
    rw [e]; exact q
  · refine op_ne pins s σ H _ _ v u Q I rx ry ⟨rfl, ?_⟩
    have e : decide (V.str i = V.str j) = decide (i = j) := by rw [dec_str, Bool.beq_eq_decide_eq]
    rw [e]; exact q
def fFlat (neg : Bool) : W → W → Option W
  | .sh a, .sh b => (flatEq a b).map fun k => .sh (.bl (if neg then !k else k))
  | _, _ => none
def fData (neg : Bool) (a b : W) : Option W := match a.data, b.data with
  | some d, some e => match dpy d, dpy e with
    | some p, some q => if SeqAt.shaped p = true ∧ SeqAt.shaped q = true then some (.sh (.bl (if neg then !PyData.eqv p q else PyData.eqv p q))) else none
    | _, _ => none
  | _, _ => none
theorem op2_flat {g : G} {neg : Bool} : Op2 g (rFlat neg) (fFlat neg) := by
  intro F H S1 S2 x y w1 w2 w Q s o1 o2 e q
  unfold fFlat at e
  split at e
  · rename_i a b
    simp only [Option.map_eq_some_iff] at e
    obtain ⟨k, e, rfl⟩ := e
    cases o1 with | sh d1 => cases o2 with | sh d2 =>
      refine ⟨k, ?_, q _ F H Ep (stayE s) (.sh (.bl _))⟩
      unfold flatEq at e
      split at e
      · cases d1; cases d2; cases e; exact .inl ⟨_, _, rfl, rfl, rfl⟩
      · cases d1; cases d2; cases e; exact .inr ⟨_, _, rfl, rfl, rfl⟩
      · cases e
  · cases e
theorem op2_eqD {g : G} : Op2 g (rEqD g.K) (fData false) := by
  intro F H S1 S2 x y w1 w2 w Q s o1 o2 e q
  unfold fData at e
  split at e
  · rename_i d d' e1 e2
    split at e
    · rename_i p p' e3 e4
      split at e
      · rename_i c
        cases e
        exact ⟨p, p', ov_dp s o1 e1 e3, ov_dp s o2 e2 e4, c.1, c.2, q _ F H Ep (stayE s) (.sh (.bl _))⟩
      · cases e
    · cases e
  · cases e
theorem op2_neD {g : G} : Op2 g (rNeD g.K) (fData true) := by
  intro F H S1 S2 x y w1 w2 w Q s o1 o2 e q
  unfold fData at e
  split at e
  · rename_i d d' e1 e2
    split at e
    · rename_i p p' e3 e4
      split at e
      · rename_i c
        cases e
        exact ⟨p, p', ov_dp s o1 e1 e3, ov_dp s o2 e2 e4, c.1, c.2, q _ F H Ep (stayE s) (.sh (.bl _))⟩
      · cases e
    · cases e
  · cases e
def fEq (a b : W) : Option W := match fFlat false a b with
  | some w => some w
  | none => fData false a b
def fNe (a b : W) : Option W := match fFlat true a b with
  | some w => some w
  | none => fData true a b
theorem or_eq {X : Cx} (hu : X.A.units + 64 < cLine) : OpR X (compareOp .Eq) (fun x y H Q => rFlat false x y H Q ∨ rEqD X.K x y H Q) := op_eqF.or (op_eqD hu)
theorem or_ne {X : Cx} (hu : X.A.units + 64 < cLine) : OpR X (compareOp .NotEq) (fun x y H Q => rFlat true x y H Q ∨ rNeD X.K x y H Q) := op_neF.or (op_neD hu)
theorem o2_eq {g : G} : Op2 g (fun x y H Q => rFlat false x y H Q ∨ rEqD g.K x y H Q) fEq := op2_flat.or op2_eqD
theorem o2_ne {g : G} : Op2 g (fun x y H Q => rFlat true x y H Q ∨ rNeD g.K x y H Q) fNe := op2_flat.or op2_neD

/-! ### in, not in: flat items, one sign in a text -/
def flatD : D → Option V
  | .non => some .non
  | .bl b => some (.bl b)
  | .int i => some (.int i)
  | .str s => some (.str s)
  | _ => none
def flatDs : List D → Option (List V)
  | [] => some []
  | d :: r => match flatD d, flatDs r with
    | some v, some vs => some (v :: vs)
    | _, _ => none
theorem flat_v {g : G} {F : Hp} {v u : V} {d : D} (h : DV g F v d) (e : flatD d = some u) : v = u ∧ flatV u = true := by
  cases h <;> simp only [flatD, Option.some.injEq, reduceCtorEq] at e <;> subst e <;> exact ⟨rfl, rfl⟩
theorem flat_vs {g : G} {F : Hp} : ∀ {vs us : List V} {ds : List D}, DVs g F vs ds → flatDs ds = some us → vs = us ∧ us.all flatV = true
  | _, _, _, .nil, e => by cases e; exact ⟨rfl, rfl⟩
  | _, _, _, .cons h1 h2, e => by
    simp only [flatDs] at e
    split at e
    · rename_i v vs e1 e2
      cases e
      obtain ⟨rfl, f1⟩ := flat_v h1 e1
      obtain ⟨rfl, f2⟩ := flat_vs h2 e2
      exact ⟨rfl, by rw [List.all_cons, f1, f2]; rfl⟩
    · cases e
def W.any (w : W) : Option (List D) := match w.items with
  | some ds => some ds
  | none => w.titems
theorem any_of {g : G} {F H : Hp} {S : AS} {v : V} {w : W} {ds : List D} (h : OV g F H v w S) (s : Same F H) (e : w.any = some ds) : ∃ a vs, v = .ref a ∧ (SqL g.K H a vs ∨ SqT g.K H a vs) ∧ DVs g F vs ds := by
  unfold W.any at e
  split at e
  · rename_i ds' e1
    cases e
    obtain ⟨a, vs, rfl, r, d⟩ := lst_of h s e1
    exact ⟨a, vs, rfl, .inl (.inl r), d⟩
  · obtain ⟨a, vs, rfl, r, d⟩ := tup_of h s e
    exact ⟨a, vs, rfl, .inr r, d⟩
def fInSeq (neg : Bool) : W → W → Option W
  | .sh a, b => match flatD a, b.any with
    | some x, some ds => (flatDs ds).map fun us => .sh (.bl (if neg then !inV x us else inV x us))
    | _, _ => none
  | _, _ => none
theorem op2_inSeq {g : G} {neg : Bool} : Op2 g (rIn g.K neg) (fInSeq neg) := by
  intro F H S1 S2 x y w1 w2 w Q s o1 o2 e q
  unfold fInSeq at e
  split at e
  · rename_i a
    split at e
    · rename_i xv ds e1 e2
      simp only [Option.map_eq_some_iff] at e
      obtain ⟨us, e, rfl⟩ := e
      obtain ⟨rfl, fx⟩ := flat_v (tup_dv o1) e1
      obtain ⟨p, vs, rfl, r, dv⟩ := any_of o2 s e2
      obtain ⟨rfl, fu⟩ := flat_vs dv e
      exact ⟨p, _, rfl, r, fx, fu, q _ F H Ep (stayE s) (.sh (.bl _))⟩
    · cases e
  · cases e
def fInStr (neg : Bool) : W → W → Option W
  | .sh (.str c), .sh (.str z) => match c.cps.toList with
    | [k] => some (.sh (.bl (if neg then !decide (k ∈ z.cps.toList) else decide (k ∈ z.cps.toList))))
    | _ => none
  | _, _ => none
def rInStr (neg : Bool) : R2 := fun x y H Q => ∃ (c : Nat) (z : Str), x = .str ⟨#[c]⟩ ∧ y = .str z ∧ Q (.bl (if neg then !decide (c ∈ z.cps.toList) else decide (c ∈ z.cps.toList))) H
theorem op2_inStr {g : G} {neg : Bool} : Op2 g (rInStr neg) (fInStr neg) := by
  intro F H S1 S2 x y w1 w2 w Q s o1 o2 e q
  unfold fInStr at e
  split at e
  · rename_i c z
    split at e
    · rename_i k ek
      cases e
      cases o1 with | sh d1 => cases o2 with | sh d2 =>
        cases d1; cases d2
        have ec : c = ⟨#[k]⟩ := by
          cases c with | mk cps =>
          have : cps = #[k] := by
            apply Array.ext'
            exact ek
          rw [this]
        subst ec
        exact ⟨k, z, rfl, rfl, q _ F H Ep (stayE s) (.sh (.bl _))⟩
    · cases e
  · cases e
/-! ### is None -/
def isNone : W → Option Bool
  | .sh .non => some true
  | .sh _ => some false
  | .lst _ => some false
  | .dct _ => some false
  | .tup _ => some false
  | .obj _ _ => some false
  | .mov => none
def mIsN (neg : Bool) (m : ER W) : ER W := bnd m fun w => match isNone w with
  | some b => rt (.sh (.bl (if neg then !b else b)))
  | none => bad
theorem isN_ok {g : G} {F H : Hp} {S : AS} {v : V} {w : W} {b : Bool} (h : OV g F H v w S) (e : isNone w = some b) : decide (v = .non) = b := by
  cases h with
  | sh d => cases d <;> simp [isNone] at e <;> subst e <;> simp
  | mov => cases e
  | _ => cases e; simp
section
variable {X : Cx} {Wx : WX} {a b : Expr} {ma mb : ER W} {pos : Pos}
theorem w_isN {neg : Bool} : ∀ σ H Q, tE (gx X) Wx (mIsN neg ma) σ H Q → tB (gx X) Wx ma σ H fun x H1 => Q (.bl (if neg then !decide (x = .non) else decide (x = .non))) H1 := fun σ H Q q => by
  refine tG_bind (R2 := OV (gx X)) q fun w ρ1 v F1 H1 S1 T1 d1 gd O r h => ?_
  obtain ⟨sm, T, r⟩ := r
  cases e : isNone w with
  | none => simp only [e] at h; exact h.elim
  | some k =>
    simp only [e] at h
    rw [isN_ok r e]
    exact h.ans0 gd (O.wk .l) _ F1 H1 Ep (stayE sm) (.sh (.bl _))
theorem e_isN {j pos'} (ha : PE X a (tB (gx X) Wx ma)) : PE X (.Compare a [.Is] [.Constant .none j pos'] pos) (tE (gx X) Wx (mIsN false ma)) := peW (pe_cmp (pc_isN ha)) w_isN
theorem e_notN {j pos'} (ha : PE X a (tB (gx X) Wx ma)) : PE X (.Compare a [.IsNot] [.Constant .none j pos'] pos) (tE (gx X) Wx (mIsN true ma)) := peW (pe_cmp (pc_notN ha)) w_isN
/-- a bool's value as a test -/
theorem t_val {e : Expr} {m : ER W} (h : PE X e (tE (gx X) Wx m)) (he : ∀ whole, isTrue e X.env whole = (do let v ← whole; standAt e.pos; holding [v] (truthy v)) := by intro _; rfl) : PT X e (tT (gx X) Wx (mTest m)) :=
  ptW (pt_val h he) fun σ H Q q => by
    refine tG_bind (R2 := RB) q fun a ρ1 b F1 H1 S1 T1 d1 gd O r h => ?_
    cases a with
    | sh d =>
      cases d with
      | bl k =>
        cases r with
        | sh dv =>
          cases dv
          exact ⟨k, rfl, h.ans0 gd (O.wk .l) k F1 H1 Ep (Step.refl (gd.sb fun _ z => z.elim)) rfl⟩
      | _ => exact h.elim
    | _ => exact h.elim
theorem t_isN {j pos'} (ha : PE X a (tB (gx X) Wx ma)) : PT X (.Compare a [.Is] [.Constant .none j pos'] pos) (tT (gx X) Wx (mTest (mIsN false ma))) := t_of (t := tIsN _) (pt_cmp (pc_isN ha)) w_isN
theorem t_notN {j pos'} (ha : PE X a (tB (gx X) Wx ma)) : PT X (.Compare a [.IsNot] [.Constant .none j pos'] pos) (tT (gx X) Wx (mTest (mIsN true ma))) := t_of (t := tNotN _) (pt_cmp (pc_notN ha)) w_isN
end
end Fp

set_option Elab.async false
set_option linter.all false
set_option maxRecDepth 100000
set_option maxHeartbeats 4000000
namespace Fp
open PySem PySem.Spec L2
open PyProof.Rows hiding St

/-! ### what a container holds -/
def W.kids : W → Option (List W)
  | .sh (.lst ds) => some (ds.map .sh)
  | .sh (.tup ds) => some (ds.map .sh)
  | .lst ws => some ws
  | .tup ws => some ws
  | _ => none
theorem kids_of {g : G} {F H : Hp} {S : AS} {v : V} {w : W} {ws : List W} (h : OV g F H v w S) (s : Same F H) (e : w.kids = some ws) :
    ∃ a vs T, v = .ref a ∧ (SqL g.K H a vs ∨ SqT g.K H a vs) ∧ OVs g F H vs ws T := by
  cases h with
  | sh dv =>
    cases dv with
    | lst h1 h2 => cases e; exact ⟨_, _, Ep, rfl, .inl (.inl ((Sub.of_same s).rd h1)), h2.ovs⟩
    | tup h1 h2 => cases e; exact ⟨_, _, Ep, rfl, .inr ((Sub.of_same s).sqT h1), h2.ovs⟩
    | _ => cases e
  | lst h1 h2 h3 h4 => cases e; exact ⟨_, _, _, rfl, .inl (.of h2), h4⟩
  | tup h1 h2 h3 h4 => cases e; exact ⟨_, _, _, rfl, .inr (.of h2), h4⟩
  | _ => cases e
theorem OVs.get {g : G} {F H : Hp} : ∀ {vs : List V} {ws : List W} {S : AS} {i : Nat} {w : W}, OVs g F H vs ws S → ws[i]? = some w → ∃ v T, vs[i]? = some v ∧ OV g F H v w T
  | _, _, _, _, _, .nil, e => by simp at e
  | _, _, _, 0, _, .cons _ _ _ h _, e => by
    have e := Option.some.inj e
    subst e
    exact ⟨_, _, rfl, h⟩
  | _, _, _, i + 1, _, .cons _ _ _ _ h, e => OVs.get h (i := i) (by simpa using e)
theorem OVs.length {g : G} {F H : Hp} : ∀ {vs : List V} {ws : List W} {S : AS}, OVs g F H vs ws S → vs.length = ws.length
  | _, _, _, .nil => rfl
  | _, _, _, .cons _ _ _ _ h => by rw [List.length_cons, List.length_cons, OVs.length h]
theorem OVs.atI {g : G} {F H : Hp} {vs : List V} {ws : List W} {S : AS} {i : Int} {w : W} (h : OVs g F H vs ws S) (e : L2.atI ws i = some w) : ∃ v T, L2.atI vs i = some v ∧ OV g F H v w T := by
  unfold L2.atI at e ⊢
  rw [h.length]
  cases q : ixN ws.length i with
  | none => rw [q] at e; cases e
  | some j =>
    rw [q] at e
    obtain ⟨v, T, e1, o⟩ := h.get e
    exact ⟨v, T, e1, o⟩
/-! dicts -/
def alook {α : Type} (kvs : List (NestedKey × α)) (k : NestedKey) : Option α := (kvs.find? fun p => decide (p.1 = k)).map (·.2)
def W.dkids : W → Option (List (NestedKey × W))
  | .sh (.dct kvs) => some (kvs.map fun p => (p.1, .sh p.2))
  | .dct kvs => some kvs
  | _ => none
theorem DKs.oks {g : G} {F H : Hp} : ∀ {kvs : List (NestedKey × V × V)} {ds : List (NestedKey × D)} {S : AS}, DKs g F kvs ds → OKs g F H kvs (ds.map fun p => (p.1, .sh p.2)) S
  | _, _, _, .nil => .nil
  | _, _, _, .cons h0 h1 h2 => .cons (S1 := Ep) (S2 := Ep) (fun _ z => z.elim) (fun _ z => z.elim) (fun _ z _ => z) h0 (.sh h1) (DKs.oks h2)
theorem dkids_of {g : G} {F H : Hp} {S : AS} {v : V} {w : W} {ws : List (NestedKey × W)} (h : OV g F H v w S) (s : Same F H) (e : w.dkids = some ws) :
    ∃ a u kvs T, v = .ref a ∧ Rd H a u ∧ DctIs g a u kvs ∧ OKs g F H kvs ws T := by
  cases h with
  | sh dv =>
    cases dv with
    | dct h1 h2 h3 => cases e; exact ⟨_, _, _, Ep, rfl, (Sub.of_same s).rd h1, h2, h3.oks⟩
    | _ => cases e
  | dct h1 h2 h3 h4 h5 => cases e; exact ⟨_, _, _, _, rfl, .of h2, h3, h5⟩
  | _ => cases e
def keyF : NestedKey → Option Key
  | .num i => some (.inl i)
  | .text s => some (.inr s)
  | _ => none
theorem keyF_nk {k : NestedKey} {key : Key} (e : keyF k = some key) : nk key = k := by
  cases k <;> simp [keyF] at e <;> subst e <;> rfl
theorem nk_inj {a b : Key} (e : nk a = nk b) : a = b := by
  cases a <;> cases b <;> simp [nk] at e <;> rw [e]
/-- flat keys -/
theorem dk_look {g : G} {F H : Hp} : ∀ {l : List (Key × V)} {ws : List (NestedKey × W)} {S : AS} (key : Key), OKs g F H (l.map fun p => (nk p.1, kV p.1, p.2)) ws S →
    match alook ws (nk key) with
    | some w => ∃ v T, valV l key = some v ∧ OV g F H v w T
    | none => valV l key = none
  | [], _, _, key, h => by
    cases h
    rfl
  | (k0, v0) :: r, _, _, key, h => by
    cases h with
    | @cons _ _ _ _ w ws _ _ _ _ _ _ hk hv hr =>
      have ih := dk_look key hr
      by_cases e : k0 = key
      · subst e
        have e1 : alook ((nk k0, w) :: ws) (nk k0) = some w := by simp [alook]
        rw [e1]
        exact ⟨v0, _, by simp [valV], hv⟩
      · have e1 : alook ((nk k0, w) :: ws) (nk key) = alook ws (nk key) := by
          have : ¬ nk k0 = nk key := fun z => e (nk_inj z)
          simp [alook, this]
        have e2 : valV ((k0, v0) :: r) key = valV r key := by simp [valV, e]
        rw [e1, e2]
        exact ih
theorem dKey_flat {g : G} {F : Hp} {v : V} {k : NestedKey} {key : Key} (h : DV g F v (keyD k)) (e2 : keyF k = some key) : v = kV key := by
  cases k <;> simp [keyF] at e2 <;> subst e2 <;> cases h <;> rfl
mutual
theorem dKey_D : ∀ {d : D} {k : NestedKey}, dKey d = some k → keyD k = d
  | .non, _, e => by cases e; rfl
  | .int i, _, e => by cases e; rfl
  | .str s, _, e => by cases e; rfl
  | .tup ds, _, e => by
    simp only [dKey, Option.map_eq_some_iff] at e
    obtain ⟨ks, e, rfl⟩ := e
    simp only [keyD, dKeys_D e]
  | .bl _, _, e => by cases e
  | .lst _, _, e => by cases e
  | .dct _, _, e => by cases e
  | .exn _, _, e => by cases e
theorem dKeys_D : ∀ {d : List D} {k : List NestedKey}, dKeys d = some k → keyDs k = d
  | [], _, e => by cases e; rfl
  | d :: ds, _, e => by
    simp only [dKeys] at e
    split at e
    · rename_i k ks e1 e2
      cases e
      simp only [keyDs, dKey_D e1, dKeys_D e2]
    · cases e
end
def isTup : NestedKey → Bool
  | .tup _ => true
  | _ => false
/-- a key of such a dict -/
def kOk (k0 : Option NestedKey) (k : NestedKey) : Bool := (match k with
  | .tup _ => decide (k.depth ≤ 8)
  | .none => false
  | _ => true) && match k0 with
  | some k0 => isTup k0 == isTup k
  | none => true
def headK {α : Type} (ws : List (NestedKey × α)) : Option NestedKey := ws.head?.map (·.1)

/-! ### keys that are tuples -/
section
variable {X : Cx} {pins : List (Addr × Obj)} {σ : St} {F H : Hp} {s : Shared}
mutual
theorem nested_of (I : Inv X pins σ H s) (sm : Same F H) : ∀ (k : NestedKey) (v : V) (u : Value), DV (gx X) F v (keyD k) → RelV v u → NestedIs s.heap k u
  | .none, _, _, h, r => by cases h; cases r; exact .none
  | .num i, _, _, h, r => by
    cases h
    obtain ⟨t, rfl⟩ := r
    exact .int _ t
  | .text x, _, _, h, r => by
    cases h
    obtain ⟨t, rfl⟩ := r
    exact .text _ t
  | .tup ks, _, _, h, r => by
    simp only [keyD] at h
    cases h with
    | tup h1 h2 =>
      cases r
      obtain ⟨its, rv, ⟨o, e, c, n, dd⟩, _⟩ := I.tuple ((Sub.of_same sm).sqT h1)
      exact .tup e c dd (by simpa using nesteds_of I sm ks _ _ h2 rv)
theorem nesteds_of (I : Inv X pins σ H s) (sm : Same F H) : ∀ (k : List NestedKey) (v : List V) (u : List Value), DVs (gx X) F v (keyDs k) → Vals v u → NestedAll s.heap k u
  | [], _, _, h, r => by
    simp only [keyDs] at h
    cases h; cases r; exact .nil
  | k :: ks, _, _, h, r => by
    simp only [keyDs] at h
    cases h with
    | cons h1 h2 =>
      cases r with
      | cons r1 r2 => exact .cons (nested_of I sm k _ _ h1 r1) (nesteds_of I sm ks _ _ h2 r2)
end
abbrev PL := Paired fun (p : NestedKey × Addr × V) (q : NestedKey × Addr × Value) => p.1 = q.1 ∧ p.2.1 = q.2.1 ∧ RelV p.2.2 q.2.2
abbrev tupL (l : List (NestedKey × Addr × V)) : List (NestedKey × V × V) := l.map fun p => (p.1, .ref p.2.1, p.2.2)
theorem oks_key {g : G} {ws : List (NestedKey × W)} : ∀ {l : List (NestedKey × Addr × V)} {ws : List (NestedKey × W)} {S : AS}, OKs g F H (tupL l) ws S → ∀ p ∈ l, DV g F (.ref p.2.1) (keyD p.1)
  | [], _, _, _, p, hp => by cases hp
  | q :: r, _, _, h, p, hp => by
    cases h with
    | cons h1 h2 h3 h0 h4 h5 =>
      rcases List.mem_cons.mp hp with rfl | hp
      · exact h0
      · exact oks_key (ws := []) h5 p hp
theorem pl_is (I : Inv X pins σ H s) (sm : Same F H) : ∀ {l : List (NestedKey × Addr × V)} {xs : List (NestedKey × Addr × Value)}, PL l xs → (∀ p ∈ l, DV (gx X) F (.ref p.2.1) (keyD p.1)) → (∀ p ∈ l, p.1.depth ≤ 8) → ∀ x ∈ xs, (nestedKind X.prog X.w).is s.heap x.1 x.2.1
  | _, _, .nil, _, _, x, hx => by cases hx
  | _, _, .cons (a := p) (b := q) r t, hk, hd, x, hx => by
    rcases List.mem_cons.mp hx with rfl | hx
    · obtain ⟨e1, e2, _⟩ := r
      rw [← e1, ← e2]
      exact ⟨nested_of I sm _ _ _ (hk _ List.mem_cons_self) rfl, hd _ List.mem_cons_self⟩
    · exact pl_is I sm t (fun p hp => hk p (List.mem_cons_of_mem _ hp)) (fun p hp => hd p (List.mem_cons_of_mem _ hp)) x hx
theorem dn_of {a : Addr} {l : List (NestedKey × Addr × V)} {ws : List (NestedKey × W)} {S : AS} (I : Inv X pins σ H s) (sm : Same F H) (r : Rd H a (DictO (gx X) a l)) (hd : ∀ p ∈ l, p.1.depth ≤ 8) (os : OKs (gx X) F H (tupL l) ws S) :
    (a == sysModules) = false ∧ ∃ xs, PL l xs ∧ s.heap.DictOfH (nestedKind X.prog X.w) a xs := by
  obtain ⟨⟨hs, o, es, ep, xs, h1, h2, h3, h4, h5, h6⟩, _⟩ := r.ok I.hok
  exact ⟨hs, xs, h6, o, es, ep, h1, h2, h3, h4, pl_is I sm h6 (oks_key (ws := []) os) hd, h5⟩
theorem dn_look {g : G} : ∀ {l : List (NestedKey × Addr × V)} {xs : List (NestedKey × Addr × Value)} {ws : List (NestedKey × W)} {S : AS} (k : NestedKey), PL l xs → OKs g F H (tupL l) ws S →
    match alook ws k with
    | some w => ∃ v p T, atKey xs k = some p ∧ RelV v p.2 ∧ OV g F H v w T
    | none => atKey xs k = none
  | _, _, _, _, k, .nil, h => by cases h; rfl
  | _, _, _, _, k, .cons (a := p) (b := q) r t, h => by
    cases h with
    | @cons _ _ _ _ w ws _ _ _ _ _ _ hk hv hr =>
      have ih := dn_look k t hr
      obtain ⟨e1, e2, e3⟩ := r
      by_cases e : p.1 = k
      · have a1 : alook ((p.1, w) :: ws) k = some w := by simp [alook, e]
        rw [a1]
        exact ⟨_, q.2, _, by simp [atKey, ← e1, e], e3, hv⟩
      · have a1 : alook ((p.1, w) :: ws) k = alook ws k := by simp [alook, e]
        have a2 : ∀ xs, atKey (q :: xs) k = atKey xs k := fun xs => by simp [atKey, ← e1, e]
        rw [a1, a2]
        exact ih
/-- the empty dict is both -/
theorem empty_both {a : Addr} (I : Inv X pins σ H s) (e : Rd H a (.dK [])) : (a == sysModules) = false ∧ s.heap.DictOfH (nestedKind X.prog X.w) a [] := by
  obtain ⟨z, hd, vs, rel, o, es, ep, h1, h2, h3, h4, h5, h6⟩ := e.ok I.hok
  cases rel
  refine ⟨hd, o, es, ep, h1, h2, h3, ?_, (fun _ z => by cases z), by simp⟩
  cases h : es.toList with
  | nil => rfl
  | cons x r => rw [h] at h5; cases h5
/-- a dict is asked -/
theorem dct_case {a : Addr} {u : HO} {kv : List (NestedKey × V × V)} {ws : List (NestedKey × W)} {T : AS} {k : NestedKey} (I : Inv X pins σ H s) (sm : Same F H) (r : Rd H a u) (di : DctIs (gx X) a u kv) (os : OKs (gx X) F H kv ws T) (hk : kOk (headK ws) k = true) :
    (∃ l key, u = .dK l ∧ keyF k = some key ∧ kv = l.map fun p => (nk p.1, kV p.1, p.2)) ∨
    (∃ l xs, kv = tupL l ∧ (u = DictO (gx X) a l ∨ (u = .dK [] ∧ l = [])) ∧ l.length ≤ sizeLine ∧ (∀ p ∈ l, p.1.depth ≤ 8) ∧ k.depth ≤ 8 ∧ isTup k = true ∧ (a == sysModules) = false ∧ PL l xs ∧ s.heap.DictOfH (nestedKind X.prog X.w) a xs) := by
  unfold kOk at hk
  rw [Bool.and_eq_true] at hk
  obtain ⟨hk1, hk2⟩ := hk
  cases hkt : isTup k with
  | false =>
    left
    obtain ⟨key, ek⟩ : ∃ key, keyF k = some key := by
      cases k with
      | none => cases hk1
      | num i => exact ⟨_, rfl⟩
      | text x => exact ⟨_, rfl⟩
      | tup ks => cases hkt
    rcases di with ⟨l, rfl, rfl⟩ | ⟨l, rfl, hne, _, hd, rfl⟩
    · exact ⟨l, key, rfl, ek, rfl⟩
    · cases l with
      | nil => exact absurd rfl hne
      | cons p l =>
        exfalso
        cases os with
        | @cons _ _ _ _ w ws _ _ _ _ _ _ h0 hv hr =>
          simp only [headK, List.head?_cons, Option.map_some, hkt] at hk2
          cases e : p.1 with
          | tup ks => rw [e] at hk2; cases hk2
          | none => rw [e] at h0; cases h0
          | num i => rw [e] at h0; cases h0
          | text x => rw [e] at h0; cases h0
  | true =>
    right
    have hdp : k.depth ≤ 8 := by
      cases k with
      | tup ks => exact of_decide_eq_true hk1
      | _ => cases hkt
    rcases di with ⟨l, rfl, rfl⟩ | ⟨l, rfl, hne, hl, hd, rfl⟩
    · cases l with
      | nil =>
        obtain ⟨e1, e2⟩ := empty_both I r
        exact ⟨[], [], rfl, .inr ⟨rfl, rfl⟩, Nat.zero_le _, (fun _ z => by cases z), hdp, rfl, e1, .nil, e2⟩
      | cons p l =>
        exfalso
        cases os with
        | @cons _ _ _ _ w ws _ _ _ _ _ _ h0 hv hr =>
          simp only [headK, List.head?_cons, Option.map_some, hkt] at hk2
          cases e : p.1 with
          | inl i => rw [e] at hk2; cases hk2
          | inr i => rw [e] at hk2; cases hk2
    · obtain ⟨e1, xs, pl, dd⟩ := dn_of I sm r hd os
      exact ⟨l, xs, rfl, .inl rfl, hl, hd, hdp, rfl, e1, pl, dd⟩
end
theorem tailAny {P : Program} {w : World} {A : Around} {E : Value → Shared → Prop} {s : Shared} {value slice : Expr} {o i : Value} {T id : String} {Q : Value → Shared → Prop} (hT : s.TypeIs o T)
    (hl : typeLookup (.type T) "__getitem__" = pure (some (.builtin id))) (h : wpAny (model P w) A (getItem o i) Q E s) (hs : subscripted slice false o i = operate [o, i] (getItem o i)) :
    wpAny (model P w) A (subscriptTail value slice o i) Q E s := by
  unfold subscriptTail
  refine wpAny_bind ?_
  rw [getitemInPython_of_ne hT.not_modules]
  refine wpAny_bind (wpAny_specialOf hT hl ?_)
  have fin : wpAny (model P w) A (subscripted slice false o i) (fun r s₃ => wpAny (model P w) A (letTemporaryGo value o r >>= fun _ => pure r) Q E s₃) E s := by
    rw [hs]
    exact wpAny_operating (wpAny_mono h (fun r s₃ h₃ => wpAny_bind (wpAny_letTemporaryGo (wpAny_pure h₃))) fun _ _ x => x)
  first
    | exact wpAny_pure (wpAny_bind fin)
    | exact wpAny_bind (wpAny_pure (wpAny_bind fin))
    | exact wpAny_bind fin
/-- d[k], by the mirror -/
def rIxG (g : G) : R2 := fun x y H Q => ∃ F S w1 k ws w, Same F H ∧ OV g F H x w1 S ∧ DV g F y (keyD k) ∧ w1.dkids = some ws ∧ kOk (headK ws) k = true ∧ alook ws k = some w ∧ ∀ v T, OV g F H v w T → Q v H
theorem dct_typeIs {X : Cx} {pins : List (Addr × Obj)} {σ : St} {F H : Hp} {s : Shared} {a : Addr} {u : HO} {kv : List (NestedKey × V × V)} (I : Inv X pins σ H s) (r : Rd H a u) (di : DctIs (gx X) a u kv) : s.TypeIs (.ref a) "dict" := by
  rcases di with ⟨l, rfl, rfl⟩ | ⟨l, rfl, _, _, _, rfl⟩
  · obtain ⟨_, _, vs, _, dd⟩ := dk_rd I.hok r
    exact dd.typeIs
  · obtain ⟨⟨hs, o, es, ep, xs, h1, h2, h3, h4, h5, h6⟩, _⟩ := r.ok I.hok
    exact ⟨o, h1, h2.1⟩
theorem room9 {A : Around} (h : A.units + 64 < cLine) : A.in1.units + 8 < cLine := by
  have : A.in1.units = A.units + 1 := Around.in1_units A
  omega
theorem ix_dict {X : Cx} (hu : X.A.units + 64 < cLine) : IxR X (rIxG (gx X)) := by
  intro value slice pins s σ H x y v u Q I rx ry h hs
  obtain ⟨F, S, w1, k, ws, w, sm, o1, dy, e1, e2, e3, q⟩ := h
  obtain ⟨a, uo, kv, T, rfl, r, di, os⟩ := dkids_of o1 sm e1
  obtain rfl : v = Value.ref a := rx
  refine tailAny (dct_typeIs (F := F) I r di) PySem.F.slot_dict_getitem.lookup ?_ hs
  rcases dct_case I sm r di os e2 with ⟨l, key, rfl, ek, rfl⟩ | ⟨l, xs, rfl, hu', hl, hd, hkd, hkt, hs', pl, dd⟩
  · have hy := dKey_flat dy ek
    subst hy
    have hl := dk_look key os
    rw [keyF_nk ek, e3] at hl
    obtain ⟨z, T', e5, ov⟩ := hl
    exact d_getItem (by omega) I (.inl ⟨l, key, r, rfl, e5.symm⟩) ry fun w' s3 I3 rw' => ⟨z, H, I3, rw', q z T' ov⟩
  · have hn := dn_look k pl os
    rw [e3] at hn
    obtain ⟨z, p, T', e4, rz, ov⟩ := hn
    cases k with
    | tup ks =>
      simp only [keyD] at dy
      cases dy with
      | @tup b _ _ h1 h2 =>
        cases (show u = Value.ref b from ry)
        have key := nested_of I sm (.tup ks) (.ref b) (.ref b) (by simp only [keyD]; exact .tup h1 h2) rfl
        exact wpAny_getItem_heap (knd := nestedKind X.prog X.w) (room9 hu) ⟨key, hkd⟩ dd e4 ⟨z, H, I.tok _, rz, q z T' ov⟩
    | _ => cases hkt
def W.look (a : W) (k : D) : Option (Option W) := match a.dkids, dKey k with
  | some ws, some k => if kOk (headK ws) k = true then some (alook ws k) else none
  | _, _ => none
def fIx : W → W → Option W
  | .sh (.str z), .sh (.int i) => if z.length ≤ sizeLine then (atI z.cps.toList i).map fun c => .sh (.str ⟨#[c]⟩) else none
  | a, .sh k => match a.kids with
    | some ws => match k with
      | .int i => atI ws i
      | _ => none
    | none => (a.look k).bind id
  | _, _ => none
abbrev rIx (g : G) : R2 := fun x y H Q => (rIxL g.K x y H Q ∨ rIxT g.K x y H Q) ∨ rIxS x y H Q ∨ rIxG g x y H Q
theorem ix_all {X : Cx} (hu : X.A.units + 64 < cLine) : IxR X (rIx (gx X)) := (ix_list.or ix_tup).or (ix_str.or (ix_dict hu))
theorem ix_told {g : G} {F H : Hp} {S1 S2 : AS} {x y : V} {w1 w2 w : W} {Q : VK} (s : Same F H) (o1 : OV g F H x w1 S1) (o2 : OV g F H y w2 S2) (e : fIx w1 w2 = some w) (q : ∀ v T, OV g F H v w T → Q v H) : rIx g x y H Q := by
  unfold fIx at e
  split at e
  · rename_i z i
    split at e
    · rename_i c
      simp only [Option.map_eq_some_iff] at e
      obtain ⟨k, e, rfl⟩ := e
      cases tup_dv o1
      cases tup_dv o2
      exact .inr (.inl ⟨z, i, k, rfl, rfl, c, e, q _ Ep (.sh (.str _))⟩)
    · cases e
  · rename_i k _
    split at e
    · rename_i ws e1
      split at e
      · rename_i i
        cases tup_dv o2
        obtain ⟨a, vs, T, rfl, r, os⟩ := kids_of o1 s e1
        obtain ⟨v, T', e2, ov⟩ := os.atI e
        rcases r with r | r
        · exact .inl (.inl ⟨a, vs, _, v, rfl, rfl, r, e2, q v T' ov⟩)
        · exact .inl (.inr ⟨a, vs, _, v, rfl, rfl, r, e2, q v T' ov⟩)
      · cases e
    · simp only [Option.bind_eq_some_iff, id] at e
      obtain ⟨o, e, rfl⟩ := e
      unfold W.look at e
      split at e
      · rename_i ws nkk e1 e2
        split at e
        · rename_i c
          refine .inr (.inr ⟨F, S1, w1, nkk, ws, w, s, o1, ?_, e1, c, Option.some.inj e, q⟩)
          rw [dKey_D e2]
          exact tup_dv o2
        · cases e
      · cases e
  · cases e
end Fp

set_option Elab.async false
set_option linter.all false
set_option maxRecDepth 100000
set_option maxHeartbeats 4000000
namespace Fp
open PySem PySem.Spec L2
open PyProof.Rows hiding St

section
variable {X : Cx} {Wx : WX} {a b e : Expr} {es : List Expr} {ma mb m : ER W} {ms : ER (List W)} {pos : Pos} {g : G}
/-! ### subscripts -/
def fIxS (a b : W) : Option W := match fIx a b with
  | some (.sh d) => some (.sh d)
  | _ => none
theorem o2_ix : Op2 g (rIx g) fIxS := by
  intro F H S1 S2 x y w1 w2 w Q s o1 o2 e q
  unfold fIxS at e
  split at e
  · rename_i d e1
    cases e
    refine ix_told s o1 o2 e1 fun v T o => q v F H Ep (stayE s) (.sh (tup_dv o))
  · cases e
theorem e_ix (hu : X.A.units + 64 < cLine) (ha : PE X a (tE (gx X) Wx ma)) (hb : PE X b (tB (gx X) Wx mb)) (hs : PlainIx b) : PE X (.Subscript a b pos) (tE (gx X) Wx (mBin fIxS ma mb)) := peW (pe_ix (ix_all hu) ha hb hs) (w_bin o2_ix)
theorem e_ixV {i : Nat} (hu : X.A.units + 64 < cLine) (ha : PE X a (tVar i)) (hb : PE X b (tB (gx X) Wx mb)) (hs : PlainIx b) : PE X (.Subscript a b pos) (tE (gx X) Wx (mBinV fIxS i mb)) := peW (pe_ix (ix_all hu) ha hb hs) (w_binV o2_ix)
/-! quiet expressions: they change nothing at all -/
def tQ (g : G) (q : Env → Option D) : TE := fun σ H Q => ∃ ρ F S, Good F H S ∧ OSs g F H σ ρ S ∧ ∃ d, q ρ = some d ∧ ∀ v, DV g F v d → Q v H
def qC (d : D) : Env → Option D := fun _ => some d
def qV (i : Nat) : Env → Option D := fun ρ => match ρ[i]? with
  | some (.sh d) => some d
  | _ => none
theorem q_c {e : Expr} {v : V} {d : D} (h : PE X e (tC v)) (hv : ∀ F, DV (gx X) F v d) : PE X e (tQ (gx X) (qC d)) := peW h fun σ H Q q => by
  obtain ⟨ρ, F, S, gd, O, d', e, h⟩ := q
  cases e
  exact h v (hv F)
theorem q_int {i j} : PE X (.Constant (.int i) j pos) (tQ (gx X) (qC (.int i))) := q_c pe_int fun _ => .int i
theorem q_str {x j} : PE X (.Constant (.str x) j pos) (tQ (gx X) (qC (.str x))) := q_c pe_str fun _ => .str x
theorem q_v {i : Nat} (h : PE X e (tVar i)) : PE X e (tQ (gx X) (qV i)) := peW h fun σ H Q q => by
  obtain ⟨ρ, F, S, gd, O, d, e, h⟩ := q
  unfold qV at e
  split at e
  · rename_i d' e1
    cases e
    obtain ⟨v, T, q1, q2⟩ := slotAt O e1 (fun z => by cases z)
    exact ⟨v, q1, h v (tup_dv q2)⟩
  · cases e
def qNeg (q : Env → Option D) : Env → Option D := fun ρ => match q ρ with
  | some (.int i) => some (.int (-i))
  | _ => none
theorem q_neg {q : Env → Option D} (h : PE X a (tQ (gx X) q)) : PE X (.UnaryOp .USub a pos) (tQ (gx X) (qNeg q)) := peW (pe_un un_neg h) fun σ H Q hq => by
  obtain ⟨ρ, F, S, gd, O, d, e, h⟩ := hq
  unfold qNeg at e
  split at e
  · rename_i i e1
    cases e
    refine ⟨ρ, F, S, gd, O, _, e1, fun v dv => ?_⟩
    cases dv
    exact ⟨i, rfl, h _ (.int _)⟩
  · cases e
def qBin (f : W → W → Option W) (p q : Env → Option D) : Env → Option D := fun ρ => match p ρ, q ρ with
  | some a, some b => match f (.sh a) (.sh b) with
    | some (.sh d) => some d
    | _ => none
  | _, _ => none
theorem q_ixS {p q : Env → Option D} (hu : X.A.units + 64 < cLine) (ha : PE X a (tQ (gx X) p)) (hb : PE X b (tQ (gx X) q)) (hs : PlainIx b) : PE X (.Subscript a b pos) (tQ (gx X) (qBin fIx p q)) := peW (pe_ix (ix_all hu) ha hb hs) fun σ H Q hq => by
  obtain ⟨ρ, F, S, gd, O, d, e, h⟩ := hq
  unfold qBin at e
  split at e
  · rename_i da db e1 e2
    split at e
    · rename_i d' e3
      cases e
      exact ⟨ρ, F, S, gd, O, _, e1, fun v dv => ⟨ρ, F, S, gd, O, _, e2, fun u du => ix_told (S1 := Ep) (S2 := Ep) gd.same (.sh dv) (.sh du) e3 fun z T o => h z (tup_dv o)⟩⟩
    · cases e
  · cases e
theorem e_q {q : Env → Option D} (h : PE X e (tQ (gx X) q)) : PE X e (tE (gx X) Wx fun ρ => match q ρ with
  | some d => .ok (.sh d) ρ
  | none => .bad) := peW h fun σ H Q hq => by
  obtain ⟨ρ, F, S, gd, O, h⟩ := hq
  cases e1 : q ρ with
  | none => simp only [e1] at h; exact h.elim
  | some d =>
    simp only [e1] at h
    exact ⟨ρ, F, S, gd, O, d, e1, fun v dv => h.ans0 gd O v F H Ep (stayE gd.same) (.sh dv)⟩
/-- looked at further, by a quiet index -/
def mIxQ (ma : ER W) (q : Env → Option D) : ER W := bnd ma fun a => fun ρ => match (q ρ).bind fun d => fIx a (.sh d) with
  | some w => .ok w ρ
  | none => .bad
theorem b_ixQ {q : Env → Option D} (hu : X.A.units + 64 < cLine) (ha : PE X a (tB (gx X) Wx ma)) (hb : PE X b (tQ (gx X) q)) (hs : PlainIx b) : PE X (.Subscript a b pos) (tB (gx X) Wx (mIxQ ma q)) := peW (pe_ix (ix_all hu) ha hb hs) fun σ H Q hq => by
  refine tG_bind (R := RBor (gx X)) hq fun wa ρ1 v1 F1 H1 S1 T1 d1 gd O r1 h => ?_
  obtain ⟨sm, T, r1⟩ := r1
  cases e : (q ρ1).bind fun d => fIx wa (.sh d) with
  | none => simp only [e] at h; exact h.elim
  | some w =>
    simp only [e] at h
    obtain ⟨d, e1, e2⟩ := Option.bind_eq_some_iff.mp e
    refine ⟨ρ1, F1, S1, gd.sb .l, O, d, e1, fun u du => ix_told (S2 := Ep) sm r1 (.sh du) e2 fun z T' o => ?_⟩
    exact h.ans0 gd (O.wk .l) z F1 H1 Ep (stayE sm) ⟨sm, T', o⟩
/-! ### displays -/
def mCons (m : ER W) (ms : ER (List W)) : ER (List W) := bnd m fun w => bnd ms fun ws => rt (w :: ws)
theorem a_nil : PA X [] (tA (gx X) Wx (rt [])) := paW pa_nil fun σ H Q q => by
  obtain ⟨ρ, F, S, gd, O, h⟩ := q
  exact h.ans0 gd O [] F H Ep (Step.refl (gd.sb fun _ z => z.elim)) .nil
theorem w_cons : ∀ σ H Q, tA (gx X) Wx (mCons m ms) σ H Q → tCons (tE (gx X) Wx m) (tA (gx X) Wx ms) σ H Q := fun σ H Q q => by
  refine tG_bind (R2 := OVs (gx X)) q fun wa ρ1 v1 F1 H1 S1 T1 d1 gd O r1 h => ?_
  refine ResP.bind (R := OVs (gx X)) h d1 gd O fun wb ρ2 v2 F2 H2 S2 T2 d2 d3 gd2 sb k O2 r2 h2 => ?_
  have gd3 : Good F2 H2 (U S2 (U T1 T2)) := gd2.sb (Sb.u (Sb.l.trans .l) (Sb.u .r (Sb.r.trans .l)))
  have st : Step F2 (U (U S2 T2) T1) H2 F2 H2 (U S2 (U T1 T2)) := (Step.refl gd2).sb (Sb.u (Sb.l.trans .l) (Sb.u .r (Sb.r.trans .l)))
  refine h2 (v1 :: v2) F2 H2 S2 (U T1 T2) (fun x z z' => ?_) st O2 (.cons .l .r (fun x z z' => d3 x (.inr z') z) (r1.mono sb k) r2)
  rcases z' with z' | z'
  · exact d3 x (.inl z) z'
  · exact d2 x z z'
theorem a_cons (ha : PE X e (tE (gx X) Wx m)) (hr : PA X es (tA (gx X) Wx ms)) (hs : starEach (e :: es) X.env = (false, eval e X.env) :: starEach es X.env := by rfl) : PA X (e :: es) (tA (gx X) Wx (mCons m ms)) := paW (pa_cons ha hr hs) w_cons
def mTup (ms : ER (List W)) : ER W := bnd ms fun ws => if ws.length ≤ 1000 then (match shs ws with
  | some ds => rt (.sh (.tup ds))
  | none => rt (.tup ws)) else bad
theorem le1000 {n : Nat} (h : n ≤ 1000) : n ≤ sizeLine := Nat.le_trans h (by decide)
theorem w_tup : ∀ σ H Q, tE (gx X) Wx (mTup ms) σ H Q → tTup (tA (gx X) Wx ms) σ H Q := fun σ H Q q => by
  refine tG_bind (R2 := OV (gx X)) q fun ws ρ1 vs F1 H1 S1 T1 d1 gd O r h => ?_
  by_cases c : ws.length ≤ 1000
  · simp only [if_pos c] at h
    refine ⟨by rw [r.length]; exact le1000 c, fun p n => ?_⟩
    cases e : shs ws with
    | some ds =>
      simp only [e] at h
      obtain ⟨st, ov⟩ := newT gd.same n (shs_dv r e)
      exact h.ans0 gd (O.wk .l) _ _ _ _ st ov
    | none =>
      simp only [e] at h
      have st := (Step.new (o := .tup vs) (gd.sb .r) n)
      refine h.ans d1 gd O _ _ _ _ st (.tup (T := T1) (.inr rfl) upd_same (fun b z => ⟨.inl z, fun z' => ?_⟩) (r.mono (.refl _) fun b z => ?_))
      · subst z'; exact gd.nin n (.inr z)
      · exact upd_ne fun z' => by subst z'; exact gd.nin n (.inr z)
  · simp only [if_neg c] at h; exact h.elim
theorem e_tup {k} (h : PA X es (tA (gx X) Wx ms)) : PE X (.Tuple es k pos) (tE (gx X) Wx (mTup ms)) := peW (pe_tup h) w_tup
def mLst (ms : ER (List W)) : ER W := bnd ms fun ws => if ws.length ≤ 1000 then rt (.lst ws) else bad
theorem w_lst : ∀ σ H Q, tE (gx X) Wx (mLst ms) σ H Q → tLst (tA (gx X) Wx ms) σ H Q := fun σ H Q q => by
  refine tG_bind (R2 := OV (gx X)) q fun ws ρ1 vs F1 H1 S1 T1 d1 gd O r h => ?_
  by_cases c : ws.length ≤ 1000
  · simp only [if_pos c] at h
    refine ⟨by rw [r.length]; exact le1000 c, fun p n => ?_⟩
    have st := (Step.new (o := .lst vs) (gd.sb .r) n)
    refine h.ans d1 gd O _ _ _ _ st (.lst (T := T1) (.inr rfl) upd_same (fun b z => ⟨.inl z, fun z' => ?_⟩) (r.mono (.refl _) fun b z => ?_))
    · subst z'; exact gd.nin n (.inr z)
    · exact upd_ne fun z' => by subst z'; exact gd.nin n (.inr z)
  · simp only [if_neg c] at h; exact h.elim
theorem e_lst (h : PA X es (tA (gx X) Wx ms)) : PE X (.List es pos) (tE (gx X) Wx (mLst ms)) := peW (pe_lst h) w_lst
theorem e_dict0 : PE X (.Dict [] [] pos) (tE (gx X) Wx (rt (.dct []))) := peW pe_dnewK fun σ H Q q => by
  obtain ⟨ρ, F, S, gd, O, h⟩ := q
  intro p n
  refine h.ans0 gd O _ _ _ _ ((Step.new (o := .dK []) (gd.sb fun _ z => z.elim) n).sb .r) (.dct (T := Ep) (kvs := []) rfl upd_same (.inl ⟨[], rfl, rfl⟩) (fun _ z => z.elim) .nil)
/-! ### slices -/
def tO (g : G) (Wx : WX) (m : ER (Option Int)) : TO := tG (fun _ _ b a _ => b = a) g Wx m
def cutL {α : Type} (xs : List α) (lo hi : Option Int) : List α := (xs.drop (HT.sIx xs.length 0 lo)).take (HT.sIx xs.length xs.length hi - HT.sIx xs.length 0 lo)
theorem o_none : PO X none (tO (gx X) Wx (rt none)) := ⟨fun pins s σ H Q I q => po_none.run pins s σ H Q I (by
  obtain ⟨ρ, F, S, gd, O, h⟩ := q
  exact h.ans0 gd O none F H Ep (stayE gd.same) rfl)⟩
def mPart (m : ER W) : ER (Option Int) := bnd m fun w => match w with
  | .sh (.int i) => rt (some i)
  | _ => bad
theorem o_some (h : PE X e (tB (gx X) Wx m)) : PO X (some e) (tO (gx X) Wx (mPart m)) := ⟨fun pins s σ H Q I q => (po_some h).run pins s σ H Q I (by
  refine tG_bind (R2 := fun _ _ b a _ => b = a) q fun w ρ1 v F1 H1 S1 T1 d1 gd O r h => ?_
  obtain ⟨sm, T, r⟩ := r
  cases w with
  | sh d =>
    cases d with
    | int i =>
      cases tup_dv r
      exact ⟨i, rfl, h.ans0 gd (O.wk .l) (some i) F1 H1 Ep (stayE sm) rfl⟩
    | _ => exact h.elim
  | _ => exact h.elim)⟩
def fSl (a : W) (lo hi : Option Int) : Option W := match a with
  | .sh (.str z) => if z.length ≤ sizeLine then some (.sh (.str (cutS z lo hi))) else none
  | .sh (.tup ds) => some (.sh (.tup (cutL ds lo hi)))
  | a => a.items.map fun ds => .lst ((cutL ds lo hi).map .sh)
def rSl (K : PySem.W.Frag) : V → Option Int → Option Int → Hp → VK → Prop := fun x lo hi H Q => (rSlL K x lo hi H Q ∨ rSlA K x lo hi H Q) ∨ rSlS x lo hi H Q
theorem sl_all : SlR X (rSl X.K) := (sl_list.or sl_tupA).or sl_str
theorem sl_told {F H : Hp} {S : AS} {x : V} {w1 w : W} {lo hi : Option Int} {Q : VK} (s : Same F H) (o1 : OV g F H x w1 S) (e : fSl w1 lo hi = some w) (q : ∀ v F' H' T, Step F Ep H F' H' T → OV g F' H' v w T → Q v H') : rSl g.K x lo hi H Q := by
  unfold fSl at e
  split at e
  · rename_i z
    split at e
    · rename_i c
      cases e
      cases tup_dv o1
      exact .inr ⟨z, rfl, c, q _ F H Ep (stayE s) (.sh (.str _))⟩
    · cases e
  · rename_i ds
    cases e
    have dv := tup_dv o1
    obtain ⟨a, vs, rfl, r, d⟩ := tup_of o1 s rfl
    refine .inl (.inr ⟨a, vs, rfl, r, fun hw => ?_, fun hw p n => ?_⟩)
    · have : cutL ds lo hi = ds := by
        unfold cutL
        rw [← d.length, hw.1, hw.2]
        simp
        exact List.take_of_length_le (by rw [d.length]; exact Nat.le_refl _)
      rw [this] at q
      exact q _ F H Ep (stayE s) (.sh dv)
    · obtain ⟨st, ov⟩ := newT s n ((d.drop (HT.sIx vs.length 0 lo)).take (HT.sIx vs.length vs.length hi - HT.sIx vs.length 0 lo))
      unfold cutL at q
      rw [← d.length] at q
      exact q _ _ _ _ st ov
  · simp only [Option.map_eq_some_iff] at e
    obtain ⟨ds, e, rfl⟩ := e
    obtain ⟨a, vs, rfl, r, d⟩ := lst_of o1 s e
    refine .inl (.inl ⟨a, vs, rfl, .inl r, fun p n => ?_⟩)
    obtain ⟨st, ov⟩ := newL s n ((d.drop (HT.sIx vs.length 0 lo)).take (HT.sIx vs.length vs.length hi - HT.sIx vs.length 0 lo))
    unfold cutL at q
    rw [← d.length] at q
    exact q _ _ _ _ st ov
def mSl (ma : ER W) (ml mh : ER (Option Int)) : ER W := bnd ma fun a => bnd ml fun lo => bnd mh fun hi => opt (fSl a lo hi)
theorem e_sl {lo hi : Option Expr} {ml mh : ER (Option Int)} {p2 : Pos} (ha : PE X a (tE (gx X) Wx ma)) (hl : PO X lo (tO (gx X) Wx ml)) (hh : PO X hi (tO (gx X) Wx mh)) : PE X (.Subscript a (.Slice lo hi none p2) pos) (tE (gx X) Wx (mSl ma ml mh)) :=
  peW (pe_slice sl_all ha hl hh) fun σ H Q q => by
    refine tG_bind (R2 := OV (gx X)) q fun wa ρ1 v1 F1 H1 S1 T1 d1 gd O r1 h => ?_
    refine ResP.bind (R := fun _ _ b a _ => b = a) h d1 gd O fun wl ρ2 l F2 H2 S2 T2 d2 d3 gd2 sb k O2 r2 h2 => ?_
    subst r2
    have gd2' : Good F2 H2 (U S2 T1) := gd2.sb (Sb.u (Sb.l.trans .l) .r)
    have h2' := ResP.step (S2 := U S2 T1) gd2 ((Step.refl gd2).sb (Sb.u (Sb.l.trans .l) .r)) h2
    refine ResP.bind (R := fun _ _ b a _ => b = a) h2' (fun x z z' => d3 x (.inl z) z') gd2' O2 fun wh ρ3 hh F3 H3 S3 T3 d4 d5 gd3 sb2 k2 O3 r3 h3 => ?_
    subst r3
    unfold opt at h3
    cases e : fSl wa l hh with
    | none => simp only [e] at h3; exact h3.elim
    | some w =>
      simp only [e] at h3
      exact sl_told gd3.same ((r1.mono sb k).mono sb2 k2) e (h3.ans0 gd3 (O3.wk (Sb.l.trans .l)))
end
end Fp

set_option Elab.async false
set_option linter.all false
set_option maxRecDepth 100000
set_option maxHeartbeats 4000000
namespace Fp
open PySem PySem.Spec L2
open PyProof.Rows hiding St

theorem pwW {X : Cx} {e : Expr} {t t' : TT} (h : PW X e t) (k : ∀ σ H Q, t' σ H Q → t σ H Q) : PW X e t' := ⟨fun w pins s σ H Q I q => h.run w pins s σ H Q I (k σ H Q q)⟩
section
variable {X : Cx} {Wx : WX} {a b e c : Expr} {es : List Expr} {ma mb m : ER W} {p q : ER Bool} {ms : ER (List W)} {pos : Pos} {g : G} {rest : List Expr}
/-! ### tests -/
def mAnd (p q : ER Bool) : ER Bool := bnd p fun b => if b then q else rt false
def mOr (p q : ER Bool) : ER Bool := bnd p fun b => if b then rt true else q
def mNot (p : ER Bool) : ER Bool := bnd p fun b => rt (!b)
theorem resT {F H : Hp} {S T : AS} {σ : St} {ρ : Env} {m : ER Bool} {Q : Bool → Hp → Prop} (h : ResP RB g Wx σ F S H (m ρ) Q) (gd : Good F H S) (sb : Sb T S) (O : OSs g F H σ ρ T) : tT g Wx m σ H Q :=
  ⟨ρ, F, S, gd, O.wk sb, h⟩
theorem w_and1 (ha : PT X a (tT (gx X) Wx p)) : PW X (.BoolOp .And [a] pos) (tT (gx X) Wx p) := pw_and1 ha
theorem w_or1 (ha : PT X a (tT (gx X) Wx p)) : PW X (.BoolOp .Or [a] pos) (tT (gx X) Wx p) := pw_or1 ha
theorem w_and (ha : PT X a (tT (gx X) Wx p)) (hb : PW X (.BoolOp .And (b :: rest) pos) (tT (gx X) Wx q)) : PW X (.BoolOp .And (a :: b :: rest) pos) (tT (gx X) Wx (mAnd p q)) := pwW (pw_and ha hb) fun σ H Q h => by
  refine tG_bind (R2 := RB) h fun k ρ1 k' F1 H1 S1 T1 d1 gd O r h => ?_
  cases r
  cases k with
  | true => exact resT h gd .l O
  | false => exact h.ans0 gd (O.wk .l) false F1 H1 Ep (stayE gd.same) rfl
theorem w_or (ha : PT X a (tT (gx X) Wx p)) (hb : PW X (.BoolOp .Or (b :: rest) pos) (tT (gx X) Wx q)) : PW X (.BoolOp .Or (a :: b :: rest) pos) (tT (gx X) Wx (mOr p q)) := pwW (pw_or ha hb) fun σ H Q h => by
  refine tG_bind (R2 := RB) h fun k ρ1 k' F1 H1 S1 T1 d1 gd O r h => ?_
  cases r
  cases k with
  | false => exact resT h gd .l O
  | true => exact h.ans0 gd (O.wk .l) true F1 H1 Ep (stayE gd.same) rfl
theorem t_w (h : PW X e (tT (gx X) Wx p)) : PT X e (tT (gx X) Wx p) := h.pt
theorem t_not (ha : PT X a (tT (gx X) Wx p)) : PT X (.UnaryOp .Not a pos) (tT (gx X) Wx (mNot p)) := ptW (pt_not ha) fun σ H Q h => by
  refine tG_bind (R2 := RB) h fun k ρ1 k' F1 H1 S1 T1 d1 gd O r h => ?_
  cases r
  exact h.ans0 gd (O.wk .l) (!k) F1 H1 Ep (stayE gd.same) rfl
/-! and, or, not of truths as values -/
def mAndV (ma mb : ER W) : ER W := bnd (mTest ma) fun b => if b then mb else rt (.sh (.bl false))
def mOrV (ma mb : ER W) : ER W := bnd (mTest ma) fun b => if b then rt (.sh (.bl true)) else mb
def mNotV (ma : ER W) : ER W := bnd (mTest ma) fun b => rt (.sh (.bl (!b)))
theorem resE {F H : Hp} {S T : AS} {σ : St} {ρ : Env} {m : ER W} {Q : VK} (h : ResP (OV g) g Wx σ F S H (m ρ) Q) (gd : Good F H S) (sb : Sb T S) (O : OSs g F H σ ρ T) : tE g Wx m σ H Q :=
  ⟨ρ, F, S, gd, O.wk sb, h⟩
theorem bnd_assoc {α β γ : Type} {m : ER α} {f : α → ER β} {h : β → ER γ} : bnd (bnd m f) h = bnd m fun a => bnd (f a) h := by
  funext ρ
  unfold bnd
  cases m ρ <;> rfl
theorem w_bool {f : Bool → ER W} : ∀ σ H Q, tE (gx X) Wx (bnd (mTest ma) f) σ H Q → ∀ Q1 : VK, (∀ k ρ1 F1 H1 S1, Good F1 H1 S1 → OSs (gx X) F1 H1 σ ρ1 S1 → ResP (OV (gx X)) (gx X) Wx σ F1 S1 H1 (f k ρ1) Q → Q1 (.bl k) H1) → tE (gx X) Wx ma σ H Q1 := fun σ H Q h Q1 hk => by
  unfold mTest at h
  rw [bnd_assoc] at h
  refine tG_bind (R2 := OV (gx X)) h fun k ρ1 k' F1 H1 S1 T1 d1 gd O r h => ?_
  cases k with
  | sh d =>
    cases d with
    | bl k =>
      cases r with
      | sh dv =>
        cases dv
        exact hk k ρ1 F1 H1 (U S1 T1) gd (O.wk .l) h
    | _ => exact h.elim
  | _ => exact h.elim
theorem e_one {op} (h : PE X a (tE (gx X) Wx ma)) : PE X (.BoolOp op [a] pos) (tE (gx X) Wx ma) := pe_one h
theorem e_and (ha : PE X a (tE (gx X) Wx ma)) (hb : PE X (.BoolOp .And (b :: rest) pos) (tE (gx X) Wx mb)) : PE X (.BoolOp .And (a :: b :: rest) pos) (tE (gx X) Wx (mAndV ma mb)) := peW (pe_and ha hb) fun σ H Q h => by
  refine w_bool σ H Q h _ fun k ρ1 F1 H1 S1 gd O h => ⟨k, rfl, ?_⟩
  cases k with
  | true => exact resE h gd (.refl _) O
  | false => exact h.ans0 gd O _ F1 H1 Ep (stayE gd.same) (.sh (.bl false))
theorem e_or (ha : PE X a (tE (gx X) Wx ma)) (hb : PE X (.BoolOp .Or (b :: rest) pos) (tE (gx X) Wx mb)) : PE X (.BoolOp .Or (a :: b :: rest) pos) (tE (gx X) Wx (mOrV ma mb)) := peW (pe_or ha hb) fun σ H Q h => by
  refine w_bool σ H Q h _ fun k ρ1 F1 H1 S1 gd O h => ⟨k, rfl, ?_⟩
  cases k with
  | false => exact resE h gd (.refl _) O
  | true => exact h.ans0 gd O _ F1 H1 Ep (stayE gd.same) (.sh (.bl true))
theorem e_not (ha : PE X a (tE (gx X) Wx ma)) : PE X (.UnaryOp .Not a pos) (tE (gx X) Wx (mNotV ma)) := peW (pe_not ha) fun σ H Q h => by
  refine w_bool σ H Q h _ fun k ρ1 F1 H1 S1 gd O h => ⟨k, rfl, ?_⟩
  exact h.ans0 gd O _ F1 H1 Ep (stayE gd.same) (.sh (.bl (!k)))
/-! a if t else b -/
def mIf (p : ER Bool) (ma mb : ER W) : ER W := bnd p fun k => if k then ma else mb
theorem e_if (hc : PT X c (tT (gx X) Wx p)) (ha : PE X a (tE (gx X) Wx ma)) (hb : PE X b (tE (gx X) Wx mb)) : PE X (.IfExp c a b pos) (tE (gx X) Wx (mIf p ma mb)) := peW (pe_ifExp hc ha hb) fun σ H Q h => by
  refine tG_bind (R2 := OV (gx X)) h fun k ρ1 k' F1 H1 S1 T1 d1 gd O r h => ?_
  cases r
  cases k with
  | true => exact resE h gd .l O
  | false => exact resE h gd .l O
/-! ### one operand -/
def Op1 (g : G) (r : V → Hp → VK → Prop) (f : W → Option W) : Prop := ∀ (F H : Hp) (S : AS) (x : V) (w1 w : W) (Q : VK), Same F H → OV g F H x w1 S → f w1 = some w → (∀ v F' H' T, Step F Ep H F' H' T → OV g F' H' v w T → Q v H') → r x H Q
def m1 (f : W → Option W) (m : ER W) : ER W := bnd m fun a => opt (f a)
theorem w_1 {r : V → Hp → VK → Prop} {f : W → Option W} (ho : Op1 (gx X) r f) : ∀ σ H Q, tE (gx X) Wx (m1 f m) σ H Q → tB (gx X) Wx m σ H fun x H1 => r x H1 Q := fun σ H Q h => by
  refine tG_bind (R2 := OV (gx X)) h fun w ρ1 v F1 H1 S1 T1 d1 gd O r h => ?_
  obtain ⟨sm, T, r⟩ := r
  unfold opt at h
  cases e : f w with
  | none => rw [e] at h; exact h.elim
  | some w' =>
    rw [e] at h
    exact ho F1 H1 T v w w' Q sm r e (h.ans0 gd (O.wk .l))
theorem e_un {op : UnaryOp} {r : V → Hp → VK → Prop} {f : W → Option W} (hr : UnR X (unaryOp op) r) (ho : Op1 (gx X) r f) (ha : PE X a (tB (gx X) Wx ma)) : PE X (.UnaryOp op a pos) (tE (gx X) Wx (m1 f ma)) := peW (pe_un hr ha) (w_1 ho)
def fNeg : W → Option W
  | .sh (.int i) => some (.sh (.int (-i)))
  | _ => none
theorem o1_neg : Op1 g (rU fun i => .int (-i)) fNeg := by
  intro F H S x w1 w Q s o e q
  unfold fNeg at e
  split at e
  · rename_i i
    cases e
    cases tup_dv o
    exact ⟨i, rfl, q _ F H Ep (stayE s) (.sh (.int _))⟩
  · cases e
theorem e_callB {x : Str} {id : String} {p : Pos} {r : List V → Hp → VK → Prop} {f : W → Option W} (hc : CallR X (.builtin id) r) (ho : Op1 (gx X) (fun x H Q => r [x] H Q) f) (hg : Gl X x) (hm : X.mg x = none) (hv : bootBuiltins x = some (.builtin id)) (ha : PE X e (tB (gx X) Wx m)) (hn : x ≠ "__name__" := by decide) (hdb : (x == ("__debug__" : Str)) = false := by decide)
    (he : starEach [e] X.env = (false, eval e X.env) :: starEach [] X.env := by rfl) (hpl : (backTo pos (starEach [] X.env)).any (·.1) = false := by rfl) : PE X (.Call (.Name x p) [e] [] pos) (tE (gx X) Wx (m1 f m)) :=
  peW (pe_callB hc hg hm hv (pa_cons ha pa_nil he) hn hdb he hpl) (w_1 ho)
theorem e_callTy {x : Str} {T : String} {p : Pos} {r : List V → Hp → VK → Prop} {f : W → Option W} (hc : CallR X (.type T) r) (ho : Op1 (gx X) (fun x H Q => r [x] H Q) f) (hg : Gl X x) (hm : X.mg x = none) (hv : bootBuiltins x = some (.type T)) (ha : PE X e (tB (gx X) Wx m)) (hn : x ≠ "__name__" := by decide) (hdb : (x == ("__debug__" : Str)) = false := by decide)
    (he : starEach [e] X.env = (false, eval e X.env) :: starEach [] X.env := by rfl) (hpl : (backTo pos (starEach [] X.env)).any (·.1) = false := by rfl) : PE X (.Call (.Name x p) [e] [] pos) (tE (gx X) Wx (m1 f m)) :=
  peW (pe_callTy hc hg hm hv (pa_cons ha pa_nil he) hn hdb he hpl) (w_1 ho)
theorem e_callB2 {x : Str} {id : String} {p : Pos} {r : List V → Hp → VK → Prop} {f : W → W → Option W} (hc : CallR X (.builtin id) r) (ho : Op2 (gx X) (fun x y H Q => r [x, y] H Q) f) (hg : Gl X x) (hm : X.mg x = none) (hv : bootBuiltins x = some (.builtin id)) (ha : PE X a (tE (gx X) Wx ma)) (hb : PE X b (tB (gx X) Wx mb)) (hn : x ≠ "__name__" := by decide) (hdb : (x == ("__debug__" : Str)) = false := by decide)
    (he : starEach [a, b] X.env = (false, eval a X.env) :: starEach [b] X.env := by rfl) (he2 : starEach [b] X.env = (false, eval b X.env) :: starEach [] X.env := by rfl) (hpl : (backTo pos (starEach [b] X.env)).any (·.1) = false := by rfl) : PE X (.Call (.Name x p) [a, b] [] pos) (tE (gx X) Wx (mBin f ma mb)) :=
  peW (pe_callB hc hg hm hv (pa_cons ha (pa_cons hb pa_nil he2) he) hn hdb he hpl) (w_bin ho)
theorem call_or {v : Value} {r r' : List V → Hp → VK → Prop} (h : CallR X v r) (h' : CallR X v r') : CallR X v (fun xs H Q => r xs H Q ∨ r' xs H Q) := fun pins s σ H xs us Q I rx q => q.elim (h pins s σ H xs us Q I rx) (h' pins s σ H xs us Q I rx)
theorem Op1.or {r r' : V → Hp → VK → Prop} {f f' : W → Option W} (h : Op1 g r f) (h' : Op1 g r' f') : Op1 g (fun x H Q => r x H Q ∨ r' x H Q) (fun a => match f a with
    | some w => some w
    | none => f' a) := fun F H S x w1 w Q s o e k => by
  cases q : f w1 with
  | some w' =>
    simp only [q] at e
    exact .inl (h F H S x w1 w Q s o (q.trans e) k)
  | none =>
    simp only [q] at e
    exact .inr (h' F H S x w1 w Q s o e k)
/-! len -/
def fLen0 : W → Option W
  | .sh (.str z) => if z.length ≤ sizeLine then some (.sh (.int z.length)) else none
  | w => w.kids.map fun ws => .sh (.int ws.length)
theorem o1_len : Op1 g (fun x H Q => ∃ x' n, [x] = [x'] ∧ LenV g.K x' H n ∧ Q (.int n) H) fLen0 := by
  intro F H S x w1 w Q s o e q
  unfold fLen0 at e
  split at e
  · rename_i z
    split at e
    · rename_i c
      cases e
      cases tup_dv o
      exact ⟨_, z.length, rfl, ⟨c, rfl⟩, q _ F H Ep (stayE s) (.sh (.int _))⟩
    · cases e
  · simp only [Option.map_eq_some_iff] at e
    obtain ⟨ws, e, rfl⟩ := e
    obtain ⟨a, vs, T, rfl, r, os⟩ := kids_of o s e
    refine ⟨_, vs.length, rfl, ?_, by rw [os.length]; exact q _ F H Ep (stayE s) (.sh (.int _))⟩
    exact r.elim (fun r => .inl ⟨vs, r, rfl⟩) fun r => .inr ⟨vs, r, rfl⟩
/-! int(..), str(..) -/
def fInt : W → Option W
  | .sh (.int i) => some (.sh (.int i))
  | .sh (.bl k) => some (.sh (.int (if k then 1 else 0)))
  | .sh (.str a) => if a.length ≤ 640 then (PySem.intText? a).map fun n => .sh (.int n) else none
  | _ => none
abbrev rInt : List V → Hp → VK → Prop := fun xs H Q => ((∃ i, xs = [.int i] ∧ Q (.int i) H) ∨ ∃ k, xs = [.bl k] ∧ Q (.int (if k then 1 else 0)) H) ∨ ∃ a n, xs = [.str a] ∧ PySem.intText? a = some n ∧ a.length ≤ 640 ∧ Q (.int n) H
theorem o1_int : Op1 g (fun x H Q => rInt [x] H Q) fInt := by
  intro F H S x w1 w Q s o e q
  unfold fInt at e
  split at e
  · cases e
    cases tup_dv o
    exact .inl (.inl ⟨_, rfl, q _ F H Ep (stayE s) (.sh (.int _))⟩)
  · cases e
    cases tup_dv o
    exact .inl (.inr ⟨_, rfl, q _ F H Ep (stayE s) (.sh (.int _))⟩)
  · split at e
    · rename_i c
      simp only [Option.map_eq_some_iff] at e
      obtain ⟨n, e, rfl⟩ := e
      cases tup_dv o
      exact .inr ⟨_, n, rfl, e, c, q _ F H Ep (stayE s) (.sh (.int _))⟩
    · cases e
  · cases e
theorem cr_int : CallR X (.type "int") rInt := call_or call_int1 call_int_str
def fStr : W → Option W
  | .sh (.int i) => if i.natAbs.log2 < 1920 then some (.sh (.str (toString i))) else none
  | .sh (.str a) => some (.sh (.str a))
  | _ => none
abbrev rStr : List V → Hp → VK → Prop := fun xs H Q => (∃ i, xs = [.int i] ∧ i.natAbs.log2 < 1920 ∧ Q (.str (toString i)) H) ∨ ∃ a, xs = [.str a] ∧ Q (.str a) H
theorem o1_str : Op1 g (fun x H Q => rStr [x] H Q) fStr := by
  intro F H S x w1 w Q s o e q
  unfold fStr at e
  split at e
  · split at e
    · rename_i c
      cases e
      cases tup_dv o
      exact .inl ⟨_, rfl, c, q _ F H Ep (stayE s) (.sh (.str _))⟩
    · cases e
  · cases e
    cases tup_dv o
    exact .inr ⟨_, rfl, q _ F H Ep (stayE s) (.sh (.str _))⟩
  · cases e
theorem cr_str : CallR X (.type "str") rStr := call_or call_str_int SkE.call_str_str
/-! tuple(..), list(..) -/
def fTuple : W → Option W
  | .sh (.tup ds) => some (.sh (.tup ds))
  | w => w.items.map fun ds => .sh (.tup ds)
theorem o1_tuple : Op1 g (fun x H Q => ∃ p ys, [x] = [.ref p] ∧ ((SqL g.K H p ys ∧ ∀ l, H l = none → Q (.ref l) (upd H l (.tup ys))) ∨ (SqT g.K H p ys ∧ Q (.ref p) H))) fTuple := by
  intro F H S x w1 w Q s o e q
  unfold fTuple at e
  split at e
  · cases e
    have dv := tup_dv o
    obtain ⟨a, vs, rfl, r, d⟩ := tup_of o s rfl
    exact ⟨a, vs, rfl, .inr ⟨r, q _ F H Ep (stayE s) (.sh dv)⟩⟩
  · simp only [Option.map_eq_some_iff] at e
    obtain ⟨ds, e, rfl⟩ := e
    obtain ⟨a, vs, rfl, r, d⟩ := lst_of o s e
    refine ⟨a, vs, rfl, .inl ⟨.inl r, fun p n => ?_⟩⟩
    obtain ⟨st, ov⟩ := newT s n d
    exact q _ _ _ _ st ov
def fList (w : W) : Option W := w.any.map fun ds => .lst (ds.map .sh)
theorem o1_list : Op1 g (fun x H Q => ∃ p ys, [x] = [.ref p] ∧ (SqL g.K H p ys ∨ SqT g.K H p ys) ∧ ∀ l, H l = none → Q (.ref l) (upd H l (.lst ys))) fList := by
  intro F H S x w1 w Q s o e q
  unfold fList at e
  simp only [Option.map_eq_some_iff] at e
  obtain ⟨ds, e, rfl⟩ := e
  obtain ⟨a, vs, rfl, r, d⟩ := any_of o s e
  refine ⟨a, vs, rfl, r, fun p n => ?_⟩
  obtain ⟨st, ov⟩ := newL s n d
  exact q _ _ _ _ st ov
end
end Fp

set_option Elab.async false
set_option linter.all false
set_option maxRecDepth 100000
set_option maxHeartbeats 4000000
namespace Fp
open PySem PySem.Spec L2
open PyProof.Rows hiding St

/-! ### statements -/
inductive Fl where
  | nx | rt (w : W) | bk | ct
def PinEq (pn : Nat → Bool) (σ σ' : St) : Prop := ∀ i, pn i = true → σ'[i]? = σ[i]?
theorem PinEq.refl (pn : Nat → Bool) (σ : St) : PinEq pn σ σ := fun _ _ => rfl
theorem PinEq.trans {pn : Nat → Bool} {σ σ1 σ2 : St} (a : PinEq pn σ σ1) (b : PinEq pn σ1 σ2) : PinEq pn σ σ2 := fun i h => (b i h).trans (a i h)
theorem PinEq.set {pn : Nat → Bool} {σ : St} {i : Nat} {v : Option V} (h : pn i = false) : PinEq pn σ (σ.set i v) := fun j hj => by
  rw [List.getElem?_set_ne]
  intro e
  rw [e, hj] at h
  cases h
def ResS (g : G) (Wx : WX) (pn : Nat → Bool) (σ : St) (F : Hp) (S : AS) (H : Hp) (r : Out Fl) (D : Ends) : Prop := match r with
  | .ok .nx ρ' => ∀ σ' F' H' S', PinEq pn σ σ' → Step F S H F' H' S' → OSs g F' H' σ' ρ' S' → D.nx σ' H'
  | .ok .bk ρ' => ∀ σ' F' H' S', PinEq pn σ σ' → Step F S H F' H' S' → OSs g F' H' σ' ρ' S' → D.bk σ' H'
  | .ok .ct ρ' => ∀ σ' F' H' S', PinEq pn σ σ' → Step F S H F' H' S' → OSs g F' H' σ' ρ' S' → D.ct σ' H'
  | .ok (.rt w) ρ' => ∀ v σ' F' H' S1 S2, PinEq pn σ σ' → Dj S1 S2 → Step F S H F' H' (U S1 S2) → OSs g F' H' σ' ρ' S1 → OV g F' H' v w S2 → D.rt v H'
  | .exc c ρ' => ∀ cls σ' F' H' S', PinEq pn σ σ' → g.mg c = some cls → Step F S H F' H' S' → OSs g F' H' σ' ρ' S' → Wx cls none σ' H'
  | .bad => False
def tS (g : G) (Wx : WX) (pn : Nat → Bool) (m : ER Fl) : TS := fun D σ H => ∃ ρ F S, Good F H S ∧ OSs g F H σ ρ S ∧ ResS g Wx pn σ F S H (m ρ) D
section
variable {g : G} {Wx : WX} {pn : Nat → Bool} {σ : St} {F H : Hp} {S : AS}
theorem ResS.step {σ1 : St} {F1 H1 : Hp} {S1 : AS} {r : Out Fl} {D : Ends} (gd : Good F H S) (p : PinEq pn σ σ1) (s : Step F S H F1 H1 S1) (h : ResS g Wx pn σ F S H r D) : ResS g Wx pn σ1 F1 S1 H1 r D := by
  cases r with
  | ok f ρ' =>
    cases f with
    | nx => exact fun σ' F' H' S' p' s' o => h σ' F' H' S' (p.trans p') (s.trans gd s') o
    | bk => exact fun σ' F' H' S' p' s' o => h σ' F' H' S' (p.trans p') (s.trans gd s') o
    | ct => exact fun σ' F' H' S' p' s' o => h σ' F' H' S' (p.trans p') (s.trans gd s') o
    | rt w => exact fun v σ' F' H' S1 S2 p' d s' o ov => h v σ' F' H' S1 S2 (p.trans p') d (s.trans gd s') o ov
  | exc c ρ' => exact fun cls σ' F' H' S' p' e s' o => h cls σ' F' H' S' (p.trans p') e (s.trans gd s') o
  | bad => exact h
/-- other ends -/
theorem ResS.ends {r : Out Fl} {D D' : Ends} (h : ResS g Wx pn σ F S H r D) (h1 : ∀ ρ' σ' F' H' S', r = .ok .nx ρ' → PinEq pn σ σ' → Step F S H F' H' S' → OSs g F' H' σ' ρ' S' → D'.nx σ' H') (h2 : D'.rt = D.rt) (h3 : D'.bk = D.bk) (h4 : D'.ct = D.ct) : ResS g Wx pn σ F S H r D' := by
  cases r with
  | ok f ρ' =>
    cases f with
    | nx => exact fun σ' F' H' S' p' s' o => h1 ρ' σ' F' H' S' rfl p' s' o
    | bk => show ∀ σ' F' H' S', _; rw [h3]; exact h
    | ct => show ∀ σ' F' H' S', _; rw [h4]; exact h
    | rt w => show ∀ v σ' F' H' S1 S2, _; rw [h2]; exact h
  | exc c ρ' => exact h
  | bad => exact h
/-- an expression ahead in a statement -/
theorem tS_bind {α β : Type} {R : Hp → Hp → β → α → AS → Prop} {m : ER α} {f : α → ER Fl} {D : Ends} {Q1 : β → Hp → Prop} (h : tS g Wx pn (bnd m f) D σ H)
    (hk : ∀ a ρ1 b F1 H1 S1 T1, Dj S1 T1 → Good F1 H1 (U S1 T1) → OSs g F1 H1 σ ρ1 S1 → R F1 H1 b a T1 → ResS g Wx pn σ F1 (U S1 T1) H1 (f a ρ1) D → Q1 b H1) : tG R g Wx m σ H Q1 := by
  obtain ⟨ρ, F, S, gd, O, h⟩ := h
  refine ⟨ρ, F, S, gd, O, ?_⟩
  unfold bnd at h
  cases e : m ρ with
  | ok a ρ1 =>
    rw [e] at h
    intro b F1 H1 S1 T1 d1 s1 O1 r1
    exact hk a ρ1 b F1 H1 S1 T1 d1 s1.gd O1 r1 (ResS.step gd (.refl _ _) s1 h)
  | exc c ρ1 =>
    rw [e] at h
    exact fun cls F' H' S' e' s' o => h cls σ F' H' S' (.refl _ _) e' s' o
  | bad => rw [e] at h; exact h
theorem ResS.bind {α β : Type} {R : Hp → Hp → β → α → AS → Prop} {T : AS} {m : ER α} {f : α → ER Fl} {ρ : Env} {D : Ends} {Q1 : β → Hp → Prop} (h : ResS g Wx pn σ F (U S T) H (bnd m f ρ) D) (d : Dj S T) (gd : Good F H (U S T)) (O : OSs g F H σ ρ S)
    (hk : ∀ a ρ1 b F1 H1 S1 T1, Dj S1 T1 → Dj (U S1 T1) T → Good F1 H1 (U (U S1 T1) T) → Sub F F1 → (∀ a, T a → H1 a = H a) → OSs g F1 H1 σ ρ1 S1 → R F1 H1 b a T1 → ResS g Wx pn σ F1 (U (U S1 T1) T) H1 (f a ρ1) D → Q1 b H1) :
    tG R g Wx m σ H Q1 := by
  refine ⟨ρ, F, S, gd.sb .l, O, ?_⟩
  unfold bnd at h
  cases e : m ρ with
  | ok a ρ1 =>
    rw [e] at h
    intro b F1 H1 S1 T1 d1 s1 O1 r1
    obtain ⟨s2, d2⟩ := s1.frame gd d
    exact hk a ρ1 b F1 H1 S1 T1 d1 d2 s2.gd s1.ext (s1.keep gd d) O1 r1 (ResS.step gd (.refl _ _) s2 h)
  | exc c ρ1 =>
    rw [e] at h
    intro cls F1 H1 S1 hc s1 O1
    exact h cls σ F1 H1 S1 (.refl _ _) hc ((s1.frame gd d).1.sb .l) O1
  | bad => rw [e] at h; exact h
theorem resS {S' T : AS} {ρ : Env} {m : ER Fl} {D : Ends} (h : ResS g Wx pn σ F S H (m ρ) D) (gd : Good F H S) (sb : Sb T S) (O : OSs g F H σ ρ T) : tS g Wx pn m D σ H := ⟨ρ, F, S, gd, O.wk sb, h⟩
/-- a slot stored -/
theorem OSs.put {ρ : Env} {S T : AS} {i : Nat} {v : V} {w : W} (O : OSs g F H σ ρ S) (hi : i < ρ.length) (ov : OV g F H v w T) (d : Dj S T) : OSs g F H (σ.set i (some v)) (ρ.set i w) (U S T) := by
  obtain ⟨o, S1, S2, q1, q2, q3, q4, q5, q6⟩ := O.focus (List.getElem?_eq_getElem hi)
  exact (q6 (.refl F) (fun _ _ => rfl) (fun a z z' => d a (q3 a z') z) (.inr ⟨v, rfl, ov⟩)).wk (Sb.u .r (q3.trans .l))
end
section
variable {X : Cx} {Wx : WX} {pn : Nat → Bool} {st : Stmt} {rest body : List Stmt} {e c : Expr} {m : ER W} {p : ER Bool} {ms mt : ER Fl} {pos : Pos}
def mSeq (m n : ER Fl) : ER Fl := fun ρ => match m ρ with
  | .ok .nx ρ' => n ρ'
  | r => r
def mNx : ER Fl := rt .nx
theorem s_nil : PSs X [] (tS (gx X) Wx pn mNx) := pssW pss_nil fun D σ H h => by
  obtain ⟨ρ, F, S, gd, O, h⟩ := h
  exact h σ F H S (.refl _ _) (Step.refl gd) O
theorem s_one (h : PS X st (tS (gx X) Wx pn ms)) : PSs X [st] (tS (gx X) Wx pn ms) := pss_one h
theorem s_cons (h : PS X st (tS (gx X) Wx pn ms)) (k : PSs X rest (tS (gx X) Wx pn mt)) : PSs X (st :: rest) (tS (gx X) Wx pn (mSeq ms mt)) := pssW (pss_cons h k) fun D σ H q => by
  obtain ⟨ρ, F, S, gd, O, q⟩ := q
  refine ⟨ρ, F, S, gd, O, ?_⟩
  unfold mSeq at q
  cases r : ms ρ with
  | ok f ρ' =>
    rw [r] at q
    cases f with
    | nx => exact fun σ' F' H' S' p' s' o => resS (S' := S') (ResS.step gd p' s' q) s'.gd (.refl _) o
    | bk => exact q
    | ct => exact q
    | rt w => exact q
  | exc c ρ' => rw [r] at q; exact q
  | bad => rw [r] at q; exact q
def mAsg (i : Nat) (m : ER W) : ER Fl := bnd m fun w ρ => if i < ρ.length then .ok .nx (ρ.set i w) else .bad
theorem w_asg {i : Nat} (hp : pn i = false) : ∀ D σ H, tS (gx X) Wx pn (mAsg i m) D σ H → tAsg (tE (gx X) Wx m) (gName i) D σ H := fun D σ H q => by
  refine tS_bind q fun w ρ1 v F1 H1 S1 T1 d1 gd O r h => ?_
  by_cases hi : i < ρ1.length
  · simp only [if_pos hi] at h
    exact h _ F1 H1 (U S1 T1) (PinEq.set hp) (Step.refl gd) (O.put hi r d1)
  · simp only [if_neg hi] at h; exact h.elim
theorem s_set {i : Nat} {x : Str} {pos' : Pos} (hN : X.N.Nodup) (hi : X.N[i]? = some x) (hx : Loc X.env.scope x) (hp : pn i = false) (he : PE X e (tE (gx X) Wx m)) (hs : swapsWith e (some (.Name x pos')) pos.line X.env = pure false := by rfl) (hf : X.fn x = true ∨ X.env.scope.names.lookup x = some .local := by first | exact .inl rfl | exact .inr rfl | assumption) :
    PS X (.Assign [.Name x pos'] e pos) (tS (gx X) Wx pn (mAsg i m)) := psW (ps_set hN hi hx he hs hf) (w_asg hp)
def mDrop (m : ER W) : ER Fl := bnd m fun _ => rt .nx
theorem s_expr (he : PE X e (tE (gx X) Wx m)) (hs : swapsWith e none pos.line X.env = pure false := by rfl) : PS X (.Expr e pos) (tS (gx X) Wx pn (mDrop m)) := psW (ps_expr he hs) fun D σ H q => by
  refine tS_bind q fun w ρ1 v F1 H1 S1 T1 d1 gd O r h => ?_
  exact h σ F1 H1 S1 (.refl _ _) ((Step.refl gd).sb .l) O
theorem s_doc {x : Str} {j : Nat} {p1 : Pos} : PS X (.Expr (.Constant (.str x) j p1) pos) (tS (gx X) Wx pn mNx) := psW ps_doc fun D σ H h => by
  obtain ⟨ρ, F, S, gd, O, h⟩ := h
  exact h σ F H S (.refl _ _) (Step.refl gd) O
def mRet (m : ER W) : ER Fl := bnd m fun w => rt (.rt w)
/-- handed back as shared data -/
def mRetD (m : ER W) : ER Fl := bnd m fun w => match w.data with
  | some d => rt (.rt (.sh d))
  | none => bad
theorem s_ret (he : PE X e (tE (gx X) Wx m)) : PS X (.Return (some e) pos) (tS (gx X) Wx pn (mRet m)) := psW (ps_ret he) fun D σ H q => by
  refine tS_bind q fun w ρ1 v F1 H1 S1 T1 d1 gd O r h => ?_
  exact h v σ F1 H1 S1 T1 (.refl _ _) d1 (Step.refl gd) O r
theorem s_retD (he : PE X e (tE (gx X) Wx m)) : PS X (.Return (some e) pos) (tS (gx X) Wx pn (mRetD m)) := psW (ps_ret he) fun D σ H q => by
  refine tS_bind q fun w ρ1 v F1 H1 S1 T1 d1 gd O r h => ?_
  cases e : w.data with
  | none => simp only [e] at h; exact h.elim
  | some d =>
    simp only [e] at h
    have st := Step.share gd d1
    exact h v σ (frzF F1 H1 T1) H1 S1 Ep (.refl _ _) (Dj.ep _) (st.sb (Sb.u (.refl _) fun _ z => z.elim)) (O.mono st.ext fun _ _ => rfl) (.sh (r.share gd e))
theorem s_retN : PS X (.Return none pos) (tS (gx X) Wx pn (rt (.rt (.sh .non)))) := psW ps_retN fun D σ H h => by
  obtain ⟨ρ, F, S, gd, O, h⟩ := h
  exact h .non σ F H S Ep (.refl _ _) (Dj.ep _) ((Step.refl gd).sb (Sb.u (.refl _) fun _ z => z.elim)) O (.sh .non)
def mIfS (p : ER Bool) (m n : ER Fl) : ER Fl := bnd p fun k => if k then m else n
theorem s_if {a b : List Stmt} (hc : PT X c (tT (gx X) Wx p)) (ha : PSs X a (tS (gx X) Wx pn ms)) (hb : PSs X b (tS (gx X) Wx pn mt)) : PS X (.If c a b pos) (tS (gx X) Wx pn (mIfS p ms mt)) := psW (ps_if hc ha hb) fun D σ H q => by
  refine tS_bind (R := RB) q fun k ρ1 k' F1 H1 S1 T1 d1 gd O r h => ?_
  cases r
  cases k with
  | true => exact resS (S' := S1) h gd .l O
  | false => exact resS (S' := S1) h gd .l O
def mNever {α : Type} : ER α := bad
theorem s_never : PS X st (tS (gx X) Wx pn mNever) := psW ps_never fun D σ H h => by
  obtain ⟨ρ, F, S, gd, O, h⟩ := h
  exact h
theorem ss_never {sts : List Stmt} : PSs X sts (tS (gx X) Wx pn mNever) := pssW pss_never fun D σ H h => by
  obtain ⟨ρ, F, S, gd, O, h⟩ := h
  exact h
theorem e_never {e : Expr} : PE X e (tE (gx X) Wx mNever) := ⟨fun pins s σ H Q I h => by
  obtain ⟨ρ, F, S, gd, O, h⟩ := h
  exact h.elim⟩
theorem s_cont : PS X (.Continue pos) (tS (gx X) Wx pn (rt .ct)) := psW ps_continue fun D σ H h => by
  obtain ⟨ρ, F, S, gd, O, h⟩ := h
  exact h σ F H S (.refl _ _) (Step.refl gd) O
theorem s_pass : PS X (.Pass pos) (tS (gx X) Wx pn mNx) := psW ps_pass fun D σ H h => by
  obtain ⟨ρ, F, S, gd, O, h⟩ := h
  exact h σ F H S (.refl _ _) (Step.refl gd) O
/-! ### while, by a budget of turns -/
def mWhile (p : ER Bool) (m : ER Fl) : Nat → ER Fl
  | 0 => fun _ => .bad
  | n + 1 => bnd p fun k => if k then (fun ρ => match m ρ with
      | .ok .nx ρ' => mWhile p m n ρ'
      | .ok .ct ρ' => mWhile p m n ρ'
      | .ok .bk ρ' => .ok .nx ρ'
      | r => r) else rt .nx
theorem s_while {n : Nat} (hp : PassesOwn (model X.prog X.w) X.A X.env X.xe) (hc : PT X c (tT (gx X) Wx p)) (hb : PSs X body (tS (gx X) Wx pn ms)) : PS X (.While c body [] pos) (tS (gx X) Wx pn (mWhile p ms n)) := psW (ps_while hp hc hb) fun D σ H q => by
  refine ⟨fun n σ H => tS (gx X) Wx pn (mWhile p ms n) D σ H, ⟨n, q⟩, fun n σ H q => ?_⟩
  cases n with
  | zero =>
    obtain ⟨ρ, F, S, gd, O, h⟩ := q
    exact h.elim
  | succ n =>
    unfold mWhile at q
    refine tS_bind (R := RB) q fun k ρ1 k' F1 H1 S1 T1 d1 gd O r h => ?_
    cases r
    cases k with
    | false => exact h σ F1 H1 S1 (.refl _ _) ((Step.refl gd).sb .l) O
    | true =>
      refine iteT ⟨fun σ' H' => tS (gx X) Wx pn (mWhile p ms n) D σ' H', fun σ' H' q => ⟨n, Nat.lt_succ_self n, q⟩, ρ1, F1, U S1 T1, gd, O.wk .l, ?_⟩
      simp only [if_true] at h
      cases e : ms ρ1 with
      | ok f ρ' =>
        rw [e] at h
        cases f with
        | nx => exact fun σ' F' H' S' p' s' o => resS (S' := S') (ResS.step gd p' s' h) s'.gd (.refl _) o
        | ct => exact fun σ' F' H' S' p' s' o => resS (S' := S') (ResS.step gd p' s' h) s'.gd (.refl _) o
        | bk => exact h
        | rt w => exact h
      | exc c ρ' => rw [e] at h; exact h
      | bad => rw [e] at h; exact h
end
end Fp

set_option Elab.async false
set_option linter.all false
set_option maxRecDepth 100000
set_option maxHeartbeats 4000000
namespace Fp
open PySem PySem.Spec L2
open PyProof.Rows hiding St

theorem frame0 {F H F' H' : Hp} {S : AS} (gd : Good F H S) (st : Step F Ep H F' H' Ep) : Step F S H F' H' S ∧ ∀ a, S a → H' a = H a := by
  have gd' : Good F H (U Ep S) := gd.sb (Sb.u (fun _ z => z.elim) (.refl S))
  obtain ⟨s2, _⟩ := st.frame gd' (Dj.pe S)
  exact ⟨(s2.sb .r).more (Sb.u (fun _ z => z.elim) (.refl S)), st.keep gd' (Dj.pe S)⟩
/-! ### what a for walks: shared data, one by one -/
structure IterOk (g : G) (J : It) (F0 : Hp) (ds : List D) : Prop where
  go : ∀ i F H, Sub F0 F → Same F H → i < ds.length → J.go i H
  stop : ∀ i F H, Sub F0 F → Same F H → ds.length ≤ i → J.stop i H
  yld : ∀ i F H x H' d, Sub F0 F → Same F H → ds[i]? = some d → J.yld i H x H' → ∃ F', Step F Ep H F' H' Ep ∧ DV g F' x d
def tI (g : G) (Wx : WX) (m : ER (List D)) : TI := fun σ H R => tG (fun F _ J ds _ => IterOk g J F ds) g Wx m σ H R
theorem iter_seq {g : G} {F : Hp} {a : Addr} {vs : List V} {ds : List D} {J : It} (e : (J = Itl g.K a ∧ Rd F a (.lst vs)) ∨ (J = Itt g.K a ∧ SqT g.K F a vs)) (h : DVs g F vs ds)
    (inj : ∀ H : Hp, True) : (∀ i F' H, Sub F F' → Same F' H → i < ds.length → J.go i H) ∧ (∀ i F' H, Sub F F' → Same F' H → ds.length ≤ i → J.stop i H) ∧
    (∀ i F' H x H' d, Sub F F' → Same F' H → ds[i]? = some d → J.yld i H x H' → ∃ F'', Step F' Ep H F'' H' Ep ∧ DV g F'' x d) := by
  have hl := h.length
  rcases e with ⟨rfl, r⟩ | ⟨rfl, r⟩
  · have sq : ∀ {F' H : Hp}, Sub F F' → Same F' H → SqL g.K H a vs := fun sb sm => .inl ((Sub.of_same sm).rd (sb.rd r))
    refine ⟨fun i F' H sb sm hi => ⟨vs, vs[i]'(by omega), sq sb sm, by simp [hl, hi]⟩, fun i F' H sb sm hi => ⟨vs, sq sb sm, by omega⟩, fun i F' H x H' d sb sm hd y => ?_⟩
    obtain ⟨rfl, y⟩ := y
    obtain ⟨v, e1, dv⟩ := h.get hd
    have := y vs (sq sb sm)
    rw [e1] at this
    cases this
    exact ⟨F', stayE sm, dv.sub sb⟩
  · have sq : ∀ {F' H : Hp}, Sub F F' → Same F' H → SqT g.K H a vs := fun sb sm => (Sub.of_same sm).sqT (sb.sqT r)
    refine ⟨fun i F' H sb sm hi => ⟨vs, vs[i]'(by omega), sq sb sm, by simp [hl, hi]⟩, fun i F' H sb sm hi => ⟨vs, sq sb sm, by omega⟩, fun i F' H x H' d sb sm hd y => ?_⟩
    obtain ⟨rfl, y⟩ := y
    obtain ⟨v, e1, dv⟩ := h.get hd
    have := y vs (sq sb sm)
    rw [e1] at this
    cases this
    exact ⟨F', stayE sm, dv.sub sb⟩
def iSeq (K : PySem.W.Frag) (tl : TE) : TI := fun σ H R => tl σ H fun x H1 => ∃ a, x = .ref a ∧ (((∃ xs, SqL K H1 a xs) ∧ R (Itl K a) H1) ∨ ((∃ xs, SqT K H1 a xs) ∧ R (Itt K a) H1))
theorem pi_seq {X : Cx} {tg l : Expr} {tl : TE} (hl : PE X l tl) : PI X tg l (iSeq X.K tl) := by
  refine ⟨fun pins s σ H R I h => ?_⟩
  refine thn (hl.run pins s σ H _ I h) fun v s1 ⟨x, H1, I1, r1, q1⟩ => ?_
  obtain ⟨a, e, q⟩ := q1
  subst e
  cases r1
  have fp : ∀ b ∈ [s1.heap.objs.size], FpOk X pins H1 b := fun b hb => by
    have e : b = s1.heap.objs.size := by simpa using hb
    subst e
    exact I1.fpOk (Nat.le_refl _) (I1.hok.fresh (Nat.le_refl _))
  rcases q with ⟨⟨xs, hq⟩, q⟩ | ⟨⟨xs, hq⟩, q⟩
  · obtain ⟨its, rv, p, hz⟩ := I1.list hq
    refine wpAny_pyIter_list p.isList ?_
    exact ⟨s1.heap.objs.size, [s1.heap.objs.size], _, _, H1, rfl, I1.kept (t' := s1.toks) fun b o e => Heap.get?_push_of_some _ e, turn_list a _, ⟨_, Heap.get?_push_size _ rfl, rfl, rfl⟩, fp, q⟩
  · obtain ⟨its, rv, p, hz⟩ := I1.tuple hq
    refine wpAny_pyIter_tuple (show s1.heap.IsTuple a its.toArray from p) ?_
    exact ⟨s1.heap.objs.size, [s1.heap.objs.size], _, _, H1, rfl, I1.kept (t' := s1.toks) fun b o e => Heap.get?_push_of_some _ e, turn_tuple a _, ⟨_, Heap.get?_push_size _ rfl, rfl, rfl⟩, fp, q⟩
/-- the shared items of a list or a tuple -/
def mSeqD (m : ER W) : ER (List D) := bnd m fun w => match w.data with
  | some (.lst ds) => rt ds
  | some (.tup ds) => rt ds
  | _ => bad
section
variable {X : Cx} {Wx : WX} {pn : Nat → Bool} {tg l a b e : Expr} {es : List Expr} {body : List Stmt} {m ma mb : ER W} {ms : ER Fl} {me : ER (List D)} {pos p : Pos}
theorem piW {t t' : TI} (h : PI X tg l t) (k : ∀ σ H R, t' σ H R → t σ H R) : PI X tg l t' := ⟨fun pins s σ H Q I q => h.run pins s σ H Q I (k σ H Q q)⟩
theorem w_seq : ∀ σ H R, tI (gx X) Wx (mSeqD m) σ H R → iSeq X.K (tE (gx X) Wx m) σ H R := fun σ H R q => by
  refine tG_bind (R2 := fun F _ J ds _ => IterOk (gx X) J F ds) q fun w ρ1 v F1 H1 S1 T1 d1 gd O r h => ?_
  cases e : w.data with
  | none => simp only [e] at h; exact h.elim
  | some d =>
    simp only [e] at h
    have dv := r.share gd e
    have st := Step.share gd d1
    have O' := O.mono (H' := H1) st.ext fun _ _ => rfl
    have fin : ∀ ds J, h = h → IterOk (gx X) J (frzF F1 H1 T1) ds → ResP (fun F _ J ds _ => IterOk (gx X) J F ds) (gx X) Wx σ F1 (U S1 T1) H1 (.ok ds ρ1) R → R J H1 := fun ds J _ ok h =>
      h J (frzF F1 H1 T1) H1 S1 Ep (Dj.ep _) (st.sb (Sb.u (.refl _) fun _ z => z.elim)) O' ok
    cases d with
    | lst ds =>
      cases dv with
      | @lst a _ _ h1 h2 =>
        refine ⟨a, rfl, .inl ⟨⟨_, .inl ((Sub.of_same st.gd.same).rd h1)⟩, ?_⟩⟩
        obtain ⟨x1, x2, x3⟩ := iter_seq (.inl ⟨rfl, h1⟩) h2 fun _ => trivial
        exact fin ds _ rfl ⟨x1, x2, x3⟩ h
    | tup ds =>
      cases dv with
      | @tup a _ _ h1 h2 =>
        refine ⟨a, rfl, .inr ⟨⟨_, (Sub.of_same st.gd.same).sqT h1⟩, ?_⟩⟩
        obtain ⟨x1, x2, x3⟩ := iter_seq (.inr ⟨rfl, h1⟩) h2 fun _ => trivial
        exact fin ds _ rfl ⟨x1, x2, x3⟩ h
    | _ => exact h.elim
theorem i_seq (h : PE X l (tE (gx X) Wx m)) : PI X tg l (tI (gx X) Wx (mSeqD m)) := piW (pi_seq h) w_seq
/-- range(n), range(m, n) -/
def rangeD (lo : Int) (n : Nat) : List D := (List.range n).map fun i => .int (lo + (i : Nat))
theorem rangeD_get {lo : Int} {n i : Nat} (h : i < n) : (rangeD lo n)[i]? = some (.int (lo + (i : Nat))) := by
  unfold rangeD
  rw [List.getElem?_map, List.getElem?_range h]
  rfl
theorem rangeD_len {lo : Int} {n : Nat} : (rangeD lo n).length = n := by unfold rangeD; rw [List.length_map, List.length_range]
theorem iter_range {g : G} {F : Hp} {lo : Int} {n : Nat} : IterOk g (Itr lo n) F (rangeD lo n) where
  go := fun i F H _ _ h => by rw [rangeD_len] at h; exact h
  stop := fun i F H _ _ h => by rw [rangeD_len] at h; exact h
  yld := fun i F H x H' d _ sm hd y => by
    obtain ⟨rfl, rfl⟩ := y
    have hi : i < n := by
      have := (List.getElem?_eq_some_iff.mp hd).1
      rw [rangeD_len] at this; exact this
    rw [rangeD_get hi] at hd
    cases hd
    exact ⟨F, stayE sm, .int _⟩
def mRange1 (m : ER W) : ER (List D) := bnd m fun w => match w with
  | .sh (.int j) => if -(2 ^ 62) ≤ j ∧ j < 2 ^ 62 then rt (rangeD 0 j.toNat) else bad
  | _ => bad
theorem i_range1 (hg : Gl X "range") (hm : X.mg "range" = none) (ha : PE X a (tB (gx X) Wx m)) (hs : starEach [a] X.env = [(false, eval a X.env)] := by rfl) (hs1 : starEach [a] X.env = (false, eval a X.env) :: starEach [] X.env := by rfl) : PI X tg (.Call (.Name "range" p) [a] [] pos) (tI (gx X) Wx (mRange1 m)) :=
  piW (pi_range1 hg hm (pa_cons ha pa_nil hs1) hs) fun σ H R q => by
    refine tG_bind (R := RBor (gx X)) (R2 := fun F _ J ds _ => IterOk (gx X) J F ds) q fun w ρ1 v F1 H1 S1 T1 d1 gd O r h => ?_
    obtain ⟨sm, T, r⟩ := r
    cases w with
    | sh d =>
      cases d with
      | int j =>
        cases tup_dv r
        simp only at h
        by_cases c : -(2 ^ 62) ≤ j ∧ j < 2 ^ 62
        · rw [if_pos c] at h
          exact ⟨j, rfl, c.1, c.2, h.ans0 gd (O.wk .l) _ F1 H1 Ep (stayE sm) iter_range⟩
        · rw [if_neg c] at h; exact h.elim
      | _ => exact h.elim
    | _ => exact h.elim
def mRange2 (ma mb : ER W) : ER (List D) := bnd ma fun v => bnd mb fun w => match v, w with
  | .sh (.int i), .sh (.int j) => if -(2 ^ 62) ≤ i ∧ i < 2 ^ 62 ∧ -(2 ^ 62) ≤ j ∧ j < 2 ^ 62 then rt (rangeD i (j - i).toNat) else bad
  | _, _ => bad
theorem i_range2 (hg : Gl X "range") (hm : X.mg "range" = none) (ha : PE X a (tE (gx X) Wx ma)) (hb : PE X b (tB (gx X) Wx mb)) (hs : starEach [a, b] X.env = [(false, eval a X.env), (false, eval b X.env)] := by rfl) (hs2 : starEach [b] X.env = [(false, eval b X.env)] := by rfl)
    (h1 : starEach [a, b] X.env = (false, eval a X.env) :: starEach [b] X.env := by rfl) (h2 : starEach [b] X.env = (false, eval b X.env) :: starEach [] X.env := by rfl) : PI X tg (.Call (.Name "range" p) [a, b] [] pos) (tI (gx X) Wx (mRange2 ma mb)) :=
  piW (pi_range2 hg hm (pa_cons ha (pa_cons hb pa_nil h2) h1) hs hs2) fun σ H R q => by
    refine tG_bind (R := OV (gx X)) (R2 := fun F _ J ds _ => IterOk (gx X) J F ds) q fun w ρ1 v F1 H1 S1 T1 d1 gd O r h => ?_
    refine ResP.bind (R := RBor (gx X)) h d1 gd O fun wb ρ2 v2 F2 H2 S2 T2 d2 d3 gd2 sb k O2 r2 h2 => ?_
    obtain ⟨sm, T, r2⟩ := r2
    cases w with
    | sh d =>
      cases d with
      | int i =>
        cases wb with
        | sh d' =>
          cases d' with
          | int j =>
            cases tup_dv r
            cases tup_dv r2
            simp only at h2
            by_cases c : -(2 ^ 62) ≤ i ∧ i < 2 ^ 62 ∧ -(2 ^ 62) ≤ j ∧ j < 2 ^ 62
            · rw [if_pos c] at h2
              exact ⟨i, j, rfl, c, h2.ans0 gd2 (O2.wk (Sb.l.trans .l)) _ F2 H2 Ep (stayE sm) iter_range⟩
            · rw [if_neg c] at h2; exact h2.elim
          | _ => exact h2.elim
        | _ => exact h2.elim
      | _ => exact h2.elim
    | _ => exact h2.elim
/-! ### targets -/
def tGt (g : G) (pn : Nat → Bool) (t : D → Env → Option Env) : TG := fun v σ H Q => ∃ ρ F S d ρ', Good F H S ∧ OSs g F H σ ρ S ∧ DV g F v d ∧ t d ρ = some ρ' ∧ ∀ σ', PinEq pn σ σ' → OSs g F H σ' ρ' S → Q σ' H
def tName (i : Nat) : D → Env → Option Env := fun d ρ => if i < ρ.length then some (ρ.set i (.sh d)) else none
theorem g_name {i : Nat} {x : Str} (hN : X.N.Nodup) (hi : X.N[i]? = some x) (hx : Loc X.env.scope x) (hp : pn i = false) (hf : X.fn x = true ∨ X.env.scope.names.lookup x = some .local := by first | exact .inl rfl | exact .inr rfl | assumption) : PG X (.Name x pos) (tGt (gx X) pn (tName i)) :=
  ⟨fun pins s σ H v u Q I r h => (pg_name hN hi hx hf).run pins s σ H v u Q I r (by
    obtain ⟨ρ, F, S, d, ρ', gd, O, dv, e, h⟩ := h
    unfold tName at e
    by_cases hi : i < ρ.length
    · rw [if_pos hi] at e
      cases e
      exact h _ (PinEq.set hp) ((O.put hi (.sh dv) (Dj.ep _)).wk (Sb.u (.refl _) fun _ z => z.elim))
    · rw [if_neg hi] at e; cases e)⟩
def tNames : List Nat → List D → Env → Option Env
  | [], [], ρ => some ρ
  | i :: is, d :: ds, ρ => if i < ρ.length then tNames is ds (ρ.set i (.sh d)) else none
  | _, _, _ => none
def tGts (g : G) (pn : Nat → Bool) (is : List Nat) : TGs := fun vs σ H Q => ∃ ρ F S ds ρ', Good F H S ∧ OSs g F H σ ρ S ∧ DVs g F vs ds ∧ tNames is ds ρ = some ρ' ∧ ∀ σ', PinEq pn σ σ' → OSs g F H σ' ρ' S → Q σ' H
theorem gs_nil : PGs X [] (tGts (gx X) pn []) := ⟨fun pins s σ H vs us Q I r h => pgs_nil.run pins s σ H vs us Q I r (by
  obtain ⟨ρ, F, S, ds, ρ', gd, O, dv, e, h⟩ := h
  cases ds with
  | nil =>
    cases dv
    cases e
    exact ⟨rfl, h σ (.refl _ _) O⟩
  | cons _ _ => cases e)⟩
theorem gs_cons {es : List Expr} {i : Nat} {is : List Nat} {x : Str} (hN : X.N.Nodup) (hi : X.N[i]? = some x) (hx : Loc X.env.scope x) (hp : pn i = false) (h2 : PGs X es (tGts (gx X) pn is)) (hf : X.fn x = true ∨ X.env.scope.names.lookup x = some .local := by first | exact .inl rfl | exact .inr rfl | assumption)
    (hs : (assignEach (.Name x pos :: es) X.env).map (·.2) = assign (.Name x pos) X.env :: (assignEach es X.env).map (·.2) := by rfl) : PGs X (.Name x pos :: es) (tGts (gx X) pn (i :: is)) :=
  ⟨fun pins s σ H vs us Q I r h => (pgs_cons (pg_name (pos := pos) hN hi hx hf) h2 hs).run pins s σ H vs us Q I r (by
    obtain ⟨ρ, F, S, ds, ρ', gd, O, dv, e, h⟩ := h
    cases ds with
    | nil => cases e
    | cons d ds =>
      cases dv with
      | cons d1 d2 =>
        simp only [tNames] at e
        by_cases hi : i < ρ.length
        · rw [if_pos hi] at e
          exact ⟨_, _, rfl, _, F, S, ds, ρ', gd, (O.put hi (.sh d1) (Dj.ep _)).wk (Sb.u (.refl _) fun _ z => z.elim), d2, e, fun σ' p' o => h σ' ((PinEq.set hp).trans p') o⟩
        · rw [if_neg hi] at e; cases e)⟩
def tTup (is : List Nat) : D → Env → Option Env := fun d ρ => match d with
  | .tup ds => tNames is ds ρ
  | _ => none
theorem tNames_len : ∀ {is : List Nat} {ds : List D} {ρ ρ' : Env}, tNames is ds ρ = some ρ' → ds.length = is.length
  | [], [], _, _, _ => rfl
  | i :: is, d :: ds, ρ, ρ', e => by
    simp only [tNames] at e
    split at e
    · rw [List.length_cons, List.length_cons, tNames_len e]
    · cases e
  | [], _ :: _, _, _, e => by cases e
  | _ :: _, [], _, _, e => by cases e
theorem g_tup {es : List Expr} {k : Nat} {is : List Nat} (hc : X.calm = true) (h : PGs X es (tGts (gx X) pn is)) (hn : (assignEach es X.env).length = is.length := by rfl) (hst : (assignEach es X.env).findIdx? (·.1) = none := by rfl) : PG X (.Tuple es k pos) (tGt (gx X) pn (tTup is)) :=
  ⟨fun pins s σ H v u Q I r q => (pg_tup (n := is.length) hc h hn hst).run pins s σ H v u Q I r (by
    obtain ⟨ρ, F, S, d, ρ', gd, O, dv, e, q⟩ := q
    unfold tTup at e
    split at e
    · rename_i ds
      cases dv with
      | tup h1 h2 =>
        exact ⟨_, _, rfl, (Sub.of_same gd.same).sqT h1, h2.length.trans (tNames_len e), ρ, F, S, ds, ρ', gd, O, h2, e, q⟩
    · cases e)⟩
/-! ### for -/
def forB (f : D → ER Fl) : List D → ER Fl
  | [] => rt .nx
  | d :: ds => fun ρ => match f d ρ with
    | .ok .nx ρ' => forB f ds ρ'
    | .ok .ct ρ' => forB f ds ρ'
    | .ok .bk ρ' => .ok .nx ρ'
    | r => r
def mTurn (t : D → Env → Option Env) (m : ER Fl) (d : D) : ER Fl := fun ρ => match t d ρ with
  | some ρ' => m ρ'
  | none => .bad
def mFor (me : ER (List D)) (t : D → Env → Option Env) (m : ER Fl) : ER Fl := bnd me fun ds => forB (mTurn t m) ds
theorem s_for {t : D → Env → Option Env} (hp : PassesOwn (model X.prog X.w) X.A X.env X.xe) (hc : X.calm = true) (hi : PI X tg l (tI (gx X) Wx me)) (hg : PG X tg (tGt (gx X) pn t)) (hb : PSs X body (tS (gx X) Wx pn ms))
    (hs : ∀ x, foldedSetIterable l X.env x = pure x := by intro _; rfl) : PS X (.For tg l body [] pos) (tS (gx X) Wx pn (mFor me t ms)) := psW (ps_for hp hc hi hg hb hs) fun D σ H q => by
  refine tS_bind (R := fun F _ J ds _ => IterOk (gx X) J F ds) q fun ds ρ1 J F1 H1 S1 T1 d1 gd O ok h => ?_
  refine ⟨fun i m σ H => m = ds.length - i ∧ i ≤ ds.length ∧ ∃ ρ F S, Good F H S ∧ OSs (gx X) F H σ ρ S ∧ Sub F1 F ∧ ResS (gx X) Wx pn σ F S H (forB (mTurn t ms) (ds.drop i) ρ) D, ⟨ds.length, by simp, Nat.zero_le _, ρ1, F1, U S1 T1, gd, O.wk .l, .refl _, h⟩, ?_⟩
  rintro i m σ H ⟨rfl, hi, ρ, F, S, gd, O, sb, h⟩
  by_cases hlt : i < ds.length
  · have hd : ds.drop i = ds[i] :: ds.drop (i + 1) := List.drop_eq_getElem_cons hlt
    rw [hd] at h
    refine .inr ⟨ok.go i F H sb gd.same hlt, fun σ' H' => ∃ ρ F S, Good F H' S ∧ OSs (gx X) F H' σ' ρ S ∧ Sub F1 F ∧ ResS (gx X) Wx pn σ' F S H' (forB (mTurn t ms) (ds.drop (i + 1)) ρ) D, fun σ' H' q => ⟨ds.length - (i + 1), by omega, rfl, hlt, q⟩, fun x H' y => ?_⟩
    obtain ⟨F', st0, dv⟩ := ok.yld i F H x H' ds[i] sb gd.same (by simp [hlt]) y
    obtain ⟨st, keep⟩ := frame0 gd st0
    simp only [forB, mTurn] at h
    cases e : t ds[i] ρ with
    | none => simp only [e] at h; exact h.elim
    | some ρ' =>
      simp only [e] at h
      have h' := ResS.step gd (.refl _ _) st h
      refine ⟨ρ, F', S, ds[i], ρ', st.gd, O.mono st.ext keep, dv, e, fun σ2 p2 O2 => ?_⟩
      refine ⟨ρ', F', S, st.gd, O2, ?_⟩
      have h2 := ResS.step st.gd p2 (Step.refl st.gd) h'
      cases r : ms ρ' with
      | ok f ρ3 =>
        rw [r] at h2
        cases f with
        | nx => exact fun σ3 F3 H3 S3 p3 s3 o3 => ⟨ρ3, F3, S3, s3.gd, o3, sb.trans (st.ext.trans s3.ext), ResS.step st.gd p3 s3 h2⟩
        | ct => exact fun σ3 F3 H3 S3 p3 s3 o3 => ⟨ρ3, F3, S3, s3.gd, o3, sb.trans (st.ext.trans s3.ext), ResS.step st.gd p3 s3 h2⟩
        | bk => exact h2
        | rt w => exact h2
      | exc c ρ3 => rw [r] at h2; exact h2
      | bad => rw [r] at h2; exact h2
  · have e : i = ds.length := by omega
    subst e
    rw [List.drop_length] at h
    exact .inl ⟨ok.stop _ F H sb gd.same (Nat.le_refl _), h σ F H S (.refl _ _) (Step.refl gd) O⟩
end
end Fp

set_option Elab.async false
set_option linter.all false
set_option maxRecDepth 100000
set_option maxHeartbeats 4000000
namespace Fp
open PySem PySem.Spec L2
open PyProof.Rows hiding St

/-! ### lists of one's own, joined and parted -/
section
variable {g : G} {F H : Hp}
theorem OVs.append : ∀ {vs us : List V} {ws xs : List W} {S T : AS}, OVs g F H vs ws S → OVs g F H us xs T → Dj S T → OVs g F H (vs ++ us) (ws ++ xs) (U S T)
  | _, _, _, _, _, _, .nil, h, _ => h.wk .r
  | _, _, _, _, S, T, .cons (S1 := S1) (S2 := S2) h1 h2 h3 h4 h5, h, d =>
    .cons (S1 := S1) (S2 := U S2 T) (fun a z => .inl (h1 a z)) (fun a z => z.elim (fun z => .inl (h2 a z)) .inr) (fun a z z' => z'.elim (h3 a z) (fun z' => d a (h1 a z) z')) h4 (OVs.append h5 h (d.mono h2 (.refl T)))
theorem OVs.snoc {vs : List V} {ws : List W} {S T : AS} {v : V} {w : W} (h : OVs g F H vs ws S) (k : OV g F H v w T) (d : Dj S T) : OVs g F H (vs ++ [v]) (ws ++ [w]) (U S T) :=
  h.append (.cons (S1 := T) (S2 := Ep) (.refl T) (fun _ z => z.elim) (fun _ _ z => z) k .nil) d
theorem OVs.parts : ∀ {vs : List V} {ws : List W} {S : AS} (n : Nat), OVs g F H vs ws S → ∃ S1 S2, Sb S1 S ∧ Sb S2 S ∧ Dj S1 S2 ∧ OVs g F H (vs.take n) (ws.take n) S1 ∧ OVs g F H (vs.drop n) (ws.drop n) S2
  | _, _, S, 0, h => ⟨Ep, S, fun _ z => z.elim, .refl S, fun _ z _ => z, .nil, h⟩
  | _, _, S, n + 1, .nil => ⟨Ep, Ep, fun _ z => z.elim, fun _ z => z.elim, fun _ z _ => z, .nil, .nil⟩
  | _, _, S, n + 1, .cons (S1 := S1) (S2 := S2) h1 h2 h3 h4 h5 => by
    obtain ⟨T1, T2, q1, q2, q3, q4, q5⟩ := OVs.parts n h5
    exact ⟨U S1 T1, T2, h1.u (q1.trans h2), q2.trans h2, fun a z z' => z.elim (fun z => h3 a z (q2 a z')) (fun z => q3 a z z'), .cons (S1 := S1) (S2 := T1) .l .r (fun a z z' => h3 a z (q1 a z')) h4 q4, q5⟩
theorem OVs.one {vs : List V} {w : W} {S : AS} (h : OVs g F H vs [w] S) : ∃ v, vs = [v] ∧ OV g F H v w S := by
  cases h with
  | cons h1 h2 h3 h4 h5 =>
    cases h5
    exact ⟨_, rfl, h4.wk h1⟩
/-- the container in a slot is written: what one holds besides goes into it -/
theorem slotWrite {σ : St} {ρ : Env} {S T : AS} {i : Nat} {w : W} (O : OSs g F H σ ρ S) (gd : Good F H (U S T)) (d : Dj S T) (e : ρ[i]? = some w) (hm : w ≠ .mov) :
    ∃ v S1, σ[i]? = some (some v) ∧ OV g F H v w S1 ∧ Sb S1 S ∧ (∀ a o w', S1 a → OV g F (upd H a o) v w' (U S1 T) → Step F (U S T) H F (upd H a o) (U S T) ∧ OSs g F (upd H a o) σ (ρ.set i w') (U S T)) := by
  obtain ⟨o, S1, S2, q1, q2, q3, q4, q5, q6⟩ := O.focus e
  rcases q5 with rfl | ⟨v, rfl, q5⟩
  · exact absurd rfl hm
  refine ⟨v, S1, q1, q5, q2, fun a ob w' ha ov => ⟨Step.write gd (.inl (q2 a ha)), ?_⟩⟩
  have O2 := q6 (F' := F) (H' := upd H a ob) (o' := some v) (w' := w') (T := U S1 T) (.refl F) (fun b hb => upd_ne fun z => by subst z; exact q4 _ ha hb) (fun b z z' => z.elim (fun z => q4 b z z') fun z => d b (q3 b z') z) (.inr ⟨v, rfl, ov⟩)
  have e3 : σ.set i (some v) = σ := setSelf q1
  rw [e3] at O2
  exact O2.wk (Sb.u (Sb.u (fun b z => .inl (q2 b z)) .r) fun b z => .inl (q3 b z))
/-- a list of one's own with new items -/
theorem lstNew {a : Addr} {vs us : List V} {ws xs : List W} {S T : AS} (h : OV g F H (.ref a) (.lst ws) S) (e : H a = some (.lst vs)) (d : Dj S T) (k : ∀ Tc, (∀ b, Tc b → S b ∧ b ≠ a) → OVs g F H vs ws Tc → ∃ Tn, (∀ b, Tn b → Tc b ∨ T b) ∧ OVs g F H us xs Tn) : OV g F (upd H a (.lst us)) (.ref a) (.lst xs) (U S T) := by
  cases h with
  | lst h1 h2 h3 h4 =>
    rw [e] at h2
    cases h2
    obtain ⟨Tn, q1, q2⟩ := k _ h3 h4
    have ne : ∀ b, Tn b → b ≠ a := fun b z => (q1 b z).elim (fun z => (h3 b z).2) fun z z' => by subst z'; exact d _ h1 z
    exact .lst (T := Tn) (.inl h1) upd_same (fun b z => ⟨(q1 b z).elim (fun z => .inl (h3 b z).1) .inr, ne b z⟩) (q2.mono (.refl F) fun b z => upd_ne (ne b z))
end
section
variable {X : Cx} {Wx : WX} {pn : Nat → Bool} {a b e : Expr} {es : List Expr} {m mk mv : ER W} {pos apos cpos : Pos} {i : Nat}
def atLst (i : Nat) (m : ER W) : ER W := fun ρ => match ρ[i]? with
  | some (.lst _) => m ρ
  | _ => .bad
/-- a method with one argument on the list in a slot -/
def mMth (i : Nat) (f : List W → W → Option (W × List W)) (m : ER W) : ER W := atLst i (bnd m fun w ρ => match ρ[i]? with
  | some (.lst ws) => match f ws w with
    | some (r, ws') => .ok r (ρ.set i (.lst ws'))
    | none => .bad
  | _ => .bad)
def MthOk (g : G) (r : V → List V → Hp → VK → Prop) (f : List W → W → Option (W × List W)) : Prop := ∀ (F H : Hp) (S T : AS) (a : Addr) (v : V) (ws ws' : List W) (w wr : W) (Q : VK), Good F H (U S T) → Dj S T → OV g F H (.ref a) (.lst ws) S → OV g F H v w T → f ws w = some (wr, ws') →
  (∀ us v', OV g F (upd H a (.lst us)) (.ref a) (.lst ws') (U S T) → OV g F (upd H a (.lst us)) v' wr Ep → Q v' (upd H a (.lst us))) → r (.ref a) [v] H Q
theorem w_mth {r : V → List V → Hp → VK → Prop} {f : List W → W → Option (W × List W)} (ho : MthOk (gx X) r f) : ∀ σ H Q, tE (gx X) Wx (mMth i f m) σ H Q → tBM X.K "list" r (tVar i) (tCons (tE (gx X) Wx m) tNil) σ H Q := fun σ H Q q => by
  obtain ⟨ρ, F, S, gd, O, h⟩ := q
  unfold mMth atLst at h
  cases e : ρ[i]? with
  | none => rw [e] at h; exact h.elim
  | some w0 =>
    rw [e] at h
    cases w0 with
    | lst ws0 =>
      simp only at h
      obtain ⟨v, T0, q1, q5⟩ := slotAt O e (fun z => by cases z)
      cases q5 with
      | @lst a vs0 _ _ _ h1 h2 h3 h4 =>
        refine ⟨.ref a, q1, .inl ⟨rfl, _, .of h2⟩, ?_⟩
        refine tG_bind (R := OV (gx X)) ⟨ρ, F, S, gd, O, h⟩ fun w ρ1 v F1 H1 S1 T1 d1 gd O r1 h => ?_
        cases e1 : ρ1[i]? with
        | none => simp only [e1] at h; exact h.elim
        | some w1 =>
          simp only [e1] at h
          cases w1 with
          | lst ws =>
            simp only at h
            cases e2 : f ws w with
            | none => simp only [e2] at h; exact h.elim
            | some rr =>
              obtain ⟨wr, ws'⟩ := rr
              simp only [e2] at h
              obtain ⟨v1, S3, p1, p2, p3, p4⟩ := slotWrite O gd d1 e1 (fun z => by cases z)
              rw [q1] at p1
              cases p1
              have ha : S3 a := by cases p2; assumption
              refine ho F1 H1 S3 T1 a v ws ws' w wr Q (gd.sb (Sb.u (p3.trans .l) .r)) (d1.mono p3 (.refl _)) p2 r1 e2 fun us v' ov ov' => ?_
              obtain ⟨st, O'⟩ := p4 a (.lst us) (.lst ws') ha ov
              exact h v' F1 _ (U S1 T1) Ep (Dj.ep _) (st.sb (Sb.u (.refl _) fun _ z => z.elim)) O' ov'
          | _ => exact h.elim
    | _ => exact h.elim
def fAppend (ws : List W) (w : W) : Option (W × List W) := if ws.length < sizeLine then some (.sh .non, ws ++ [w]) else none
theorem mth_append {g : G} : MthOk g rAppend fAppend := by
  intro F H S T a v ws ws' w wr Q gd d o1 o2 e k
  unfold fAppend at e
  split at e
  · rename_i c
    cases e
    obtain ⟨vs, ea, el⟩ : ∃ vs, H a = some (.lst vs) ∧ vs.length = ws.length := by
      cases o1 with
      | lst h1 h2 h3 h4 => exact ⟨_, h2, h4.length⟩
    refine ⟨a, vs, v, rfl, rfl, ea, by omega, k _ .non (lstNew o1 ea d fun Tc h h' => ?_) (.sh .non)⟩
    exact ⟨U Tc T, fun b z => z, h'.snoc o2 (d.mono (fun b z => (h b z).1) (.refl T))⟩
  · cases e
theorem e_mth {f : List W → W → Option (W × List W)} {r : V → List V → Hp → VK → Prop} (ho : MthOk (gx X) r f) (h : PE X e (tBM X.K "list" r (tVar i) (tCons (tE (gx X) Wx m) tNil))) : PE X e (tE (gx X) Wx (mMth i f m)) := peW h (w_mth ho)
/-! extend -/
def rExtendR : V → List V → Hp → VK → Prop := fun x vs H Q => ∃ l b xs zs, x = .ref l ∧ vs = [.ref b] ∧ H l = some (.lst xs) ∧ Rd H b (.lst zs) ∧ xs.length + zs.length ≤ sizeLine ∧ Q .non (upd H l (.lst (xs ++ zs)))
theorem mt_extendR : MtR X "list.extend" rExtendR := by
  intro pins s σ H x vs v us Q I rx rv h
  obtain ⟨l, b, xs, zs, rfl, rfl, hH, hB, hz, q⟩ := h
  cases rx
  obtain ⟨u, rfl, ru⟩ := rv.one
  cases ru
  obtain ⟨z, its, n, r, hl, e⟩ := I.lstM hH
  obtain ⟨z2, its2, n2, r2, hl2, e2⟩ := lst_rd I hB
  have hsz : its.toArray.size + its2.toArray.size ≤ sizeLine := by rw [List.size_toArray, List.size_toArray]; omega
  have hlong : ¬ (!its.toArray.isEmpty && Builtin.List.listTooLong (its.toArray.size + its2.toArray.size)) = true := by
    rw [notLongL hsz, Bool.and_false]
    exact Bool.false_ne_true
  refine call_meets F.slot_list_extend ⟨_, e, rfl⟩ F.entry_list_extend (F.args_list_extend_2 _ _)
    (AutoSeq1.list_extend_list_list_0 l its.toArray n b its2.toArray n2 hlong (by rw [List.size_toArray]; omega) (by omega)) ⟨e, e2, ?_⟩
  refine ⟨.non, _, I.lset (its' := its ++ its2) hH e (by simp) (r.append r2) ?_, rfl, q⟩
  rw [List.length_append]
  omega
def fExtend (ws : List W) (w : W) : Option (W × List W) := match w.items with
  | some ds => if ws.length + ds.length ≤ sizeLine then some (.sh .non, ws ++ ds.map .sh) else none
  | none => none
theorem mth_extend {g : G} : MthOk g rExtendR fExtend := by
  intro F H S T a v ws ws' w wr Q gd d o1 o2 e k
  unfold fExtend at e
  split at e
  · rename_i ds e1
    split at e
    · rename_i c
      cases e
      obtain ⟨vs, ea, el⟩ : ∃ vs, H a = some (.lst vs) ∧ vs.length = ws.length := by
        cases o1 with
        | lst h1 h2 h3 h4 => exact ⟨_, h2, h4.length⟩
      obtain ⟨b, us, rfl, rb, dv⟩ := lst_of o2 gd.same e1
      refine ⟨a, b, vs, us, rfl, rfl, ea, rb, by rw [el, dv.length]; exact c, k _ .non (lstNew o1 ea d fun Tc h h' => ?_) (.sh .non)⟩
      exact ⟨U Tc Ep, fun b z => z.elim .inl fun z => z.elim, h'.append dv.ovs (Dj.ep _)⟩
    · cases e
  · cases e
/-! insert(i, x): two arguments -/
def mIns (i : Nat) (mk mv : ER W) : ER W := atLst i (bnd mk fun k => bnd mv fun w ρ => match ρ[i]?, k with
  | some (.lst ws), .sh (.int j) => if ws.length < sizeLine ∧ 0 ≤ j ∧ j < 2 ^ 63 then .ok (.sh .non) (ρ.set i (.lst (ws.take j.toNat ++ [w] ++ ws.drop j.toNat))) else .bad
  | _, _ => .bad)
abbrev rInsert : V → List V → Hp → VK → Prop := fun x vs H Q => ∃ (l : Addr) (xs : List V) (i : Int) (y : V), x = .ref l ∧ vs = [.int i, y] ∧ H l = some (.lst xs) ∧ xs.length < sizeLine ∧ 0 ≤ i ∧ i < 2 ^ 63 ∧ Q .non (upd H l (.lst (xs.take i.toNat ++ [y] ++ xs.drop i.toNat)))
theorem e_ins (h : PE X e (tBM X.K "list" rInsert (tVar i) (tCons (tE (gx X) Wx mk) (tCons (tE (gx X) Wx mv) tNil)))) : PE X e (tE (gx X) Wx (mIns i mk mv)) := peW h fun σ H Q q => by
  obtain ⟨ρ, F, S, gd, O, h⟩ := q
  unfold mIns atLst at h
  cases e : ρ[i]? with
  | none => rw [e] at h; exact h.elim
  | some w0 =>
    rw [e] at h
    cases w0 with
    | lst ws0 =>
      simp only at h
      obtain ⟨v, T0, q1, q5⟩ := slotAt O e (fun z => by cases z)
      cases q5 with
      | @lst a vs0 _ _ _ h1 h2 h3 h4 =>
        refine ⟨.ref a, q1, .inl ⟨rfl, _, .of h2⟩, ?_⟩
        refine tG_bind (R := OV (gx X)) ⟨ρ, F, S, gd, O, h⟩ fun k ρ0 vk F0 H0 S0 T0 d0 gd0 O0 r0 h => ?_
        refine ResP.bind (R := OV (gx X)) h d0 gd0 O0 fun w ρ1 v F1 H1 S1 T1 d1 d2 gd1 sb kp O r1 h => ?_
        cases k with
        | sh dk =>
          cases dk with
          | int j =>
            cases tup_dv r0
            cases e1 : ρ1[i]? with
            | none => simp only [e1] at h; exact h.elim
            | some w1 =>
              simp only [e1] at h
              cases w1 with
              | lst ws =>
                simp only at h
                by_cases c : ws.length < sizeLine ∧ 0 ≤ j ∧ j < 2 ^ 63
                · rw [if_pos c] at h
                  have gd1' : Good F1 H1 (U S1 T1) := gd1.sb .l
                  obtain ⟨v1, S3, p1, p2, p3, p4⟩ := slotWrite O gd1' d1 e1 (fun z => by cases z)
                  rw [q1] at p1
                  cases p1
                  obtain ⟨vs, ea, el⟩ : ∃ vs, H1 a = some (.lst vs) ∧ vs.length = ws.length := by
                    cases p2 with
                    | lst h1 h2 h3 h4 => exact ⟨_, h2, h4.length⟩
                  have ha : S3 a := by cases p2; assumption
                  refine ⟨a, vs, j, v, rfl, rfl, ea, by omega, c.2.1, c.2.2, ?_⟩
                  have ov := lstNew (us := vs.take j.toNat ++ [v] ++ vs.drop j.toNat) (xs := ws.take j.toNat ++ [w] ++ ws.drop j.toNat) p2 ea (d1.mono p3 (.refl T1)) fun Tc h h' => by
                    obtain ⟨A, B, a1, a2, a3, a4, a5⟩ := h'.parts j.toNat
                    have dA : Dj A T1 := d1.mono (fun b z => p3 b (h b (a1 b z)).1) (.refl T1)
                    have dB : Dj B T1 := d1.mono (fun b z => p3 b (h b (a2 b z)).1) (.refl T1)
                    exact ⟨U (U A T1) B, fun b z => z.elim (fun z => z.elim (fun z => .inl (a1 b z)) .inr) fun z => .inl (a2 b z), (a4.snoc r1 dA).append a5 fun b z z' => z.elim (fun z => a3 b z z') fun z => dB b z' z⟩
                  obtain ⟨st, O'⟩ := p4 a _ (.lst (ws.take j.toNat ++ [w] ++ ws.drop j.toNat)) ha ov
                  have h' := ResP.step gd1 ((Step.refl gd1).sb Sb.l) h
                  exact h' .non F1 _ (U S1 T1) Ep (Dj.ep _) (st.sb (Sb.u (.refl _) fun _ z => z.elim)) O' (.sh .non)
                · rw [if_neg c] at h; exact h.elim
              | _ => exact h.elim
          | _ =>
            exfalso
            revert h
            split <;> intro h <;> first | exact h | (rename_i z; cases z)
        | _ =>
          exfalso
          revert h
          split <;> intro h <;> first | exact h | (rename_i z; cases z)
    | _ => exact h.elim
/-! pop() -/
def mPop (i : Nat) : ER W := fun ρ => match ρ[i]? with
  | some (.lst ws) => match ws.getLast? with
    | some w => .ok w (ρ.set i (.lst ws.dropLast))
    | none => .bad
  | _ => .bad
theorem e_pop (h : PE X e (tBM0 X.K "list" rPop (tVar i))) : PE X e (tE (gx X) Wx (mPop i)) := peW h fun σ H Q q => by
  obtain ⟨ρ, F, S, gd, O, h⟩ := q
  unfold mPop at h
  cases e : ρ[i]? with
  | none => rw [e] at h; exact h.elim
  | some w0 =>
    rw [e] at h
    cases w0 with
    | lst ws =>
      simp only at h
      cases el : ws.getLast? with
      | none => rw [el] at h; exact h.elim
      | some w =>
        rw [el] at h
        simp only at h
        have gd' : Good F H (U S Ep) := gd.sb (Sb.u (.refl _) fun _ z => z.elim)
        obtain ⟨v1, S3, p1, p2, p3, p4⟩ := slotWrite O gd' (Dj.ep S) e (fun z => by cases z)
        cases p2 with
        | @lst a vs _ _ Tc h1 h2 h3 h4 =>
          have hn : ws = ws.dropLast ++ [w] := by
            obtain ⟨ne, ew⟩ := List.getLast?_eq_some_iff.mp el
            rw [ew]; simp
          have hlen : 0 < ws.length := by
            rw [hn, List.length_append]; simp
          obtain ⟨A, B, a1, a2, a3, a4, a5⟩ := h4.parts (ws.length - 1)
          have e1 : ws.take (ws.length - 1) = ws.dropLast := (List.dropLast_eq_take).symm
          have e2 : ws.drop (ws.length - 1) = [w] := by
            have hl : ws.length - 1 = ws.dropLast.length := by rw [List.length_dropLast]
            rw [hl]
            conv => lhs; rw [hn]
            simp
          have e3 : vs.take (ws.length - 1) = vs.dropLast := by rw [List.dropLast_eq_take, h4.length]
          rw [e1, e3] at a4
          rw [e2] at a5
          obtain ⟨y, ey, oy⟩ := a5.one
          have hy : vs[vs.length - 1]? = some y := by
            have : (vs.drop (ws.length - 1))[0]? = some y := by rw [ey]; rfl
            rw [List.getElem?_drop] at this
            rw [h4.length]; simpa using this
          refine ⟨.ref a, p1, .inl ⟨rfl, _, .of h2⟩, a, vs, y, rfl, rfl, h2, hy, ?_⟩
          -- the list without its last item; the item apart
          obtain ⟨o, S1, S2, q1, q2, q3, q4, q5, q6⟩ := O.focus e
          rcases q5 with z | ⟨v2, rfl, q5⟩
          · cases z
          rw [p1] at q1
          cases q1
          cases q5 with
          | @lst _ vs2 _ _ Tc2 g1 g2 g3 g4 =>
            rw [h2] at g2
            cases g2
            obtain ⟨A2, B2, b1, b2, b3, b4, b5⟩ := g4.parts (ws.length - 1)
            rw [e1, e3] at b4
            rw [e2, ey] at b5
            obtain ⟨y', ey', oy'⟩ := b5.one
            cases ey'
            have neA : ∀ b, A2 b → b ≠ a := fun b z => (g3 b (b1 b z)).2
            have neB : ∀ b, B2 b → b ≠ a := fun b z => (g3 b (b2 b z)).2
            have ovl : OV (gx X) F (upd H a (.lst vs.dropLast)) (.ref a) (.lst ws.dropLast) (fun b => b = a ∨ A2 b) := .lst (T := A2) (.inl rfl) upd_same (fun b z => ⟨.inr z, neA b z⟩) (b4.mono (.refl F) fun b z => upd_ne (neA b z))
            have ovy : OV (gx X) F (upd H a (.lst vs.dropLast)) y w B2 := oy'.mono (.refl F) fun b z => upd_ne (neB b z)
            have O2 := q6 (F' := F) (H' := upd H a (.lst vs.dropLast)) (o' := some (.ref a)) (w' := .lst ws.dropLast) (T := fun b => b = a ∨ A2 b) (.refl F) (fun b hb => upd_ne fun z => by subst z; exact q4 _ g1 hb) (fun b z z' => z.elim (fun z => by subst z; exact q4 _ g1 z') fun z => q4 b (g3 b (b1 b z)).1 z') (.inr ⟨_, rfl, ovl⟩)
            have e3' : σ.set i (some (.ref a)) = σ := setSelf p1
            rw [e3'] at O2
            have st := Step.write (o := HO.lst vs.dropLast) gd (q2 a g1)
            refine h y F _ (U (fun b => b = a ∨ A2 b) S2) B2 (fun b z z' => ?_) (st.sb ?_) O2 ovy
            · rcases z with (z | z) | z
              · exact neB b z' z
              · exact b3 b z z'
              · exact q4 b (g3 b (b2 b z')).1 z
            · refine Sb.u (Sb.u (fun b z => z.elim (fun z => by subst z; exact q2 _ g1) fun z => q2 b (g3 b (b1 b z)).1) q3) fun b z => q2 b (g3 b (b2 b z)).1
    | _ => exact h.elim
end
end Fp

set_option Elab.async false
set_option linter.all false
set_option maxRecDepth 100000
set_option maxHeartbeats 4000000
namespace Fp
open PySem PySem.Spec L2
open PyProof.Rows hiding St

/-! ### o[k] = v -/
def aput {κ α : Type} [DecidableEq κ] : List (κ × α) → κ → α → List (κ × α)
  | [], k, v => [(k, v)]
  | p :: r, k, v => if p.1 = k then (p.1, v) :: r else p :: aput r k v
def aputN : List (NestedKey × Addr × V) → NestedKey → Addr → V → List (NestedKey × Addr × V)
  | [], k, b, v => [(k, b, v)]
  | p :: r, k, b, v => if p.1 = k then (p.1, p.2.1, v) :: r else p :: aputN r k b v
theorem putK_aput {κ : Type} [DecidableEq κ] : ∀ {l : List (κ × V)} {k : κ} {v : V}, (l.map (·.1)).Nodup → putK l k v = aput l k v
  | [], k, v, _ => by simp [putK, aput]
  | p :: r, k, v, hn => by
    rw [List.map_cons, List.nodup_cons] at hn
    have ih := putK_aput (k := k) (v := v) hn.2
    by_cases e : p.1 = k
    · have hr : r.map (fun kv => if kv.1 = k then (kv.1, v) else kv) = r := by
        conv => rhs; rw [← List.map_id r]
        refine List.map_congr_left fun q hq => ?_
        have : q.1 ≠ k := fun z => hn.1 (by rw [e, ← z]; exact List.mem_map.mpr ⟨q, hq, rfl⟩)
        simp [this]
      simp [putK, aput, e]
      simpa using hr
    · unfold putK aput at *
      simp only [List.any_cons, e, decide_false, Bool.false_or, if_false]
      by_cases h : (r.any fun kv => decide (kv.1 = k)) = true
      · rw [if_pos h] at ih ⊢
        rw [List.map_cons, if_neg e, ih]
        cases r <;> rfl
      · rw [if_neg h] at ih ⊢
        rw [List.cons_append, ih]
        cases r <;> rfl
section
variable {g : G} {F H : Hp}
theorem OVs.set : ∀ {vs : List V} {ws : List W} {S T : AS} {v : V} {w : W} (j : Nat), OVs g F H vs ws S → OV g F H v w T → Dj S T → OVs g F H (vs.set j v) (ws.set j w) (U S T)
  | _, _, _, _, _, _, _, .nil, _, _ => .nil
  | _, _, _, _, _, _, 0, .cons (S1 := S1) (S2 := S2) h1 h2 h3 h4 h5, k, d => .cons (S1 := _) (S2 := S2) .r (fun a z => .inl (h2 a z)) (fun a z z' => d a (h2 a z') z) k h5
  | _, _, S, T, _, _, j + 1, .cons (S1 := S1) (S2 := S2) h1 h2 h3 h4 h5, k, d =>
    .cons (S1 := S1) (S2 := U S2 T) (fun a z => .inl (h1 a z)) (fun a z => z.elim (fun z => .inl (h2 a z)) .inr) (fun a z z' => z'.elim (h3 a z) fun z' => d a (h1 a z) z') h4 (OVs.set j h5 k (d.mono h2 (.refl T)))
theorem oks_put {S T : AS} {v : V} {w : W} {key : Key} : ∀ {l : List (Key × V)} {ws : List (NestedKey × W)} {S : AS}, OKs g F H (l.map fun p => (nk p.1, kV p.1, p.2)) ws S → OV g F H v w T → Dj S T → DV g F (kV key) (keyD (nk key)) →
    OKs g F H ((aput l key v).map fun p => (nk p.1, kV p.1, p.2)) (aput ws (nk key) w) (U S T)
  | [], _, _, h, k, d, dk => by
    cases h
    exact .cons (S1 := T) (S2 := Ep) .r (fun _ z => z.elim) (fun _ _ z => z) dk k .nil
  | (k0, v0) :: r, _, _, h, k, d, dk => by
    cases h with
    | @cons _ _ _ _ w0 ws S0 S1 S2 h1 h2 h3 h0 h4 h5 =>
      by_cases e : k0 = key
      · subst e
        simp only [aput, if_true, List.map_cons]
        exact .cons (S1 := T) (S2 := S2) .r (fun a z => .inl (h2 a z)) (fun a z z' => d a (h2 a z') z) h0 k h5
      · have e' : ¬ nk k0 = nk key := fun z => e (nk_inj z)
        simp only [aput, e, e', if_false, List.map_cons]
        exact .cons (S1 := S1) (S2 := U S2 T) (fun a z => .inl (h1 a z)) (fun a z => z.elim (fun z => .inl (h2 a z)) .inr) (fun a z z' => z'.elim (h3 a z) fun z' => d a (h1 a z) z') h0 h4 (oks_put (S := S) h5 k (d.mono h2 (.refl T)) dk)
theorem oks_putN {T : AS} {v : V} {w : W} {k : NestedKey} {b : Addr} : ∀ {l : List (NestedKey × Addr × V)} {ws : List (NestedKey × W)} {S : AS}, OKs g F H (tupL l) ws S → OV g F H v w T → Dj S T → DV g F (.ref b) (keyD k) →
    OKs g F H (tupL (aputN l k b v)) (aput ws k w) (U S T)
  | [], _, _, h, ov, d, dk => by
    cases h
    exact .cons (S1 := T) (S2 := Ep) .r (fun _ z => z.elim) (fun _ _ z => z) dk ov .nil
  | p :: r, _, _, h, ov, d, dk => by
    cases h with
    | @cons _ _ _ _ w0 ws S0 S1 S2 h1 h2 h3 h0 h4 h5 =>
      by_cases e : p.1 = k
      · simp only [aput, aputN, e, if_true, tupL, List.map_cons]
        exact .cons (S1 := T) (S2 := S2) .r (fun a z => .inl (h2 a z)) (fun a z z' => d a (h2 a z') z) (e ▸ h0) ov h5
      · simp only [aput, aputN, e, if_false, tupL, List.map_cons]
        exact .cons (S1 := S1) (S2 := U S2 T) (fun a z => .inl (h1 a z)) (fun a z => z.elim (fun z => .inl (h2 a z)) .inr) (fun a z z' => z'.elim (h3 a z) fun z' => d a (h1 a z) z') h0 h4 (oks_putN h5 ov (d.mono h2 (.refl T)) dk)
theorem oks_len {kv : List (NestedKey × V × V)} : ∀ {kv : List (NestedKey × V × V)} {ws : List (NestedKey × W)} {S : AS}, OKs g F H kv ws S → kv.length = ws.length
  | _, _, _, .nil => rfl
  | _, _, _, .cons _ _ _ _ _ h => by rw [List.length_cons, List.length_cons, oks_len (kv := []) h]
theorem aputN_ne {l : List (NestedKey × Addr × V)} {k : NestedKey} {b : Addr} {v : V} : aputN l k b v ≠ [] := by
  cases l with
  | nil => exact fun z => by cases z
  | cons p r =>
    unfold aputN
    split <;> exact fun z => by cases z
theorem aputN_len {k : NestedKey} {b : Addr} {v : V} : ∀ {l : List (NestedKey × Addr × V)}, (aputN l k b v).length ≤ l.length + 1
  | [] => Nat.le_refl _
  | p :: r => by
    unfold aputN
    split
    · simp
    · rw [List.length_cons, List.length_cons]; exact Nat.succ_le_succ aputN_len
theorem aputN_depth {k : NestedKey} {b : Addr} {v : V} (hk : k.depth ≤ 8) : ∀ {l : List (NestedKey × Addr × V)}, (∀ p ∈ l, p.1.depth ≤ 8) → ∀ p ∈ aputN l k b v, p.1.depth ≤ 8
  | [], _, p, hp => by
    rcases List.mem_cons.mp hp with rfl | hp
    · exact hk
    · cases hp
  | q :: r, h, p, hp => by
    unfold aputN at hp
    split at hp
    · rcases List.mem_cons.mp hp with rfl | hp
      · exact h q List.mem_cons_self
      · exact h p (List.mem_cons_of_mem _ hp)
    · rcases List.mem_cons.mp hp with rfl | hp
      · exact h _ List.mem_cons_self
      · exact aputN_depth hk (fun p hp => h p (List.mem_cons_of_mem _ hp)) p hp
theorem pl_put {k : NestedKey} {b : Addr} {v : V} {u : Value} (rv : RelV v u) : ∀ {l : List (NestedKey × Addr × V)} {xs : List (NestedKey × Addr × Value)}, PL l xs → (xs.map (·.1)).Nodup → PL (aputN l k b v) (storedH xs k b u)
  | _, _, .nil, _ => by
    have : storedH ([] : List (NestedKey × Addr × Value)) k b u = [(k, b, u)] := by simp [storedH, atKey]
    rw [this]
    exact .cons ⟨rfl, rfl, rv⟩ .nil
  | _, _, .cons (a := p) (b := q) (l₁ := l) (l₂ := xs) r t, hn => by
    rw [List.map_cons, List.nodup_cons] at hn
    obtain ⟨e1, e2, e3⟩ := r
    have ih := pl_put (k := k) (b := b) rv t hn.2
    by_cases e : p.1 = k
    · have eq : q.1 = k := e1 ▸ e
      have s1 : storedH (q :: xs) k b u = (q.1, q.2.1, u) :: xs := by
        have hr : xs.map (putAt k u) = xs := by
          conv => rhs; rw [← List.map_id xs]
          refine List.map_congr_left fun z hz => ?_
          have : z.1 ≠ k := fun y => hn.1 (by rw [eq, ← y]; exact List.mem_map.mpr ⟨z, hz, rfl⟩)
          simp [putAt, this]
        simp only [storedH, atKey, List.find?_cons, eq, decide_true, Option.map_some, Option.isSome_some, if_true, List.map_cons, hr]
        simp [putAt, eq]
      rw [s1]
      simp only [aputN, e, if_true]
      exact .cons ⟨e.symm.trans e1 , e2, rv⟩ t
    · have eq : ¬ q.1 = k := fun z => e (e1.trans z)
      have s1 : storedH (q :: xs) k b u = q :: storedH xs k b u := by
        have a1 : atKey (q :: xs) k = atKey xs k := by simp [atKey, eq]
        unfold storedH
        rw [a1]
        by_cases h : (atKey xs k).isSome = true
        · rw [if_pos h, if_pos h, List.map_cons]
          simp [putAt, eq]
        · rw [if_neg h, if_neg h, List.cons_append]
      rw [s1]
      simp only [aputN, e, if_false]
      exact .cons ⟨e1, e2, e3⟩ ih
end

def fSet : W → D → W → Option W
  | .lst ws, .int i, w => (ixN ws.length i).map fun j => .lst (ws.set j w)
  | .dct ws, d, w => match dKey d with
    | some k => if kOk (headK ws) k = true ∧ ws.length < sizeLine then some (.dct (aput ws k w)) else none
    | none => none
  | _, _, _ => none
def rSetM (g : G) : TSet := fun o y v H Q => ∃ F S T w1 d w w', Good F H (U S T) ∧ Dj S T ∧ OV g F H o w1 S ∧ DV g F y d ∧ OV g F H v w T ∧ fSet w1 d w = some w' ∧ ∀ a ob, S a → o = .ref a → OV g F (upd H a ob) o w' (U S T) → Q (upd H a ob)
theorem dk_nodup {X : Cx} {pins : List (Addr × Obj)} {σ : St} {H : Hp} {s : Shared} {a : Addr} {l : List (Key × V)} (I : Inv X pins σ H s) (r : Rd H a (.dK l)) : (l.map (·.1)).Nodup := by
  obtain ⟨_, _, vs, rel, _, _, _, _, _, _, _, _, hn⟩ := r.ok I.hok
  have : ∀ {l : List (Key × V)} {vs : List (Key × Value)}, KV l vs → l.map (·.1) = vs.map (·.1) := by
    intro l vs h
    induction h with
    | nil => rfl
    | cons r t ih => rw [List.map_cons, List.map_cons, ih, r.1]
  rw [this rel]
  exact hn
theorem dctNew {g : G} {F H : Hp} {a : Addr} {u : HO} {kv' : List (NestedKey × V × V)} {ws' : List (NestedKey × W)} {S T Tc : AS} (ha : S a) (h3 : ∀ b, Tc b → S b ∧ b ≠ a) (d : Dj S T) (di : DctIs g a u kv') (o : OKs g F H kv' ws' (U Tc T)) : OV g F (upd H a u) (.ref a) (.dct ws') (U S T) :=
  .dct (T := U Tc T) (.inl ha) upd_same di (fun b z => ⟨z.elim (fun z => .inl (h3 b z).1) .inr, z.elim (fun z => (h3 b z).2) fun z z' => by subst z'; exact d _ ha z⟩)
    (o.mono (.refl F) fun b z => upd_ne (z.elim (fun z => (h3 b z).2) fun z z' => by subst z'; exact d _ ha z))
theorem set_all {X : Cx} (hu : X.A.units + 64 < cLine) : PSet X (rSetM (gx X)) := by
  intro pins s σ H o y v ov iv u Q I ro ry rv h
  obtain ⟨F, S, T, w1, d, w, w', gd, dj, o1, dy, o2, e, k⟩ := h
  unfold fSet at e
  split at e
  · rename_i ws i
    simp only [Option.map_eq_some_iff] at e
    obtain ⟨j, e, rfl⟩ := e
    cases dy
    cases o1 with
    | @lst a vs _ _ Tc h1 h2 h3 h4 =>
      refine set_list pins s σ H _ _ v ov iv u Q I ro ry rv ⟨a, vs, i, j, rfl, rfl, h2, by rw [h4.length]; exact e, k a _ h1 rfl ?_⟩
      exact lstNew (.lst h1 h2 h3 h4) h2 dj fun Tc h h' => ⟨U Tc T, fun b z => z, h'.set j o2 (dj.mono (fun b z => (h b z).1) (.refl T))⟩
  · rename_i ws _
    split at e
    · rename_i kk ek
      split at e
      · rename_i c
        cases e
        have dyk : DV (gx X) F y (keyD kk) := by rw [dKey_D ek]; exact dy
        cases o1 with
        | @dct a uo kv _ _ Tc h1 h2 h3 h4 h5 =>
          obtain rfl : ov = Value.ref a := ro
          have hlen := oks_len (kv := []) h5
          rcases dct_case I gd.same (.of h2) h3 h5 c.1 with ⟨l, key, rfl, ek', rfl⟩ | ⟨l, xs, rfl, hu', hl, hd, hkd, hkt, hs', pl, dd⟩
          · have hy := dKey_flat dyk ek'
            subst hy
            have hn := dk_nodup I (.of h2)
            have hlt : l.length < sizeLine := by rw [List.length_map] at hlen; omega
            refine d_setItem (by omega) I (.inl ⟨l, key, h2, rfl, hlt, rfl⟩) ry rv fun s' I' => ⟨_, I', k a _ h1 rfl ?_⟩
            refine dctNew h1 h4 dj (.inl ⟨_, rfl, rfl⟩) ?_
            rw [putK_aput hn, ← keyF_nk ek']
            exact oks_put (S := Tc) h5 o2 (dj.mono (fun b z => (h4 b z).1) (.refl T)) (by rw [keyF_nk ek']; exact dyk)
          · cases kk with
            | tup ks =>
              have dyk' := dyk
              simp only [keyD] at dyk'
              cases dyk' with
              | @tup b _ _ g1 g2 =>
                obtain rfl : iv = Value.ref b := ry
                have key := nested_of I gd.same (.tup ks) (.ref b) (.ref b) dyk rfl
                have hxl : xs.length = l.length := (Paired.length pl).symm
                have hll : l.length < sizeLine := by
                  have : (tupL l).length = l.length := List.length_map _
                  omega
                have hn : (xs.map (·.1)).Nodup := by
                  obtain ⟨_, _, _, _, _, _, _, _, z⟩ := dd
                  exact z
                refine wpAny_setItem_heap (knd := nestedKind X.prog X.w) (hsz := by omega) (room9 hu) ⟨key, hkd⟩ dd fun h' dd' hs => ?_
                obtain ⟨q, es, ep, hq, e2, e3, e4, _, e5⟩ := dd'
                have mu : Mut (H a) := by
                  rw [h2]
                  rcases hu' with rfl | ⟨rfl, _⟩
                  · exact True.intro
                  · exact True.intro
                refine ⟨_, d_write (ob := DictO (gx X) a (aputN l (.tup ks) b v)) I mu hs ⟨q, hq⟩ ⟨⟨hs', q, es, ep, _, hq, e2, e3, e4, e5, pl_put rv pl hn⟩, ⟨q, hq⟩, ?_⟩, k a _ h1 rfl ?_⟩
                · rintro h1 h2 ⟨z0, o, es, ep, xs, z1, z2⟩ z
                  exact ⟨z0, o, es, ep, xs, z _ z1, z2⟩
                · refine dctNew h1 h4 dj (.inr ⟨_, rfl, aputN_ne, Nat.le_trans aputN_len hll, aputN_depth hkd hd, rfl⟩) ?_
                  exact oks_putN h5 o2 (dj.mono (fun b z => (h4 b z).1) (.refl T)) dyk
            | _ => cases hkt
      · cases e
    · cases e
  · cases e
end Fp

set_option Elab.async false
set_option linter.all false
set_option maxRecDepth 100000
set_option maxHeartbeats 4000000
namespace Fp
open PySem PySem.Spec L2
open PyProof.Rows hiding St

section
variable {X : Cx} {Wx : WX} {pn : Nat → Bool} {a b e : Expr} {es : List Expr} {m mk mv ma mb : ER W} {ms : ER (List W)} {pos apos cpos : Pos} {i : Nat} {st : Stmt} {g : G}
/-! ### x[k] = v, x a slot -/
def mSetV (i : Nat) (mk mv : ER W) : ER Fl := bnd mv fun v => bnd (mBv i) fun _ => bnd mk fun k => fun ρ => match ρ[i]?, k with
  | some w, .sh d => match fSet w d v with
    | some w' => .ok .nx (ρ.set i w')
    | none => .bad
  | _, _ => .bad
theorem s_setV (h : PS X st (tAsg (tE (gx X) Wx mv) (gSub (tVar i) (tE (gx X) Wx mk) (rSetM (gx X))))) : PS X st (tS (gx X) Wx pn (mSetV i mk mv)) := psW h fun D σ H q => by
  refine tS_bind q fun v ρ1 x F1 H1 S1 T1 d1 gd O r h => ?_
  unfold bnd at h
  cases e : mBv i ρ1 with
  | bad => simp only [e] at h; exact h.elim
  | exc c ρ2 => exact (mBv_no e).elim
  | ok w0 ρ2 =>
    simp only [e] at h
    obtain ⟨er, e0, hm⟩ := mBv_ok e
    subst er
    obtain ⟨vo, T0, q1, _⟩ := slotAt O e0 hm
    refine ⟨vo, q1, ?_⟩
    refine ResS.bind (R := OV (gx X)) (D := D) h d1 gd O fun k ρ3 y F2 H2 S2 T2 d2 d3 gd2 sb kp O2 r2 h2 => ?_
    cases e1 : ρ3[i]? with
    | none => simp only [e1] at h2; exact h2.elim
    | some w =>
      cases k with
      | sh d =>
        simp only [e1] at h2
        cases e2 : fSet w d v with
        | none => simp only [e2] at h2; exact h2.elim
        | some w' =>
          simp only [e2] at h2
          have gd2' : Good F2 H2 (U S2 T1) := gd2.sb (Sb.u (Sb.l.trans .l) .r)
          have dj : Dj S2 T1 := fun b z z' => d3 b (.inl z) z'
          have hm : w ≠ .mov := fun z => by subst z; simp [fSet] at e2
          obtain ⟨v1, S3, p1, p2, p3, p4⟩ := slotWrite O2 gd2' dj e1 hm
          rw [q1] at p1
          cases p1
          refine ⟨F2, S3, T1, w, d, v, w', gd2'.sb (Sb.u (p3.trans .l) .r), dj.mono p3 (.refl _), p2, tup_dv r2, r.mono sb kp, e2, fun a ob ha eo ov => ?_⟩
          obtain ⟨st, O'⟩ := p4 a ob w' ha ov
          have st0 : Step F2 (U (U S2 T2) T1) H2 F2 H2 (U S2 T1) := (Step.refl gd2).sb (Sb.u (Sb.l.trans .l) .r)
          exact h2 σ F2 _ (U S2 T1) (.refl _ _) (st0.trans gd2 st) O'
      | _ => simp only [e1] at h2; exact h2.elim
/-! ### a, b = e; x += e; a, b = e1, e2 -/
def mAsgT (t : D → Env → Option Env) (m : ER W) : ER Fl := bnd m fun w ρ => match w.data with
  | some d => match t d ρ with
    | some ρ' => .ok .nx ρ'
    | none => .bad
  | none => .bad
theorem s_asgT {t : D → Env → Option Env} (h : PS X st (tAsg (tE (gx X) Wx m) (tGt (gx X) pn t))) : PS X st (tS (gx X) Wx pn (mAsgT t m)) := psW h fun D σ H q => by
  refine tS_bind q fun w ρ1 x F1 H1 S1 T1 d1 gd O r h => ?_
  cases e : w.data with
  | none => simp only [e] at h; exact h.elim
  | some d =>
    simp only [e] at h
    cases e1 : t d ρ1 with
    | none => simp only [e1] at h; exact h.elim
    | some ρ' =>
      simp only [e1] at h
      have st := Step.share gd d1
      exact ⟨ρ1, frzF F1 H1 T1, S1, d, ρ', st.gd, O.mono st.ext (fun _ _ => rfl), r.share gd e, e1, fun σ' p' o => h σ' _ H1 S1 p' st o⟩
def mAugI (i : Nat) (f : Int → Int → Int) (m : ER W) : ER Fl := fun ρ => match ρ[i]? with
  | some (.sh (.int x)) => (bnd m fun w ρ1 => match w with
    | .sh (.int y) => if i < ρ1.length then .ok .nx (ρ1.set i (.sh (.int (f x y)))) else .bad
    | _ => .bad) ρ
  | _ => .bad
theorem s_augI {f : Int → Int → Int} (hp : pn i = false) (h : PS X st (tAug i (tE (gx X) Wx m) (ipI f))) : PS X st (tS (gx X) Wx pn (mAugI i f m)) := psW h fun D σ H q => by
  obtain ⟨ρ, F, S, gd, O, h⟩ := q
  unfold mAugI at h
  cases e : ρ[i]? with
  | none => rw [e] at h; exact h.elim
  | some w0 =>
    rw [e] at h
    cases w0 with
    | sh d =>
      cases d with
      | int x =>
        obtain ⟨v, T, q1, q2⟩ := slotAt O e (fun z => by cases z)
        cases tup_dv q2
        refine ⟨.int x, q1, ?_⟩
        refine tS_bind (R := OV (gx X)) (D := D) ⟨ρ, F, S, gd, O, h⟩ fun w ρ1 y F1 H1 S1 T1 d1 gd O r h => ?_
        cases w with
        | sh d =>
          cases d with
          | int y =>
            cases tup_dv r
            simp only at h
            by_cases c : i < ρ1.length
            · rw [if_pos c] at h
              exact ⟨x, y, rfl, rfl, h _ F1 H1 S1 (PinEq.set hp) ((Step.refl gd).sb .l) ((O.put c (.sh (.int _)) (Dj.ep _)).wk (Sb.u (.refl _) fun _ z => z.elim))⟩
            · rw [if_neg c] at h; exact h.elim
          | _ => exact h.elim
        | _ => exact h.elim
      | _ => exact h.elim
    | _ => exact h.elim
def mPar (i j : Nat) (ma mb : ER W) : ER Fl := bnd ma fun w1 => bnd mb fun w2 => fun ρ => match w1, w2 with
  | .sh d1, .sh d2 => if i < ρ.length ∧ j < ρ.length then .ok .nx ((ρ.set i (.sh d1)).set j (.sh d2)) else .bad
  | _, _ => .bad
theorem s_par {j : Nat} (hi : pn i = false) (hj : pn j = false) (h : PS X st (tPar i j (tCons (tE (gx X) Wx ma) (tCons (tE (gx X) Wx mb) tNil)))) : PS X st (tS (gx X) Wx pn (mPar i j ma mb)) := psW h fun D σ H q => by
  refine tS_bind q fun w1 ρ1 x F1 H1 S1 T1 d1 gd O r h => ?_
  refine ResS.bind (R := OV (gx X)) (D := D) h d1 gd O fun w2 ρ2 y F2 H2 S2 T2 d2 d3 gd2 sb kp O2 r2 h2 => ?_
  cases w1 with
  | sh a1 =>
    cases w2 with
    | sh a2 =>
      simp only at h2
      by_cases c : i < ρ2.length ∧ j < ρ2.length
      · rw [if_pos c] at h2
        have O3 := (O2.put c.1 (.sh ((tup_dv r).sub sb)) (Dj.ep S2)).wk (Sb.u (.refl _) fun _ z => z.elim)
        have O4 := (O3.put (i := j) (by rw [List.length_set]; exact c.2) (.sh (tup_dv r2)) (Dj.ep S2)).wk (Sb.u (.refl _) fun _ z => z.elim)
        exact ⟨x, y, rfl, h2 _ F2 H2 S2 ((PinEq.set hi).trans (PinEq.set hj)) ((Step.refl gd2).sb (Sb.l.trans .l)) O4⟩
      · rw [if_neg c] at h2; exact h2.elim
    | _ => exact h2.elim
  | _ => exact h2.elim
/-! ### in a dict -/
def rInD (g : G) (neg : Bool) : R2 := fun y x H Q => ∃ F S w1 d o, Same F H ∧ OV g F H x w1 S ∧ DV g F y d ∧ w1.look d = some o ∧ Q (.bl (if neg then !o.isSome else o.isSome)) H
theorem op_inD {X : Cx} (hu : X.A.units + 64 < cLine) : OpR X (compareOp .In) (rInD (gx X) false) := by
  intro pins s σ H y x u v Q I ry rx h
  obtain ⟨F, S, w1, d, o, sm, o1, dy, e, q⟩ := h
  unfold W.look at e
  split at e
  · rename_i ws k e1 e2
    split at e
    · rename_i c
      cases e
      obtain ⟨a, uo, kv, T, rfl, r, di, os⟩ := dkids_of o1 sm e1
      obtain rfl : v = Value.ref a := rx
      have dyk : DV (gx X) F y (keyD k) := by rw [dKey_D e2]; exact dy
      rcases dct_case I sm r di os c with ⟨l, key, rfl, ek, rfl⟩ | ⟨l, xs, rfl, hu', hl, hd, hkd, hkt, hs', pl, dd⟩
      · have hy := dKey_flat dyk ek
        subst hy
        have hl := dk_look key os
        rw [keyF_nk ek] at hl
        refine d_in (o := valV l key) (by omega) I (.inl ⟨l, key, r, rfl, rfl⟩) ry fun s' I' => ⟨.bl _, H, I', rfl, ?_⟩
        cases e3 : alook ws k with
        | none => rw [e3] at hl q; simp only at hl; rw [hl]; exact q
        | some w => rw [e3] at hl q; obtain ⟨z, T', e5, ov⟩ := hl; rw [e5]; exact q
      · cases k with
        | tup ks =>
          have dyk' := dyk
          simp only [keyD] at dyk'
          cases dyk' with
          | @tup b _ _ h1 h2 =>
            cases (show u = Value.ref b from ry)
            have key := nested_of I sm (.tup ks) (.ref b) (.ref b) dyk rfl
            have hn := dn_look (.tup ks) pl os
            refine wpAny_in_heap (knd := nestedKind X.prog X.w) (room9 hu) ⟨key, hkd⟩ hs' dd ⟨.bl _, H, I.tok _, rfl, ?_⟩
            cases e3 : alook ws (.tup ks) with
            | none => rw [e3] at hn q; simp only at hn; rw [hn]; exact q
            | some w => rw [e3] at hn q; obtain ⟨z, p, T', e5, _, ov⟩ := hn; rw [e5]; exact q
        | _ => cases hkt
    · cases e
  · cases e
theorem op_notInD {X : Cx} (hu : X.A.units + 64 < cLine) : OpR X (compareOp .NotIn) (rInD (gx X) true) := by
  intro pins s σ H y x u v Q I ry rx h
  obtain ⟨F, S, w1, d, o, sm, o1, dy, e, q⟩ := h
  unfold W.look at e
  split at e
  · rename_i ws k e1 e2
    split at e
    · rename_i c
      cases e
      obtain ⟨a, uo, kv, T, rfl, r, di, os⟩ := dkids_of o1 sm e1
      obtain rfl : v = Value.ref a := rx
      have dyk : DV (gx X) F y (keyD k) := by rw [dKey_D e2]; exact dy
      rcases dct_case I sm r di os c with ⟨l, key, rfl, ek, rfl⟩ | ⟨l, xs, rfl, hu', hl, hd, hkd, hkt, hs', pl, dd⟩
      · have hy := dKey_flat dyk ek
        subst hy
        have hl := dk_look key os
        rw [keyF_nk ek] at hl
        refine d_notIn (o := valV l key) (by omega) I (.inl ⟨l, key, r, rfl, rfl⟩) ry fun s' I' => ⟨.bl _, H, I', rfl, ?_⟩
        cases e3 : alook ws k with
        | none => rw [e3] at hl q; simp only at hl; rw [hl]; exact q
        | some w => rw [e3] at hl q; obtain ⟨z, T', e5, ov⟩ := hl; rw [e5]; exact q
      · cases k with
        | tup ks =>
          have dyk' := dyk
          simp only [keyD] at dyk'
          cases dyk' with
          | @tup b _ _ h1 h2 =>
            cases (show u = Value.ref b from ry)
            have key := nested_of I sm (.tup ks) (.ref b) (.ref b) dyk rfl
            have hn := dn_look (.tup ks) pl os
            refine wpAny_notIn_heap (knd := nestedKind X.prog X.w) (room9 hu) ⟨key, hkd⟩ hs' dd ⟨.bl _, H, I.tok _, rfl, ?_⟩
            cases e3 : alook ws (.tup ks) with
            | none => rw [e3] at hn q; simp only at hn; rw [hn]; exact q
            | some w => rw [e3] at hn q; obtain ⟨z, p, T', e5, _, ov⟩ := hn; rw [e5]; exact q
        | _ => cases hkt
    · cases e
  · cases e
def fInD (neg : Bool) : W → W → Option W
  | .sh d, b => (b.look d).map fun o => .sh (.bl (if neg then !o.isSome else o.isSome))
  | _, _ => none
theorem op2_inD {neg : Bool} : Op2 g (rInD g neg) (fInD neg) := by
  intro F H S1 S2 x y w1 w2 w Q s o1 o2 e q
  unfold fInD at e
  split at e
  · rename_i d
    simp only [Option.map_eq_some_iff] at e
    obtain ⟨o, e, rfl⟩ := e
    exact ⟨F, S2, _, d, o, s, o2, tup_dv o1, e, q _ F H Ep (stayE s) (.sh (.bl _))⟩
  · cases e
def fIn (neg : Bool) (a b : W) : Option W := match fInStr neg a b with
  | some w => some w
  | none => match fInSeq neg a b with
    | some w => some w
    | none => fInD neg a b
abbrev rInA (g : G) (neg : Bool) : R2 := fun x y H Q => rInStr neg x y H Q ∨ rIn g.K neg x y H Q ∨ rInD g neg x y H Q
theorem or_in (hu : X.A.units + 64 < cLine) : OpR X (compareOp .In) (rInA (gx X) false) := (show OpR X _ (rInStr false) from op_in_sign).or (op_in_seq.or (op_inD hu))
theorem or_notIn (hu : X.A.units + 64 < cLine) : OpR X (compareOp .NotIn) (rInA (gx X) true) := (show OpR X _ (rInStr true) from op_notIn_sign).or (op_notIn_seq.or (op_notInD hu))
theorem o2_in {neg : Bool} : Op2 g (rInA g neg) (fIn neg) := op2_inStr.or (op2_inSeq.or op2_inD)
end
end Fp

set_option Elab.async false
set_option linter.all false
set_option maxRecDepth 100000
set_option maxHeartbeats 4000000
namespace Fp
open PySem PySem.Spec L2
open PyProof.Rows hiding St

/-! ### defs -/
def Bk (σ : St) : List (Option Nat) → List V → Prop
  | [], [] => True
  | none :: bs, _ :: vs => Bk σ bs vs
  | some i :: bs, v :: vs => σ[i]? = some (some v) ∧ Bk σ bs vs
  | _, _ => False
/-- arguments: shared data, or a slot's value handed over (and handed back) -/
def tAc (g : G) (Wx : WX) (bk : List (Option Nat)) (m : ER (List W)) : TA := fun σ H Q => tG (fun F H vs ws S => OVs g F H vs ws S ∧ Bk σ bk vs) g Wx m σ H Q
def mFr (m : ER W) : ER W := bnd m fun w => match w.data with
  | some d => rt (.sh d)
  | none => bad
def restore : List (Option Nat) → List W → Env → Env
  | some i :: bs, w :: ws, ρ => restore bs ws (ρ.set i w)
  | none :: bs, _ :: ws, ρ => restore bs ws ρ
  | _, _, ρ => ρ
def mCall (f : List W → Out W) (bk : List (Option Nat)) (ms : ER (List W)) : ER W := bnd ms fun ws ρ => match f ws with
  | .ok w ws' => .ok w (restore bk ws' ρ)
  | .exc c ws' => .exc c (restore bk ws' ρ)
  | .bad => .bad
def spF (g : G) (f : List W → Out W) (n : Nat) : Sp := fun vs H Q E => vs.length = n ∧ ∃ F S ws, Good F H S ∧ OSs g F H (vs.map some) ws S ∧ match f ws with
  | .ok w ws' => ∀ v F' H' S1 S2, Dj S1 S2 → Step F S H F' H' (U S1 S2) → OSs g F' H' (vs.map some) ws' S1 → OV g F' H' v w S2 → Q v H'
  | .exc c ws' => ∀ cls F' H' S1, g.mg c = some cls → Step F S H F' H' S1 → OSs g F' H' (vs.map some) ws' S1 → E cls none H'
  | .bad => False
section
variable {g : G} {F H : Hp}
theorem OVs.oss : ∀ {vs : List V} {ws : List W} {S : AS}, OVs g F H vs ws S → OSs g F H (vs.map some) ws S
  | _, _, _, .nil => .nil
  | _, _, _, .cons h1 h2 h3 h4 h5 => .cons h1 h2 h3 (.inr ⟨_, rfl, h4⟩) (OVs.oss h5)
theorem OSs.putO {σ : St} {ρ : Env} {S T : AS} {i : Nat} {v : V} {w : W} (O : OSs g F H σ ρ S) (e : σ[i]? = some (some v)) (ov : OO g F H (some v) w T) (d : Dj S T) : OSs g F H σ (ρ.set i w) (U S T) := by
  have hi : i < ρ.length := by rw [← O.length]; exact (List.getElem?_eq_some_iff.mp e).1
  obtain ⟨o, S1, S2, q1, q2, q3, q4, q5, q6⟩ := O.focus (List.getElem?_eq_getElem hi)
  rw [e] at q1
  cases q1
  have q := (q6 (w' := w) (o' := some v) (.refl F) (fun _ _ => rfl) (fun a z z' => d a (q3 a z') z) ov).wk (S' := U S T) (Sb.u .r (q3.trans .l))
  rw [setSelf e] at q
  exact q
theorem restore_ok {σ : St} : ∀ {bk : List (Option Nat)} {vs : List V} {ws : List W} {ρ : Env} {S T : AS}, OSs g F H σ ρ S → OSs g F H (vs.map some) ws T → Dj S T → Bk σ bk vs → OSs g F H σ (restore bk ws ρ) (U S T)
  | [], vs, ws, ρ, S, T, O, P, d, b => by
    have : restore [] ws ρ = ρ := by cases ws <;> rfl
    rw [this]; exact O.wk .l
  | none :: bs, vs, ws, ρ, S, T, O, P, d, b => by
    cases vs with
    | nil => cases b
    | cons v vs =>
      cases ws with
      | nil => exact O.wk .l
      | cons w ws =>
        cases P with
        | cons h1 h2 h3 h4 h5 => exact (restore_ok O h5 (d.mono (.refl S) h2) b).wk (Sb.u .l fun a z => .inr (h2 a z))
  | some i :: bs, vs, ws, ρ, S, T, O, P, d, b => by
    cases vs with
    | nil => cases b
    | cons v vs =>
      cases ws with
      | nil => exact O.wk .l
      | cons w ws =>
        cases P with
        | @cons _ _ _ _ _ S1 S2 h1 h2 h3 h4 h5 =>
          have O' := O.putO b.1 h4 (d.mono (.refl S) h1)
          refine (restore_ok O' h5 (fun a z z' => z.elim (fun z => d a z (h2 a z')) fun z => h3 a z z') b.2).wk ?_
          exact Sb.u (Sb.u .l fun a z => .inr (h1 a z)) fun a z => .inr (h2 a z)
theorem OSs.app : ∀ {σ τ : St} {ρ θ : Env} {S T : AS}, OSs g F H σ ρ S → OSs g F H τ θ T → Dj S T → OSs g F H (σ ++ τ) (ρ ++ θ) (U S T)
  | _, _, _, _, _, _, .nil, h, _ => h.wk .r
  | _, _, _, _, S, T, .cons (S1 := S1) (S2 := S2) h1 h2 h3 h4 h5, h, d =>
    .cons (S1 := S1) (S2 := U S2 T) (fun a z => .inl (h1 a z)) (fun a z => z.elim (fun z => .inl (h2 a z)) .inr) (fun a z z' => z'.elim (h3 a z) (fun z' => d a (h1 a z) z')) h4 (OSs.app h5 h (d.mono h2 (.refl T)))
theorem OSs.movs {o : Option V} : ∀ (n : Nat), OSs g F H (List.replicate n o) (List.replicate n .mov) Ep
  | 0 => .nil
  | n + 1 => .cons (S1 := Ep) (S2 := Ep) (fun _ z => z) (fun _ z => z) (fun _ z _ => z) (.inl rfl) (OSs.movs n)
/-- what a def's parameters hold at its end: of those that are pinned -/
def finA (pn : Nat → Bool) : Nat → Nat → Env → List W
  | _, 0, _ => []
  | i, n + 1, w :: ρ => (if pn i then w else .mov) :: finA pn (i + 1) n ρ
  | i, n + 1, [] => .mov :: finA pn (i + 1) n []
theorem finA_ok {pn : Nat → Bool} : ∀ {vs : List V} {σ : St} {ρ : Env} {S : AS} {i : Nat}, OSs g F H σ ρ S → (∀ j, pn (i + j) = true → ∀ v, vs[j]? = some v → σ[j]? = some (some v)) → OSs g F H (vs.map some) (finA pn i vs.length ρ) S
  | [], _, _, _, _, _, _ => .nil
  | v :: vs, _, _, _, i, .nil, k => by
    simp only [List.length_cons, finA, List.map_cons]
    refine .cons (S1 := Ep) (S2 := Ep) (fun _ z => z.elim) (fun _ z => z.elim) (fun _ z _ => z) (.inl rfl) (finA_ok (i := i + 1) .nil fun j hj u hu => ?_)
    have := k (j + 1) (by rw [show i + (j + 1) = i + 1 + j by omega]; exact hj) u (by simpa using hu)
    simp at this
  | v :: vs, _, _, _, i, .cons (o := o) (w := w) h1 h2 h3 h4 h5, k => by
    simp only [List.length_cons, finA, List.map_cons]
    refine .cons h1 h2 h3 ?_ (finA_ok (i := i + 1) h5 fun j hj u hu => ?_)
    · by_cases hp : pn i = true
      · rw [if_pos hp]
        have := k 0 hp v rfl
        simp at this
        subst this
        exact h4
      · rw [if_neg hp]; exact .inl rfl
    · have := k (j + 1) (by rw [show i + (j + 1) = i + 1 + j by omega]; exact hj) u (by simpa using hu)
      simpa using this
end
/-- a def's run: np parameters, nl other slots -/
def runF (pn : Nat → Bool) (np nl : Nat) (body : ER Fl) (ws : List W) : Out W := match body (ws ++ List.replicate nl .mov) with
  | .ok .nx ρ => .ok (.sh .non) (finA pn 0 np ρ)
  | .ok (.rt w) ρ => .ok w (finA pn 0 np ρ)
  | .exc c ρ => .exc c (finA pn 0 np ρ)
  | _ => .bad
section
variable {P : Program} {w : World} {K : PySem.W.Frag} {mg : Str → Option Value} {base : Heap}
theorem fn_ok {x qual : Str} {st : Stmt} {f : Addr} {fd : FuncData} {N ps : List Str} {k : Nat} {pn : Nat → Bool} {m : ER Fl} (F : Fun K x qual st f fd) (S : FnScope N ps (defScope st)) (hle : ps.length ≤ N.length)
    (hb : ∀ (cdv : Value) (A : Around) (outer : List PySem.Env) (s : Shared) (H : Hp) (E : XK), Room k (A.deeper (envOfC qual (defScope st) s.heap.objs.size f cdv)) →
      PSs (cxOf (L2.CX P w) P w K mg base N qual (defScope st) f cdv A outer s H E) (defBody st) (tS ⟨P, w, K, mg⟩ (fun cls d _ H' => E cls d H') pn m)) :
    FnOk P w K mg base (L2.CX P w) (k + 1) f fd ps (spF ⟨P, w, K, mg⟩ (runF pn ps.length (N.length - ps.length) m) ps.length) := by
  refine F.okX S (fun vs H Q E h => h.1) fun cdv A outer s H vs Q E hr h => ⟨_, hb cdv A outer s H E hr, ?_⟩
  obtain ⟨hl, F0, S0, ws, gd, O, h⟩ := h
  have hws : ws.length = ps.length := by rw [← O.length, List.length_map, hl]
  refine ⟨ws ++ List.replicate (N.length - ps.length) .mov, F0, S0, gd, ?_, ?_⟩
  · unfold L2.start
    rw [hl]
    exact (O.app (OSs.movs _) (Dj.ep _)).wk (Sb.u (.refl _) fun _ z => z.elim)
  · have hst : ∀ (j : Nat) (v : V), vs[j]? = some v → (L2.start N vs)[j]? = some (some v) := fun j v hv => by
      have hj : j < vs.length := (List.getElem?_eq_some_iff.mp hv).1
      unfold L2.start
      rw [List.getElem?_append_left (by rw [List.length_map]; exact hj), List.getElem?_map, hv]
      rfl
    have fin : ∀ {σ' : St} {F' H' : Hp} {S' : AS} {ρ' : Fp.Env}, PinEq pn (L2.start N vs) σ' → OSs ⟨P, w, K, mg⟩ F' H' σ' ρ' S' → OSs ⟨P, w, K, mg⟩ F' H' (vs.map some) (finA pn 0 ps.length ρ') S' := fun {σ' F' H' S' ρ'} p o => by
      rw [← hl]
      refine finA_ok o fun j hj v hv => ?_
      rw [p j (by simpa using hj)]
      exact hst j v hv
    unfold runF at h
    cases r : m (ws ++ List.replicate (N.length - ps.length) .mov) with
    | ok fl ρ' =>
      rw [r] at h
      cases fl with
      | nx => exact fun σ' F' H' S' p s o => h .non F' H' S' Ep (Dj.ep _) (s.sb (Sb.u (.refl _) fun _ z => z.elim)) (fin p o) (.sh .non)
      | rt w => exact fun v σ' F' H' S1 S2 p d s o ov => h v F' H' S1 S2 d s (fin p o) ov
      | bk => exact h.elim
      | ct => exact h.elim
    | exc c ρ' =>
      rw [r] at h
      exact fun cls σ' F' H' S' p e s o => h cls F' H' S' e s (fin p o)
    | bad => rw [r] at h; exact h.elim
end
section
variable {X : Cx} {Wx : WX} {pn : Nat → Bool} {a b e : Expr} {es : List Expr} {m : ER W} {ms : ER (List W)} {pos apos cpos : Pos} {i : Nat} {st : Stmt} {g : G} {bk : List (Option Nat)}
theorem e_fr (h : PE X e (tE (gx X) Wx m)) : PE X e (tE (gx X) Wx (mFr m)) := peW h fun σ H Q q => by
  refine tG_bind (R2 := OV (gx X)) q fun w ρ1 v F1 H1 S1 T1 d1 gd O r h => ?_
  cases e : w.data with
  | none => simp only [e] at h; exact h.elim
  | some d =>
    simp only [e] at h
    have st := Step.share gd d1
    exact h v (frzF F1 H1 T1) H1 S1 Ep (Dj.ep _) (st.sb (Sb.u (.refl _) fun _ z => z.elim)) (O.mono st.ext fun _ _ => rfl) (.sh (r.share gd e))
theorem ac_nil : PA X [] (tAc (gx X) Wx [] (rt [])) := paW pa_nil fun σ H Q q => by
  obtain ⟨ρ, F, S, gd, O, h⟩ := q
  exact h.ans0 gd O [] F H Ep (Step.refl (gd.sb fun _ z => z.elim)) ⟨.nil, trivial⟩
theorem w_acd : ∀ σ H Q, tAc (gx X) Wx (none :: bk) (mCons m ms) σ H Q → tCons (tE (gx X) Wx m) (tAc (gx X) Wx bk ms) σ H Q := fun σ H Q q => by
  refine tG_bind (R := OV (gx X)) q fun wa ρ1 v1 F1 H1 S1 T1 d1 gd O r1 h => ?_
  refine ResP.bind (R := fun F H vs ws S => OVs (gx X) F H vs ws S ∧ Bk σ bk vs) h d1 gd O fun wb ρ2 v2 F2 H2 S2 T2 d2 d3 gd2 sb k O2 r2 h2 => ?_
  have st : Step F2 (U (U S2 T2) T1) H2 F2 H2 (U S2 (U T1 T2)) := (Step.refl gd2).sb (Sb.u (Sb.l.trans .l) (Sb.u .r (Sb.r.trans .l)))
  refine h2 (v1 :: v2) F2 H2 S2 (U T1 T2) (fun x z z' => ?_) st O2 ⟨.cons .l .r (fun x z z' => d3 x (.inr z') z) (r1.mono sb k) r2.1, r2.2⟩
  rcases z' with z' | z'
  · exact d3 x (.inl z) z'
  · exact d2 x z z'
theorem ac_d (ha : PE X e (tE (gx X) Wx m)) (hr : PA X es (tAc (gx X) Wx bk ms)) (hs : starEach (e :: es) X.env = (false, eval e X.env) :: starEach es X.env := by rfl) : PA X (e :: es) (tAc (gx X) Wx (none :: bk) (mCons (mFr m) ms)) := paW (pa_cons (e_fr ha) hr hs) w_acd
/-- the slot's value handed over -/
theorem w_acm : ∀ σ H Q, tAc (gx X) Wx (some i :: bk) (mCons (mMv i) ms) σ H Q → tCons (tVar i) (tAc (gx X) Wx bk ms) σ H Q := fun σ H Q q => by
  obtain ⟨ρ, F, S, gd, O, h⟩ := q
  unfold mCons at h
  rw [bnd] at h
  unfold mMv at h
  cases e1 : ρ[i]? with
  | none => rw [e1] at h; exact h.elim
  | some w =>
    rw [e1] at h
    obtain ⟨o, S1, S2, q1, q2, q3, q4, q5, q6⟩ := O.focus e1
    rcases q5 with rfl | ⟨v, rfl, q5⟩
    · exact h.elim
    · refine ⟨v, q1, ?_⟩
      have h' : ResP (fun F H vs ws S => OVs (gx X) F H vs ws S ∧ Bk σ (some i :: bk) vs) (gx X) Wx σ F S H (bnd ms (fun ws => rt (w :: ws)) (ρ.set i .mov)) Q := by
        cases w with
        | mov => exact h.elim
        | _ => exact h
      have O2 := q6 (F' := F) (H' := H) (o' := some v) (w' := .mov) (T := Ep) (.refl F) (fun _ _ => rfl) (fun _ z => z.elim) (.inl rfl)
      have e3 : σ.set i (some v) = σ := setSelf q1
      rw [e3] at O2
      have O3 := O2.wk (S' := S2) (Sb.u (fun _ z => z.elim) (.refl _))
      have gd' : Good F H (U S2 S1) := gd.sb (Sb.u q3 q2)
      have h'' := ResP.step (S2 := U S2 S1) gd ((Step.refl gd).sb (Sb.u q3 q2)) h'
      refine ResP.bind (R := fun F H vs ws S => OVs (gx X) F H vs ws S ∧ Bk σ bk vs) h'' q4.symm gd' O3 fun wb ρ2 v2 F2 H2 S3 T3 d2 d3 gd2 sb k O4 r2 h2 => ?_
      have st : Step F2 (U (U S3 T3) S1) H2 F2 H2 (U S3 (U S1 T3)) := (Step.refl gd2).sb (Sb.u (Sb.l.trans .l) (Sb.u .r (Sb.r.trans .l)))
      refine h2 (v :: v2) F2 H2 S3 (U S1 T3) (fun x z z' => ?_) st O4 ⟨.cons .l .r (fun x z z' => d3 x (.inr z') z) (q5.mono sb k) r2.1, q1, r2.2⟩
      rcases z' with z' | z'
      · exact d3 x (.inl z) z'
      · exact d2 x z z'
theorem ac_m (ha : PE X e (tVar i)) (hr : PA X es (tAc (gx X) Wx bk ms)) (hs : starEach (e :: es) X.env = (false, eval e X.env) :: starEach es X.env := by rfl) : PA X (e :: es) (tAc (gx X) Wx (some i :: bk) (mCons (mMv i) ms)) := paW (pa_cons ha hr hs) w_acm
theorem e_call {f : List W → Out W} {n : Nat} (hn : bk.length = n) (h : PE X e (tCallS (spF (gx X) f n) (WE Wx) (tAc (gx X) Wx bk ms))) : PE X e (tE (gx X) Wx (mCall f bk ms)) := peW h fun σ H Q q => by
  refine tG_bind (R := fun F H vs ws S => OVs (gx X) F H vs ws S ∧ Bk σ bk vs) q fun ws ρ1 vs F1 H1 S1 T1 d1 gd O r h => ?_
  obtain ⟨r, hb⟩ := r
  have hl : ∀ {bk : List (Option Nat)} {vs : List V}, Bk σ bk vs → vs.length = bk.length := by
    intro bk
    induction bk with
    | nil => intro vs h; cases vs with | nil => rfl | cons _ _ => exact h.elim
    | cons o bk ih =>
      intro vs h
      cases vs with
      | nil => cases o <;> exact h.elim
      | cons v vs =>
        cases o with
        | none => rw [List.length_cons, List.length_cons, ih h]
        | some i => rw [List.length_cons, List.length_cons, ih h.2]
  refine ⟨(hl hb).trans hn, F1, T1, ws, gd.sb .r, r.oss, ?_⟩
  have gd' : Good F1 H1 (U T1 S1) := gd.sb (Sb.u .r .l)
  cases e : f ws with
  | ok w ws' =>
    simp only [e] at h
    intro v F' H' A B dAB st O' ov
    obtain ⟨st2, dj⟩ := st.frame gd' d1.symm
    have O1 := O.mono st.ext (st.keep gd' d1.symm)
    have O2 := restore_ok O1 O' (fun x z z' => dj x (.inl z') z) hb
    refine h v F' H' (U S1 A) B (fun x z z' => ?_) ((st2.more (Sb.u .r .l)).sb ?_) O2 ov
    · rcases z with z | z
      · exact dj x (.inr z') z
      · exact dAB x z z'
    · exact Sb.u (Sb.u .r (Sb.l.trans .l)) (Sb.r.trans .l)
  | exc c ws' =>
    simp only [e] at h
    intro cls F' H' A hc st O'
    obtain ⟨st2, dj⟩ := st.frame gd' d1.symm
    have O1 := O.mono st.ext (st.keep gd' d1.symm)
    have O2 := restore_ok O1 O' (fun x z z' => dj x z' z) hb
    exact h cls F' H' (U S1 A) hc ((st2.more (Sb.u .r .l)).sb (Sb.u .r .l)) O2
  | bad => simp only [e] at h; exact h.elim
end
end Fp

set_option Elab.async false
set_option linter.all false
set_option maxRecDepth 100000
set_option maxHeartbeats 4000000
namespace Fp
open PySem PySem.Spec L2
open PyProof.Rows hiding St

/-! ### comprehensions -/
def W0 : WX := fun _ _ _ _ => False
def wipeE (ρ : Env) : List Nat → Env
  | [] => ρ
  | v :: vs => (wipeE ρ vs).set v .mov
def shOnly : Option W → W
  | some (.sh d) => .sh d
  | _ => .mov
def unwipe (ρ0 : Env) : List Nat → Env → Env
  | [], ρ => ρ
  | v :: vs, ρ => (unwipe ρ0 vs ρ).set v (shOnly ρ0[v]?)
def lcB (t : D → Env → Option Env) (vs : List Nat) (p : ER Bool) (m : ER W) : List D → List W → Env → Out W
  | [], acc, ρ => .ok (.lst acc) ρ
  | d :: ds, acc, ρ => match t d ρ with
    | none => .bad
    | some ρ1 => match p ρ1 with
      | .ok true ρ2 => (match m ρ2 with
        | .ok w ρ3 => if acc.length < sizeLine then lcB t vs p m ds (acc ++ [w]) (wipeE ρ3 vs) else .bad
        | _ => .bad)
      | .ok false ρ2 => lcB t vs p m ds acc (wipeE ρ2 vs)
      | _ => .bad
def mLc (me : ER (List D)) (t : D → Env → Option Env) (vs : List Nat) (p : ER Bool) (m : ER W) : ER W := bnd me fun ds ρ0 => match lcB t vs p m ds [] (wipeE ρ0 vs) with
  | .ok w ρ' => .ok w (unwipe ρ0 vs ρ')
  | _ => .bad
section
variable {g : G} {F H : Hp} {S : AS} {σ : St}
theorem OSs.setMov {σ : St} {ρ : Env} {S : AS} {i : Nat} {o : Option V} {w : W} (O : OSs g F H σ ρ S) (h : OO g F H o w Ep) : OSs g F H (σ.set i o) (ρ.set i w) S := by
  by_cases hi : i < ρ.length
  · obtain ⟨o', S1, S2, q1, q2, q3, q4, q5, q6⟩ := O.focus (List.getElem?_eq_getElem hi)
    exact (q6 (.refl F) (fun _ _ => rfl) (fun _ z => z.elim) h).wk (Sb.u (fun _ z => z.elim) q3)
  · rw [List.set_eq_of_length_le (by rw [O.length]; omega), List.set_eq_of_length_le (by omega)]
    exact O
theorem OSs.wipe {ρ : Env} (O : OSs g F H σ ρ S) : ∀ vs : List Nat, OSs g F H (L2.wipe σ vs) (wipeE ρ vs) S
  | [] => O
  | v :: vs => (OSs.wipe O vs).setMov (.inl rfl)
theorem wipe_len (σ : St) (vs : List Nat) : (L2.wipe σ vs).length = σ.length := wipe_length σ vs
/-- a wiped state again -/
theorem OSs.rewipe {σ2 : St} {ρ : Env} {vs : List Nat} (O : OSs g F H σ2 ρ S) (e : L2.wipe σ2 vs = L2.wipe σ vs) : OSs g F H (L2.wipe σ vs) (wipeE ρ vs) S := by
  rw [← e]; exact O.wipe vs
theorem OSs.unwipe {F0 H0 : Hp} {S0 : AS} {ρ0 ρ : Env} (O0 : OSs g F0 H0 σ ρ0 S0) (sb : Sub F0 F) : ∀ vs : List Nat, OSs g F H (L2.wipe σ vs) ρ S → OSs g F H σ (Fp.unwipe ρ0 vs ρ) S := by
  suffices key : ∀ (vs : List Nat) (τ : St) (ρ : Env), (∀ i, τ[i]? = σ[i]? ∨ i ∈ vs) → τ.length = σ.length → OSs g F H τ ρ S → OSs g F H σ (Fp.unwipe ρ0 vs ρ) S from fun vs h =>
    key vs _ ρ (fun i => by
      clear h
      induction vs with
      | nil => exact .inl rfl
      | cons v vs ih =>
        by_cases e : v = i
        · subst e; exact .inr List.mem_cons_self
        · rcases ih with z | z
          · exact .inl (by show ((L2.wipe σ vs).set v none)[i]? = _; rw [List.getElem?_set_ne e]; exact z)
          · exact .inr (List.mem_cons_of_mem _ z)) (wipe_len σ vs) h
  intro vs
  induction vs with
  | nil =>
    intro τ ρ hi hl O
    have : τ = σ := by
      apply List.ext_getElem?
      intro i
      rcases hi i with z | z
      · exact z
      · cases z
    subst this
    exact O
  | cons v vs ih =>
    intro τ ρ hi hl O
    have val : OO g F H ((σ[v]?).getD none) (shOnly ρ0[v]?) Ep := by
      cases e : ρ0[v]? with
      | none => exact .inl rfl
      | some w =>
        cases w with
        | sh d =>
          obtain ⟨x, T, q1, q2⟩ := slotAt O0 e (fun z => by cases z)
          rw [q1]
          exact .inr ⟨x, rfl, .sh ((tup_dv q2).sub sb)⟩
        | _ => exact .inl rfl
    have O2 : OSs g F H (τ.set v ((σ[v]?).getD none)) (ρ.set v .mov) S := O.setMov (.inl rfl)
    have O3 := ih (τ.set v ((σ[v]?).getD none)) (ρ.set v .mov) (fun i => by
      by_cases e : v = i
      · subst e
        left
        by_cases hv : v < τ.length
        · rw [List.getElem?_set_self hv]
          have : v < σ.length := by omega
          rw [List.getElem?_eq_getElem this]; rfl
        · rw [List.getElem?_eq_none (by rw [List.length_set]; omega), List.getElem?_eq_none (by omega)]
      · rw [List.getElem?_set_ne e]
        rcases hi i with z | z
        · exact .inl z
        · rcases List.mem_cons.mp z with z | z
          · exact absurd z.symm e
          · exact .inr z) (by rw [List.length_set]; exact hl) O2
    show OSs g F H σ ((Fp.unwipe ρ0 vs ρ).set v (shOnly ρ0[v]?)) S
    have e1 : (Fp.unwipe ρ0 vs ρ).set v (shOnly ρ0[v]?) = (Fp.unwipe ρ0 vs (ρ.set v .mov)).set v (shOnly ρ0[v]?) := by
      have : ∀ (vs : List Nat) (ρ : Env) (w : W), ((Fp.unwipe ρ0 vs (ρ.set v .mov)).set v w) = ((Fp.unwipe ρ0 vs ρ).set v w) := by
        intro vs
        induction vs with
        | nil => intro ρ w; exact List.set_set ..
        | cons u us ih2 =>
          intro ρ w
          show ((Fp.unwipe ρ0 us (ρ.set v .mov)).set u _).set v w = ((Fp.unwipe ρ0 us ρ).set u _).set v w
          by_cases e : u = v
          · subst e; rw [List.set_set, List.set_set]; exact ih2 ρ w
          · rw [List.set_comm _ _ e, List.set_comm _ _ e, ih2 ρ w]
      exact (this vs ρ _).symm
    rw [e1]
    have O4 := O3.setMov (i := v) val
    have : σ.set v ((σ[v]?).getD none) = σ := by
      by_cases hv : v < σ.length
      · have : σ[v]? = some σ[v] := List.getElem?_eq_getElem hv
        rw [this]; exact setSelf this
      · exact List.set_eq_of_length_le (by omega)
    rw [this] at O4
    exact O4
end
section
variable {X : Cx} {Wx : WX} {pn : Nat → Bool} {e : Expr} {me : ER (List D)} {t : D → Env → Option Env} {vs : List Nat} {p : ER Bool} {m : ER W} {pos : Pos} {i : Nat} {st : Stmt} {g : G}
/-- a target that stores within vs alone -/
def TgtIn (gg : TG) (vs : List Nat) (g : G) (t : D → Env → Option Env) : Prop := ∀ (x : V) (σ : St) (ρ : Env) (F H : Hp) (S : AS) (d : D) (ρ' : Env) (Q : St → Hp → Prop), Good F H S → OSs g F H σ ρ S → DV g F x d → t d ρ = some ρ' →
  (∀ σ', L2.wipe σ' vs = L2.wipe σ vs → OSs g F H σ' ρ' S → Q σ' H) → gg x σ H Q
theorem wipe_set {σ : St} {v : Option V} {i : Nat} : ∀ {vs : List Nat}, i ∈ vs → L2.wipe (σ.set i v) vs = L2.wipe σ vs
  | [], h => by cases h
  | u :: us, h => by
    show (L2.wipe (σ.set i v) us).set u none = (L2.wipe σ us).set u none
    by_cases e : i ∈ us
    · rw [wipe_set e]
    · have eu : i = u := by rcases List.mem_cons.mp h with z | z; exact z; exact absurd z e
      subst eu
      have : ∀ {us : List Nat}, i ∉ us → L2.wipe (σ.set i v) us = (L2.wipe σ us).set i v := by
        intro us
        induction us with
        | nil => intro _; rfl
        | cons w ws ih =>
          intro hn
          have h1 : i ≠ w := fun z => hn (by rw [z]; exact List.mem_cons_self)
          have h2 : i ∉ ws := fun z => hn (List.mem_cons_of_mem _ z)
          show (L2.wipe (σ.set i v) ws).set w none = ((L2.wipe σ ws).set w none).set i v
          rw [ih h2, List.set_comm _ _ h1]
      rw [this e, List.set_set]
theorem wipe_wipe {σ : St} {vs : List Nat} : ∀ {us : List Nat}, (∀ u ∈ us, u ∈ vs) → L2.wipe (L2.wipe σ us) vs = L2.wipe σ vs
  | [], _ => rfl
  | u :: us, h => by
    show L2.wipe ((L2.wipe σ us).set u none) vs = _
    rw [wipe_set (h u List.mem_cons_self)]
    exact wipe_wipe fun w hw => h w (List.mem_cons_of_mem _ hw)
theorem ti_name {i : Nat} (h : i ∈ vs) : TgtIn (gName i) vs g (tName i) := by
  intro x σ ρ F H S d ρ' Q gd O dv e q
  unfold tName at e
  split at e
  · rename_i hi
    cases e
    exact q _ (wipe_set h) ((O.put hi (.sh dv) (Dj.ep _)).wk (Sb.u (.refl _) fun _ z => z.elim))
  · cases e
def gNames : List Nat → TGs
  | [] => gNil
  | i :: is => gCons (gName i) (gNames is)
theorem ti_names : ∀ {is : List Nat}, (∀ i ∈ is, i ∈ vs) → ∀ (xs : List V) (σ : St) (ρ : Env) (F H : Hp) (S : AS) (ds : List D) (ρ' : Env) (Q : St → Hp → Prop), Good F H S → OSs g F H σ ρ S → DVs g F xs ds → tNames is ds ρ = some ρ' →
    (∀ σ', L2.wipe σ' vs = L2.wipe σ vs → OSs g F H σ' ρ' S → Q σ' H) → gNames is xs σ H Q
  | [], _, _, _, _, _, _, _, [], _, _, _, O, dv, e, q => by
    cases dv
    cases e
    exact ⟨rfl, q _ rfl O⟩
  | [], _, _, _, _, _, _, _, _ :: _, _, _, _, _, _, e, _ => by cases e
  | i :: is, h, _, σ, ρ, F, H, S, [], _, _, _, _, _, e, _ => by cases e
  | i :: is, h, _, σ, ρ, F, H, S, d :: ds, ρ', Q, gd, O, .cons d1 d2, e, q => by
    simp only [tNames] at e
    split at e
    · rename_i hi
      refine ⟨_, _, rfl, ti_names (is := is) (fun j hj => h j (List.mem_cons_of_mem _ hj)) _ _ _ F H S ds ρ' Q gd ((O.put hi (.sh d1) (Dj.ep _)).wk (Sb.u (.refl _) fun _ z => z.elim)) d2 e fun σ' hw o => q σ' ?_ o⟩
      rw [hw, wipe_set (h i List.mem_cons_self)]
    · cases e
theorem ti_tup {is : List Nat} {n : Nat} (hn : is.length = n) (h : ∀ i ∈ is, i ∈ vs) : TgtIn (gTup g.K n (gNames is)) vs g (tTup is) := by
  intro x σ ρ F H S d ρ' Q gd O dv e q
  unfold tTup at e
  split at e
  · cases dv with
    | tup h1 h2 => exact ⟨_, _, rfl, (Sub.of_same gd.same).sqT h1, by rw [← hn]; exact h2.length.trans (tNames_len e), ti_names h _ σ ρ F H S _ ρ' Q gd O h2 e q⟩
  · cases e
theorem w_lc' {gg : TG} (hg : TgtIn gg vs (gx X) t) : ∀ σ H Q, tE (gx X) Wx (mLc me t vs p m) σ H Q → tLc (tI (gx X) Wx me) gg (tT (gx X) W0 p) (tE (gx X) W0 m) vs σ H Q := fun σ H Q q => by
  refine tG_bind (R := fun F _ J ds _ => IterOk (gx X) J F ds) q fun ds ρ0 J F1 H1 S1 T1 d1 gd O ok h => ?_
  intro D hD
  have O0 := O.wk (S' := U S1 T1) .l
  cases er : lcB t vs p m ds [] (wipeE ρ0 vs) with
  | exc c ρ => simp only [er] at h; exact h.elim
  | bad => simp only [er] at h; exact h.elim
  | ok w ρ' =>
    simp only [er] at h
    refine ⟨fun i mm H => mm = ds.length - i ∧ i ≤ ds.length ∧ ∃ ρ F S T acc av, Step F1 (U S1 T1) H1 F H (U S (fun b => b = D ∨ T b)) ∧ Dj S (fun b => b = D ∨ T b) ∧ ¬ T D ∧ OSs (gx X) F H (L2.wipe σ vs) ρ S ∧ H D = some (.lst av) ∧ OVs (gx X) F H av acc T ∧ lcB t vs p m (ds.drop i) acc ρ = .ok w ρ',
      ⟨ds.length, by simp, Nat.zero_le _, wipeE ρ0 vs, F1, U S1 T1, Ep, [], [], ?_, ?_, fun z => z, ?_, upd_same, .nil, er⟩, ?_⟩
    · exact (Step.new gd hD).sb (Sb.u .l fun b z => z.elim .inr fun z => z.elim)
    · exact fun b z z' => z'.elim (fun z' => by subst z'; exact gd.nin hD z) fun z' => z'
    · exact (O0.wipe vs).mono (.refl _) fun b z => upd_ne fun z' => by subst z'; exact gd.nin hD z
    · rintro i mm H ⟨rfl, hi, ρ, F, S, T, acc, av, st, dj, nT, Ow, eD, oa, el⟩
      by_cases hlt : i < ds.length
      · have hd : ds.drop i = ds[i] :: ds.drop (i + 1) := List.drop_eq_getElem_cons hlt
        rw [hd] at el
        refine .inr ⟨ok.go i F H st.ext st.gd.same hlt, fun H' => ∃ ρ F S T acc av, Step F1 (U S1 T1) H1 F H' (U S (fun b => b = D ∨ T b)) ∧ Dj S (fun b => b = D ∨ T b) ∧ ¬ T D ∧ OSs (gx X) F H' (L2.wipe σ vs) ρ S ∧ H' D = some (.lst av) ∧ OVs (gx X) F H' av acc T ∧ lcB t vs p m (ds.drop (i + 1)) acc ρ = .ok w ρ', fun H' q => ⟨ds.length - (i + 1), by omega, rfl, hlt, q⟩, fun x H' y => ?_⟩
        obtain ⟨F', st0, dv⟩ := ok.yld i F H x H' ds[i] st.ext st.gd.same (by simp [hlt]) y
        obtain ⟨st1, keep⟩ := frame0 st.gd st0
        have st' := st.trans gd st1
        simp only [lcB] at el
        cases et : t ds[i] ρ with
        | none => simp only [et] at el; cases el
        | some ρ1 =>
          simp only [et] at el
          refine hg x _ ρ F' H' S ds[i] ρ1 _ (st1.gd.sb .l) (Ow.mono st1.ext fun a z => keep a (.inl z)) dv et fun σ2 hw O2 => ?_
          have hw' : L2.wipe σ2 vs = L2.wipe σ vs := hw.trans (wipe_wipe fun _ h => h)
          refine ⟨hw', ?_⟩
          have eD' : H' D = some (.lst av) := by rw [keep D (.inr (.inl rfl))]; exact eD
          have oa' : OVs (gx X) F' H' av acc T := oa.mono st1.ext fun b z => keep b (.inr (.inr z))
          refine ⟨ρ1, F', S, st1.gd.sb .l, O2, ?_⟩
          cases ep : p ρ1 with
          | exc c ρ2 => simp only [ep] at el; cases el
          | bad => simp only [ep] at el; cases el
          | ok k ρ2 =>
            simp only [ep] at el
            intro k' F2 H2 A B dAB stp O3 rk
            cases rk
            obtain ⟨stp', djp⟩ := stp.frame st1.gd dj
            have kp := stp.keep st1.gd dj
            have eD2 : H2 D = some (.lst av) := by rw [kp D (.inl rfl)]; exact eD'
            have oa2 : OVs (gx X) F2 H2 av acc T := oa'.mono stp.ext fun b z => kp b (.inr z)
            have stA := (st'.trans gd stp').sb (T := U A (fun b => b = D ∨ T b)) (Sb.u (Sb.l.trans .l) .r)
            have djA : Dj A (fun b => b = D ∨ T b) := djp.mono .l (.refl _)
            cases k with
            | false =>
              simp only [Bool.false_eq_true, if_false] at el ⊢
              exact ⟨_, F2, A, T, acc, av, stA, djA, nT, O3.rewipe hw', eD2, oa2, el⟩
            | true =>
              simp only [if_true] at el ⊢
              refine ⟨ρ2, F2, A, stA.gd.sb .l, O3, ?_⟩
              cases em : m ρ2 with
              | exc c ρ3 => simp only [em] at el; cases el
              | bad => simp only [em] at el; cases el
              | ok y ρ3 =>
                simp only [em] at el
                by_cases hc : acc.length < sizeLine
                · rw [if_pos hc] at el
                  intro z F3 H3 A2 B2 dA2 stm O4 oy
                  obtain ⟨stm', djm⟩ := stm.frame stA.gd djA
                  have km := stm.keep stA.gd djA
                  have eD3 : H3 D = some (.lst av) := by rw [km D (.inl rfl)]; exact eD2
                  have oa3 : OVs (gx X) F3 H3 av acc T := oa2.mono stm.ext fun b z => km b (.inr z)
                  have stB := stA.trans gd stm'
                  refine ⟨av, eD3, by rw [oa3.length]; exact hc, ?_⟩
                  have neA : ∀ b, A2 b → b ≠ D := fun b z z' => djm b (.inl z) (.inl z')
                  have neB : ∀ b, B2 b → b ≠ D := fun b z z' => djm b (.inr z) (.inl z')
                  have neT : ∀ b, T b → b ≠ D := fun b z z' => nT (z' ▸ z)
                  have stw : Step F3 (U (U A2 B2) (fun b => b = D ∨ T b)) H3 F3 (upd H3 D (.lst (av ++ [z]))) (U (U A2 B2) (fun b => b = D ∨ T b)) := Step.write stB.gd (.inr (.inl rfl))
                  refine ⟨_, F3, A2, U T B2, acc ++ [y], av ++ [z], ((stB.trans gd stw).sb ?_), ?_, ?_, ?_, upd_same, ?_, el⟩
                  · exact Sb.u (Sb.l.trans .l) fun b z => z.elim (fun z => .inr (.inl z)) fun z => z.elim (fun z => .inr (.inr z)) fun z => .inl (.inr z)
                  · exact fun b z z' => z'.elim (fun z' => djm b (.inl z) (.inl z')) fun z' => z'.elim (fun z' => djm b (.inl z) (.inr z')) fun z' => dA2 b z z'
                  · exact fun z => z.elim nT fun z => neB D z rfl
                  · exact (O4.rewipe hw').mono (.refl _) fun b z => upd_ne (neA b z)
                  · exact (oa3.snoc oy fun b z z' => djm b (.inr z') (.inr z)).mono (.refl _) fun b z => upd_ne (z.elim (neT b) (neB b))
                · rw [if_neg hc] at el; cases el
      · have e : i = ds.length := by omega
        subst e
        rw [List.drop_length] at el
        simp only [lcB] at el
        injection el with e1 e2
        subst e1 e2
        refine .inl ⟨ok.stop _ F H st.ext st.gd.same (Nat.le_refl _), ?_⟩
        exact h (.ref D) F H S (fun b => b = D ∨ T b) dj st (O0.unwipe st.ext vs Ow) (.lst (T := T) (.inl rfl) eD (fun b z => ⟨.inr z, fun z' => nT (z' ▸ z)⟩) oa)
end
end Fp

set_option Elab.async false
set_option linter.all false
set_option maxRecDepth 100000
set_option maxHeartbeats 4000000
namespace Fp
open PySem PySem.Spec L2
open PyProof.Rows hiding St

/-! ### raise -/
section
variable {X : Cx} {Wx : WX} {pn : Nat → Bool} {st : Stmt} {g : G}
def mRaise {α : Type} (c : Str) : ER α := fun ρ => .exc c ρ
theorem s_raise {c : Str} {C : Addr} (hc : X.mg c = some (.ref C)) (h : PS X st (fun _ σ H => Wx (.ref C) none σ H)) : PS X st (tS (gx X) Wx pn (mRaise c)) := psW h fun D σ H q => by
  obtain ⟨ρ, F, S, gd, O, q⟩ := q
  exact q (.ref C) σ F H S (.refl _ _) hc (Step.refl gd) O
end
/-! ### a clause that names several classes -/
section
open PySem.W
variable {M : Model} {K : Frag}
theorem exm_tup {cs : List Value} {cls : Value} {tp e : Addr} {b : Bool} {h : Heap} (X : K.In h) (LT : Looks M h (typeOf (.ref e)) cls) (hp : h.get? tp = some { cls := .type "tuple", data := .seq cs.toArray }) (hx : exmAny K cls cs = some b) :
    Looks M h (excMatches (.ref e) (.ref tp)) b := by
  intro A Q E s k₀ q
  have LT0 : Looks M h (isInstance (.ref tp) (.type "tuple")) true := ((Looks.ld hp).andThen .now).andThen (Looks.of_pure isSubtype_tuple_tuple)
  have hp' := k₀ _ _ hp
  have LT := LT.keeps k₀
  have LT0 := LT0.keeps k₀
  unfold excMatches
  refine wpAny_bind (LT0.here ?_)
  dsimp only
  rw [if_pos rfl]
  have rest : wpAny M A (do
      for c in cs do
        if !(← isExcClass c) then
          rule "try.except-non-exception-class"
          raiseError "TypeError" "catching classes that do not inherit from BaseException is not allowed"
      let te ← typeOf (.ref e)
      for c in cs do
        if ← isSubtype te c then return true
      return false) Q E s := by
    refine wpAny_bind ?_
    refine wpAny_forIn_list _ (fun rest _ s' => s' = s ∧ ∃ d, exmAny K cls rest = some d) _ (fun c rest b s' hi => ?_) (fun _ s' hi => ?_) cs _ ⟨rfl, b, hx⟩
    · obtain ⟨rfl, d, hd⟩ := hi
      obtain ⟨b1, d1, x1, y1, z1⟩ := exmAny_cons hd
      obtain ⟨e1, S1⟩ := exm_cls (M := M) X x1
      refine wpAny_bind ((e1.keeps k₀).here ?_)
      simp only [Bool.not_true, Bool.false_eq_true, if_false]
      exact wpAny_pure ⟨rfl, d1, y1⟩
    · obtain ⟨rfl, _⟩ := hi
      refine wpAny_bind (LT.here ?_)
      refine wpAny_bind ?_
      refine wpAny_forIn_list _ (fun rest r s2 => s2 = s' ∧ r.1 = none ∧ exmAny K cls rest = some b) _ (fun c rest r s2 hi => ?_) (fun r s2 hi => ?_) cs _ ⟨rfl, rfl, hx⟩
      · obtain ⟨rfl, hr, hd⟩ := hi
        obtain ⟨b1, d1, x1, y1, z1⟩ := exmAny_cons hd
        obtain ⟨e1, S1⟩ := exm_cls (M := M) X x1
        refine wpAny_bind ((S1.keeps k₀).here ?_)
        cases b1 with
        | true =>
          simp only [if_true]
          refine wpAny_pure ?_
          simp only [Bool.true_or] at z1
          subst z1
          exact wpAny_pure q
        | false =>
          simp only [Bool.false_eq_true, if_false]
          refine wpAny_pure ⟨rfl, rfl, ?_⟩
          simp only [Bool.false_or] at z1
          rw [z1]; exact y1
      · obtain ⟨rfl, hr, hd⟩ := hi
        have : some false = some b := hd
        cases this
        obtain ⟨r1, r2⟩ := r
        simp only at hr
        subst hr
        exact wpAny_pure q
  first
    | refine wpAny_bind (wpAny_seqItems hp' rfl ?_)
    | refine wpAny_bind (wpAny_bind (wpAny_seqItems hp' rfl (wpAny_pure ?_)))
  simpa using rest
end

/-! ### an untracked object is tracked from now on -/
theorem track {X : Cx} {pins : List (Addr × Obj)} {σ : St} {H : Hp} {s : Shared} {a : Addr} {oe : Obj} (I : L2.Inv X pins σ H s) (ha : s.heap.get? a = some oe) (na : H a = none) (nL : a ≠ X.env.locals)
    (n0 : X.s_0.heap.get? a = none) (nc : ∀ x c, X.env.cells.lookup x = some c → c ≠ a) (np : ∀ p ∈ X.pn ++ pins, p.1 ≠ a) : L2.Inv X pins σ (upd H a (ExnO a oe)) s := by
  have ne : ∀ {b o}, X.s_0.heap.get? b = some o → b ≠ a := fun {b o} e z => by subst z; rw [n0] at e; cases e
  refine ⟨I.ok, I.os, I.bare, ⟨I.base.keep, I.base.slot, fun b o e n hx => ?_, I.base.there, fun b xs e => ?_, fun b o u e => ?_, fun b ps e => ?_⟩, I.loc, I.cell, ?_, fun x c e => ?_, fun p hp => ?_, fun b u e => ?_, I.len⟩
  · rw [upd_ne (ne e)]; exact I.base.free b o e n hx
  · have h := I.base.tups b xs e
    rw [upd_ne (ne_of_none h na)]; exact h
  · have h := I.base.frzs b o u e
    rw [upd_ne (ne_of_none h na)]; exact h
  · obtain ⟨more, h⟩ := I.base.tbls b ps e
    exact ⟨more, by rw [upd_ne (ne_of_none h na)]; exact h⟩
  · rw [upd_ne (Ne.symm nL)]; exact I.free
  · rw [upd_ne (nc x c e)]; exact I.freeC x c e
  · obtain ⟨h1, h2, h3⟩ := I.pin p hp
    exact ⟨h1, by rw [upd_ne (np p hp)]; exact h2, h3⟩
  · by_cases hb : b = a
    · subst hb
      rw [upd_same] at e
      cases e
      exact ⟨ha, ⟨oe, ha⟩, fun h1 h2 e1 k => k _ e1⟩
    · rw [upd_ne hb] at e
      exact (I.hok b u e).stay (fun c v _ q => q) (fun c q => by rw [upd_ne (ne_of_none q na)]; exact q) fun c xs q => by rw [upd_ne (ne_of_none q na)]; exact q
section
open HandSPX
theorem flying_keep {B h h' : Heap} {l : List PySem.Env} {a : Addr} {Z : Obj → Prop} (x : FlyingZ B l a Z h) (k : ∀ b o, h.get? b = some o → h'.get? b = some o) : FlyingZ B l a Z h' := by
  obtain ⟨h1, h2, h3, oe, vs, T, oT, ts, e1, e2, e3, e4, e5, e6, e7, e8, e9⟩ := x
  exact ⟨fun b o e => k b o (h1 b o e), h2, Heap.FunFrames.of_keeps (fun b o e _ => ⟨o, k b o e, rfl⟩) h3, oe, vs, T, oT, ts, k _ _ e1, e2, e3, e4, e5, e6, k _ _ e7, e8, e9⟩
end
/-- a clause's test: what it catches -/
def TestOk (X : Cx) (te : Expr) (cs : List Value) : Prop := ∀ (a : Addr) (pn : List (Addr × Obj)) (pins : List (Addr × Obj)) (σ : St) (H : Hp) (s : Shared) (cls : Value) (b : Bool) (Q : Bool → Shared → Prop) (E E' : Value → Shared → Prop), L2.Inv (X.suite a pn) pins σ H s →
  PySem.W.Looks (model X.prog X.w) s.heap (typeOf (.ref a)) cls → PySem.W.exmAny X.K cls cs = some b →
  (∀ h', (∀ c o, s.heap.get? c = some o → h'.get? c = some o) → Q b { s with heap := h' }) →
  wpAny (model X.prog X.w) (X.A.mark (some (.ref a))) (eval te X.env) (fun c s₁ => wpAny (model X.prog X.w) (X.A.mark (some (.ref a))) (excMatches (.ref a) c) Q E' s₁) E s
theorem exmAny_one {K : PySem.W.Frag} {cls c : Value} {b : Bool} (h : PySem.W.exmAny K cls [c] = some b) : PySem.W.exmOne K cls c = some b := by
  obtain ⟨b1, d1, x1, y1, z1⟩ := PySem.W.exmAny_cons h
  have : some false = some d1 := y1
  cases this
  rw [x1, z1, Bool.or_false]
theorem test_name {X : Cx} {x : Str} {c : Value} {np : Pos} (hc : Names X x c) : TestOk X (.Name x np) [c] := by
  intro a pn pins σ H s cls b Q E E' I LT hx q
  have LM := PySem.W.exm_one (M := model X.prog X.w) I.kIn LT (exmAny_one hx)
  have fin : wpAny (model X.prog X.w) (X.A.mark (some (.ref a))) (excMatches (.ref a) c) Q E' s := LM.here (q s.heap fun _ _ e => e)
  obtain ⟨hg, hdbg, hm | ⟨hm, hv, hnn⟩⟩ := hc
  · exact ld_glob (X := X.suite a pn) I hg hm fin hdbg
  · exact ld_blt (X := X.suite a pn) I hg hm hv fin hnn hdbg
inductive NamesL (X : Cx) : List Expr → List Value → Prop
  | nil : NamesL X [] []
  | cons {x : Str} {c : Value} {np : Pos} {es : List Expr} {cs : List Value} : Names X x c → NamesL X es cs → NamesL X (.Name x np :: es) (c :: cs)
theorem names_items {X : Cx} {a : Addr} {pn pins : List (Addr × Obj)} {σ : St} {H : Hp} {s : Shared} {pos : Pos} {E : Value → Shared → Prop} (I : L2.Inv (X.suite a pn) pins σ H s) : ∀ {es : List Expr} {cs : List Value} {Q : List Value → Shared → Prop}, NamesL X es cs → Q cs s →
    wpAny (model X.prog X.w) (X.A.mark (some (.ref a))) (spliced (backTo pos (starEach es X.env))) Q E s
  | _, _, Q, .nil, q => wpAny_items_nil q
  | _, _, Q, .cons hc r, q => by
    refine wpAny_items_cons ?_
    have fin := names_items (pos := pos) (E := E) (Q := fun vs s₂ => Q (_ :: vs) s₂) I r q
    obtain ⟨hg, hdbg, hm | ⟨hm, hv, hnn⟩⟩ := hc
    · exact ld_glob (X := X.suite a pn) I hg hm fin hdbg
    · exact ld_blt (X := X.suite a pn) I hg hm hv fin hnn hdbg
theorem test_tup {X : Cx} {es : List Expr} {cs : List Value} {k : Nat} {p : Pos} (hc : NamesL X es cs) (hl : cs.length ≤ 100) : TestOk X (.Tuple es k p) cs := by
  intro a pn pins σ H s cls b Q E E' I LT hx q
  refine wpAny_Tuple (names_items I hc ⟨Nat.le_trans hl (by decide), ?_⟩)
  have kp : ∀ c o, s.heap.get? c = some o → (s.heap.push { cls := .type "tuple", data := .seq cs.toArray }).get? c = some o := fun _ _ z => Heap.get?_push_of_some _ z
  exact (exm_tup (M := model X.prog X.w) (I.kIn.keeps kp) (LT.keeps kp) (Heap.get?_push_size s.heap rfl) hx).here (q _ kp)
/-- a clause: its classes' names, the slot of its name, what its suite does with an exception of the class c -/
structure Cl where
  cs : List Str
  at' : Option Nat
  m : Str → ER Fl
inductive HdsM (X : Cx) (cv : Str → Value) (pn : Nat → Bool) : List ExceptHandler → List Cl → Prop
  | nil : HdsM X cv pn [] []
  | plain {te : Expr} {cs : List Str} {b₀ : Stmt} {suite : List Stmt} {pos : Pos} {hds : List ExceptHandler} {l : List Cl} {m : Str → ER Fl} (ht : TestOk X te (cs.map cv))
      (hsu : ∀ (a : Addr) (c : Str) (pn' : List (Addr × Obj)), PSs (X.suite a pn') (b₀ :: suite) (tS (gx X) W0 pn (m c))) (r : HdsM X cv pn hds l) : HdsM X cv pn (.ExceptHandler (some te) none (b₀ :: suite) pos :: hds) (⟨cs, none, m⟩ :: l)
  | as {te : Expr} {cs : List Str} {n : Str} {i : Nat} {b₀ : Stmt} {suite : List Stmt} {pos : Pos} {hds : List ExceptHandler} {l : List Cl} {m : Str → ER Fl} (ht : TestOk X te (cs.map cv)) (hi : X.N[i]? = some n) (hln : X.env.kindOf n = some .local) (hp : pn i = false)
      (hsu : ∀ (a : Addr) (c : Str) (pn' : List (Addr × Obj)), PSs (X.suite a pn') (b₀ :: suite) (tS (gx X) W0 pn (m c))) (r : HdsM X cv pn hds l) : HdsM X cv pn (.ExceptHandler (some te) (some n) (b₀ :: suite) pos :: hds) (⟨cs, some i, m⟩ :: l)
def noExc (m : ER Fl) : ER Fl := fun ρ => match m ρ with
  | .exc _ _ => .bad
  | r => r
/-- the clauses, one after the other: sub c: which of them catch an exception of the class c -/
def mHds (sub : Str → List Str → Option Bool) (c : Str) : List Cl → ER Fl
  | [] => fun ρ => .exc c ρ
  | ⟨cs, o, m⟩ :: l => match sub c cs with
    | none => bad
    | some false => mHds sub c l
    | some true => match o with
      | none => noExc (m c)
      | some i => fun ρ => if i < ρ.length then (match m c (ρ.set i (.sh (.exn c))) with
          | .ok f ρ' => .ok f (ρ'.set i .mov)
          | .exc c ρ' => .bad
          | .bad => .bad) else .bad
def mTry (sub : Str → List Str → Option Bool) (l : List Cl) (body : ER Fl) : ER Fl := fun ρ => match body ρ with
  | .exc c ρ' => mHds sub c l ρ'
  | r => r
def SubOk (g : G) (cv : Str → Value) (sub : Str → List Str → Option Bool) : Prop := ∀ c cls ns b, g.mg c = some cls → sub c ns = some b → (∃ C, cls = .ref C) ∧ PySem.W.exmAny g.K cls (ns.map cv) = some b
section
open HandSPX
theorem s_try {X : Cx} {Wx : WX} {pn : Nat → Bool} {body : List Stmt} {h₀ : ExceptHandler} {hds : List ExceptHandler} {l : List Cl} {pos : Pos} {cv : Str → Value} {sub : Str → List Str → Option Bool} {ms : ER Fl} (hs : X.stack = X.env :: X.outer) (hf : X.env.frame = some X.env.locals) (hex : X.ex = []) (hN : X.N.Nodup)
    (hfn : ∀ x, X.fn x = true) (tk : Takes X Wx) (hsub : SubOk (gx X) cv sub)
    (hb : ∀ (W : WX) (pn' : List (Addr × Obj)) (xe : Value → Shared → Prop), Takes (X.tr pn' xe) W → PassesOwn (model X.prog X.w) X.A X.env xe → PSs (X.tr pn' xe) body (tS (gx X) W pn ms))
    (hh : HdsM X cv pn (h₀ :: hds) l) : PS X (.Try body (h₀ :: hds) [] [] pos) (tS (gx X) Wx pn (mTry sub l ms)) := by
  refine ⟨fun pins s σ H D I h => ?_⟩
  have ok := I.ok
  have hfr : X.A.frames = some (X.env :: X.outer) := by rw [ok.frames, hs]
  obtain ⟨ρ0, F0, S0, gd0, O0, h⟩ := h
  -- what the body wishes of an exception
  let Wb : WX := fun cls d σ' H' => d = none ∧ ∃ c ρ' F' S', (gx X).mg c = some cls ∧ ms ρ0 = .exc c ρ' ∧ PinEq pn σ σ' ∧ Step F0 S0 H F' H' S' ∧ OSs (gx X) F' H' σ' ρ' S'
  have hbody : tS (gx X) Wb pn ms D σ H := by
    refine ⟨ρ0, F0, S0, gd0, O0, ?_⟩
    unfold mTry at h
    cases r : ms ρ0 with
    | ok f ρ' => rw [r] at h; cases f <;> exact h
    | exc c ρ' => exact fun cls σ' F' H' S' p e st o => ⟨rfl, c, ρ', F', S', e, r, p, st, o⟩
    | bad => rw [r] at h; exact h
  refine wpAny_Try_except ?_
  refine wpAny_mono ((hb Wb (X.pn ++ pins) (fun e s₁ => wpAny (model X.prog X.w) X.A (noteFrame e X.env) (fun _ s₂ => wpAny (model X.prog X.w) X.A (setFlight e none) (fun _ s₃ =>
    wpAny (model X.prog X.w) X.A (handleBy e X.env (h₀ :: hds)) (SP X pins D) X.xe s₃) X.xe s₂) X.xe s₁) (fun u s' xx => ?_) PassesOwn.looking).run [] s σ H D (I.toTry _) hbody) (fun f s1 hsp => ?_) (fun e s1 he => he)
  · obtain ⟨a, B, sI, pins', σ', H', cls, d, rfl, J', nb, up, sky, na, os, ag, rfl, c, ρ', F', S', hc, hr, hp, st, O⟩ := xx
    have J : L2.Inv X pins σ' H' sI := J'.ofTry ok
    have sky' : Sky B (X.env :: X.outer) a (Zc cls none) X.env.locals s'.heap := by rw [← hs]; exact sky
    unfold mTry at h
    rw [hr] at h
    have h := ResS.step gd0 hp st h
    show wpAny (model X.prog X.w) X.A (noteFrame (.ref a) X.env) _ _ _
    refine Sky.land Zc.steady hfr hf sky' fun h3 fl3 up3 => ?_
    have nB : B.get? a = none := fl3.2.1
    -- the exception is new
    have nfrA : a ∉ frs (X.env :: X.outer) := fun hm => by
      obtain ⟨oe3, vs3, he3, hz3, hd3⟩ := fl3.there
      obtain ⟨_, o', e', hnf⟩ := fl3.2.2.1.mem hm
      rw [he3] at e'; cases e'
      exact hnf _ hd3
    have nI : sI.heap.get? a = none := by
      cases q : sI.heap.get? a with
      | none => rfl
      | some o =>
        have := nb a o q (by rw [hs]; exact nfrA)
        rw [nB] at this; cases this
    have n0 : X.s_0.heap.get? a = none := by
      cases q : X.s_0.heap.get? a with
      | none => rfl
      | some o =>
        obtain ⟨o', e'⟩ := J.base.there a o q (by rw [hex]; simp)
        rw [nI] at e'; cases e'
    have nL : a ≠ X.env.locals := fun z => nfrA (List.mem_filterMap.mpr ⟨X.env, List.mem_cons_self, by rw [hf, z]⟩)
    have ncell : ∀ x c, X.env.cells.lookup x = some c → c ≠ a := fun x c e z => by
      obtain ⟨v, o, ho, _⟩ := J.cell x c e
      rw [z, nI] at ho; cases ho
    have npin : ∀ p ∈ X.pn ++ pins, p.1 ≠ a := fun p hp z => by
      have := (J.pin p hp).1
      rw [z, nI] at this; cases this
    have nF : a ∉ X.fs := fun hm => by
      obtain ⟨e, he, q⟩ := List.mem_filterMap.mp hm
      exact nfrA (List.mem_filterMap.mpr ⟨e, List.mem_cons_of_mem _ he, q⟩)
    have hC : ∃ C, cls = .ref C := by
      cases hh with
      | plain ht hsu r =>
        simp only [mHds] at h
        cases e : sub c _ with
        | none => rw [e] at h; exact h.elim
        | some b => exact (hsub c cls _ b hc e).1
      | as ht hi hln hp hsu r =>
        simp only [mHds] at h
        cases e : sub c _ with
        | none => rw [e] at h; exact h.elim
        | some b => exact (hsub c cls _ b hc e).1
    obtain ⟨C, rfl⟩ := hC
    have up' := up.trans up3
    have go : ∀ {hds' : List ExceptHandler} {l' : List Cl}, HdsM X cv pn hds' l' → ∀ (h3 : Heap), FlyingZ B (X.env :: X.outer) a (Zc (.ref C) none) h3 → sI.heap.UpToSlots h3 → ResS (gx X) Wx pn σ' F' S' H' (mHds sub c l' ρ') D →
        wpAny (model X.prog X.w) X.A (handleBy (.ref a) X.env hds') (SP X pins D) X.xe { s' with heap := h3 } := by
      intro hds' l' hk
      have inS : ∀ {σ6 : St} {H6 : Hp} {s6 : Shared}, L2.Inv X pins σ6 H6 s6 → L2.Inv (X.suite a (X.pn ++ pins)) [] σ6 H6 s6 := fun {σ6 H6 s6} I =>
        ⟨I.ok.suite _ _, I.os, I.bare, I.base, I.loc, I.cell, I.free, I.freeC, fun p hp => I.pin p (by rw [List.append_nil] at hp; exact hp), I.hok, I.len⟩
      have outS : ∀ {σ6 : St} {H6 : Hp} {s6 : Shared}, L2.Inv (X.suite a (X.pn ++ pins)) [] σ6 H6 s6 → L2.Inv X pins σ6 H6 s6 := fun {σ6 H6 s6} I =>
        ⟨ok, I.os, I.bare, I.base, I.loc, I.cell, I.free, I.freeC, fun p hp => I.pin p (List.mem_append_left _ hp), I.hok, I.len⟩
      -- the suite's start
      have startS : ∀ {h3 : Heap}, FlyingZ B (X.env :: X.outer) a (Zc (.ref C) none) h3 → sI.heap.UpToSlots h3 → ∀ {Q : Unit → Shared → Prop} {E : Value → Shared → Prop}, (∀ h4 oe, L2.Inv (X.suite a (X.pn ++ pins)) [] σ' (upd H' a (ExnO a oe)) { s' with heap := h4 } → Zc (.ref C) none oe → (∃ vs, oe.data = .fields vs) → Q () { s' with heap := h4 }) →
          wpAny (model X.prog X.w) (X.A.mark (some (.ref a))) (setFlight (.ref a) none) Q E { s' with heap := h3 } := fun {h3} fl3 up3 {Q E} q => by
        refine lands_againZ fl3 fun h4 fl4 up4 => ?_
        have J4 : L2.Inv X pins σ' H' { s' with heap := h4 } := J.landed nb fl4.1 (up3.trans up4) os ag
        obtain ⟨oe4, vs4, he4, hz4, hd4⟩ := fl4.there
        exact q h4 oe4 (inS (track J4 he4 na nL n0 ncell npin)) hz4 ⟨_, hd4⟩
      have exD : ∀ {oe : Obj}, Zc (.ref C) none oe → (∃ vs, oe.data = .fields vs) → Step F' S' H' (upd F' a (ExnO a oe)) (upd H' a (ExnO a oe)) S' ∧ DV (gx X) (upd F' a (ExnO a oe)) (.ref a) (.exn c) := fun {oe} hz ⟨vs, hv⟩ =>
        ⟨Step.newF st.gd na, .exn (.of upd_same) hz.1 hz.2 hv hc⟩
      have keepS : ∀ {oe : Obj}, OSs (gx X) (upd F' a (ExnO a oe)) (upd H' a (ExnO a oe)) σ' ρ' S' := fun {oe} => O.mono (Step.newF (o := ExnO a oe) st.gd na).ext fun b z => upd_ne fun z' => by subst z'; exact st.gd.nin na z
      induction hk with
      | nil =>
        intro h3 fl3 up3 w
        refine wpAny_handleBy_nil ?_
        obtain ⟨k1, k2, k3, oe, vs, T, oT, ts', he, hz, hd, h1, hr⟩ := id fl3
        unfold PySem.passOn
        refine wpAny_bind (wpAny_field he hd h1 ?_)
        rw [if_neg (show ¬ ((Value.ref T == Value.none) = true) from by simp)]
        have fin : wpAny (model X.prog X.w) X.A (setFlight (.ref a) X.env.frame) (fun _ s4 => wpAny (model X.prog X.w) X.A (throw (.ref a) : Sem Flow) (SP X pins D) X.xe s4) X.xe { s' with heap := h3 } := by
          rw [hf]
          refine setFlight_upZ fl3 fun h4 hh4 up4 => wpAny_throw (tk _ _ ?_)
          exact ⟨a, B, sI, pins, σ', H', .ref C, none, rfl, J, nb, up3.trans up4, .inr (.inr (by rw [hs]; exact hh4)), na, os, ag, w (.ref C) σ' F' H' S' (.refl _ _) hc (Step.refl st.gd) O⟩
        first
          | exact wpAny_bind (wpAny_pure (wpAny_bind fin))
          | exact wpAny_bind fin
      | @plain te cs b₀ suite pos' hds2 l2 m ht hsu r ih =>
        intro h3 fl3 up3 w
        have J3 : L2.Inv X pins σ' H' { s' with heap := h3 } := J.landed nb fl3.1 up3 os ag
        obtain ⟨oe3, vs3, he3, hz3, hd3⟩ := fl3.there
        simp only [mHds] at w
        cases esub : sub c cs with
        | none => rw [esub] at w; exact w.elim
        | some b =>
          rw [esub] at w
          have hx := (hsub c (.ref C) cs b hc esub).2
          have LT : PySem.W.Looks (model X.prog X.w) h3 (typeOf (.ref a)) (.ref C) := fun A Q E s k q => wpAny_typeOf_ref (k _ _ he3) (by rw [hz3.1]; exact q)
          refine wpAny_handleBy_cons (codeAny_handlers_test ?_) (by intro q; cases q)
          refine ht a _ [] σ' H' { s' with heap := h3 } (.ref C) b _ _ _ (inS J3) LT hx fun h' kp => ?_
          have fl' := flying_keep fl3 kp
          have up' : sI.heap.UpToSlots h' := up3.trans (by first | exact Heap.UpToSlots.of_keeps kp | exact fun b o e => ⟨o.slots, kp b o e⟩)
          cases b with
          | true =>
            simp only [if_true] at w ⊢
            refine codeAny_handlers_suite (startS fl' up' fun h4 oe I4 hz hv => ?_)
            obtain ⟨stx, dvx⟩ := exD hz hv
            refine wpAny_mono ((hsu a c (X.pn ++ pins)).run [] _ σ' _ D I4 ⟨ρ', _, S', stx.gd, keepS, ?_⟩) (fun f s6 hsp => ?_) (fun _ _ z => False.elim z)
            · have w' := ResS.step st.gd (.refl _ _) stx w
              unfold noExc at w'
              cases r : m c ρ' with
              | ok f ρ6 => rw [r] at w'; cases f <;> exact w'
              | exc c' ρ6 => rw [r] at w'; exact w'.elim
              | bad => rw [r] at w'; exact w'.elim
            · cases f with
              | next =>
                obtain ⟨σ6, H6, S6, q6⟩ := hsp
                exact ⟨_, _, outS S6, q6⟩
              | brk =>
                obtain ⟨σ6, H6, S6, q6⟩ := hsp
                exact ⟨_, _, outS S6, q6⟩
              | cont =>
                obtain ⟨σ6, H6, S6, q6⟩ := hsp
                exact ⟨_, _, outS S6, q6⟩
              | ret u =>
                obtain ⟨v6, σ6, H6, S6, r6, q6⟩ := hsp
                exact ⟨_, _, _, outS S6, r6, q6⟩
          | false =>
            show wpAny _ X.A (handleBy (.ref a) X.env hds2) _ _ _
            exact ih h' fl' up' w
      | @as te cs n i b₀ suite pos' hds2 l2 m ht hi hln hpn hsu r ih =>
        intro h3 fl3 up3 w
        have J3 : L2.Inv X pins σ' H' { s' with heap := h3 } := J.landed nb fl3.1 up3 os ag
        obtain ⟨oe3, vs3, he3, hz3, hd3⟩ := fl3.there
        simp only [mHds] at w
        cases esub : sub c cs with
        | none => rw [esub] at w; exact w.elim
        | some b =>
          rw [esub] at w
          have hx := (hsub c (.ref C) cs b hc esub).2
          have LT : PySem.W.Looks (model X.prog X.w) h3 (typeOf (.ref a)) (.ref C) := fun A Q E s k q => wpAny_typeOf_ref (k _ _ he3) (by rw [hz3.1]; exact q)
          refine wpAny_handleBy_cons (codeAny_handlers_test ?_) (by intro q; cases q)
          refine ht a _ [] σ' H' { s' with heap := h3 } (.ref C) b _ _ _ (inS J3) LT hx fun h' kp => ?_
          have fl' := flying_keep fl3 kp
          have up' : sI.heap.UpToSlots h' := up3.trans (by first | exact Heap.UpToSlots.of_keeps kp | exact fun b o e => ⟨o.slots, kp b o e⟩)
          cases b with
          | true =>
            simp only at w
            by_cases hlt : i < ρ'.length
            · simp only [if_pos hlt] at w
              simp only [if_true]
              refine codeAny_handlers_suite_as (startS fl' up' fun h4 oe I4 hz hv => ?_)
              obtain ⟨stx, dvx⟩ := exD hz hv
              refine store_ok (X := X.suite a (X.pn ++ pins)) (v := .ref a) I4 hN hi (.inl hln) rfl (fun s5 S5 => ?_) (.inr hln)
              have O5 := ((keepS (oe := oe)).put hlt (.sh dvx) (Dj.ep _)).wk (Sb.u (.refl _) fun _ z => z.elim)
              have end_ : ∀ {σ6 : St} {H6 : Hp} {s6 : Shared} {Q : Shared → Prop}, L2.Inv (X.suite a (X.pn ++ pins)) [] σ6 H6 s6 → (∀ s7, L2.Inv X pins (σ6.set i none) H6 s7 → Q s7) →
                  wpAny (model X.prog X.w) X.A (do bindName X.env n .none; unbindBehindTheSuite X.env n pos') (fun _ s7 => Q s7) X.xe s6 := fun {σ6 H6 s6 Q} S6 hq => gone_ok (outS S6) hN hi hln hq
              let D' : Ends := { nx := fun σ' H' => D.nx (σ'.set i none) H', rt := D.rt, bk := fun σ' H' => D.bk (σ'.set i none) H', ct := fun σ' H' => D.ct (σ'.set i none) H' }
              refine wpAny_mono ((hsu a c (X.pn ++ pins)).run [] s5 _ _ D' S5 ⟨_, _, S', stx.gd, O5, ?_⟩) (fun f s6 hsp => ?_) (fun _ _ z => False.elim z)
              · have ps : ∀ {σ6 : St}, PinEq pn (σ'.set i (some (.ref a))) σ6 → PinEq pn σ' (σ6.set i none) := fun {σ6} p => ((PinEq.set hpn).trans p).trans (PinEq.set hpn)
                have sx := fun {F6 H6 S6} (s6 : Step (upd F' a (ExnO a oe)) S' (upd H' a (ExnO a oe)) F6 H6 S6) => stx.trans st.gd s6
                cases r : m c (ρ'.set i (.sh (.exn c))) with
                | ok f ρ6 =>
                  rw [r] at w
                  cases f with
                  | nx => exact fun σ6 F6 H6 S6 p s6 o => w _ F6 H6 S6 (ps p) (sx s6) (o.setMov (.inl rfl))
                  | bk => exact fun σ6 F6 H6 S6 p s6 o => w _ F6 H6 S6 (ps p) (sx s6) (o.setMov (.inl rfl))
                  | ct => exact fun σ6 F6 H6 S6 p s6 o => w _ F6 H6 S6 (ps p) (sx s6) (o.setMov (.inl rfl))
                  | rt w6 => exact fun v σ6 F6 H6 S1 S2 p d s6 o ov => w v _ F6 H6 S1 S2 (ps p) d (sx s6) (o.setMov (.inl rfl)) ov
                | exc c' ρ6 => rw [r] at w; exact w.elim
                | bad => rw [r] at w; exact w.elim
              · cases f with
                | next =>
                  obtain ⟨σ6, H6, S6, q6⟩ := hsp
                  exact end_ S6 fun s7 J7 => ⟨_, _, J7, q6⟩
                | brk =>
                  obtain ⟨σ6, H6, S6, q6⟩ := hsp
                  exact end_ S6 fun s7 J7 => ⟨_, _, J7, q6⟩
                | cont =>
                  obtain ⟨σ6, H6, S6, q6⟩ := hsp
                  exact end_ S6 fun s7 J7 => ⟨_, _, J7, q6⟩
                | ret u =>
                  obtain ⟨v6, σ6, H6, S6, r6, q6⟩ := hsp
                  exact end_ S6 fun s7 J7 => ⟨_, _, _, J7, r6, q6⟩
            · simp only [if_neg hlt] at w; exact w.elim
          | false =>
            show wpAny _ X.A (handleBy (.ref a) X.env hds2) _ _ _
            exact ih h' fl' up' w
    exact go hh h3 fl3 up' h
  · cases f with
    | next =>
      obtain ⟨σ', H', J', q⟩ := hsp
      exact wpAny_execs_nil ⟨σ', H', J'.ofTry ok, q⟩
    | brk =>
      obtain ⟨σ', H', J', q⟩ := hsp
      exact ⟨σ', H', J'.ofTry ok, q⟩
    | cont =>
      obtain ⟨σ', H', J', q⟩ := hsp
      exact ⟨σ', H', J'.ofTry ok, q⟩
    | ret u =>
      obtain ⟨v, σ', H', J', r, q⟩ := hsp
      exact ⟨v, σ', H', J'.ofTry ok, r, q⟩
end

/-! isinstance of a caught exception, and of data -/
/-- what isinstance(e, cv) says of an exception of the class c -/
def IsaOk (g : G) (cv : V) (isa : Str → Option Bool) : Prop := ∀ c C b, g.mg c = some (.ref C) → isa c = some b → ExcC g.K C ∧ ∃ u, (∀ w, RelV cv w → w = u) ∧ PySem.W.kitOne g.K (.ref C) u = some b
abbrev rIsX (g : G) (cv : V) (isa : Str → Option Bool) : List V → Hp → VK → Prop := fun xs H Q => ∃ F S x c b, xs = [x, cv] ∧ Same F H ∧ OV g F H x (.sh (.exn c)) S ∧ isa c = some b ∧ Q (.bl b) H
theorem call_isX {X : Cx} {cv : V} {isa : Str → Option Bool} (hi : IsaOk (gx X) cv isa) : CallR X (.builtin "isinstance") (rIsX (gx X) cv isa) := by
  intro pins s σ H xs us Q I r h
  obtain ⟨F, S, x, c, b, rfl, sm, o, e, q⟩ := h
  cases tup_dv o with
  | @exn a C _ oe vs h1 h2 h3 h4 h5 =>
    obtain ⟨EC, u, hu, hk⟩ := hi c C b h5 e
    cases r with
    | cons rx rr =>
      cases rr with
      | cons rt rr =>
        cases rr
        cases rx
        have ec := hu _ rt
        subst ec
        obtain ⟨hget, _⟩ := ((Sub.of_same sm).rd h1).ok I.hok
        have J : PySem.W.InstAt s.heap a oe C none := by
          obtain ⟨oc, od, oda, osl⟩ := oe
          dsimp only at h2 h3 h4
          subst h2 h3 h4
          exact ⟨hget, rfl, rfl, trivial⟩
        exact PySem.W.kia_one (PySem.W.handS_kitx_exc EC.hg EC.hk EC.hs EC.hd EC.ha EC.hn EC.ht EC.hm) I.kIn J hk (fun z => nomatch z) fun tk => ⟨.bl b, H, I.kept (t' := tk) fun _ _ z => z, rfl, q⟩
def mIsX (isa : Str → Option Bool) (m : ER W) : ER W := bnd m fun w => match w with
  | .sh (.exn c) => match isa c with
    | some b => rt (.sh (.bl b))
    | none => bad
  | _ => bad
theorem e_isX {X : Cx} {Wx : WX} {e : Expr} {m : ER W} {cv : V} {isa : Str → Option Bool} (h : PE X e (tCB (rIsX (gx X) cv isa) (tCons (tB (gx X) Wx m) (tCons (tC cv) tNil)))) : PE X e (tE (gx X) Wx (mIsX isa m)) := peW h fun σ H Q q => by
  refine tG_bind (R := RBor (gx X)) (R2 := OV (gx X)) q fun w ρ1 v F1 H1 S1 T1 d1 gd O r h => ?_
  obtain ⟨sm, T, r⟩ := r
  cases w with
  | sh d =>
    cases d with
    | exn c =>
      simp only at h
      cases e : isa c with
      | none => simp only [e] at h; exact h.elim
      | some b =>
        simp only [e] at h
        exact ⟨F1, T, v, c, b, rfl, sm, r, e, h.ans0 gd (O.wk .l) _ F1 H1 Ep (stayE sm) (.sh (.bl b))⟩
    | _ => exact h.elim
  | _ => exact h.elim
end Fp

set_option Elab.async false
set_option linter.all false
set_option maxRecDepth 100000
set_option maxHeartbeats 4000000
namespace Fp
open PySem PySem.Spec L2
open PyProof.Rows hiding St

section
variable {X : Cx} {Wx : WX} {pn : Nat → Bool} {st : Stmt} {g : G} {e : Expr} {m ma mb : ER W}
/-! ### methods of texts -/
def strsW (ss : List Str) : W := .lst (ss.map fun s => .sh (.str s))
def strD : W → Option Str
  | .sh (.str s) => some s
  | _ => none
theorem w_m0 {r : V → List V → Hp → VK → Prop} {f : W → Option W} (hf : ∀ w w', f w = some w' → ∃ s, w = .sh (.str s)) (ho : Op1 (gx X) (fun x H Q => r x [] H Q) f) : ∀ σ H Q, tE (gx X) Wx (m1 f m) σ H Q → tM0 r (tB (gx X) Wx m) σ H Q := fun σ H Q h => by
  refine tG_bind (R2 := OV (gx X)) h fun w ρ1 v F1 H1 S1 T1 d1 gd O r h => ?_
  obtain ⟨sm, T, r⟩ := r
  unfold opt at h
  cases e : f w with
  | none => rw [e] at h; exact h.elim
  | some w' =>
    rw [e] at h
    obtain ⟨s, rfl⟩ := hf w w' e
    have hv : v = .str s := by cases tup_dv r; rfl
    exact ⟨⟨s, hv⟩, ho F1 H1 T v _ w' Q sm r e (h.ans0 gd (O.wk .l))⟩
theorem e_m0 {r : V → List V → Hp → VK → Prop} {f : W → Option W} (hf : ∀ w w', f w = some w' → ∃ s, w = .sh (.str s)) (ho : Op1 (gx X) (fun x H Q => r x [] H Q) f) (h : PE X e (tM0 r (tB (gx X) Wx m))) : PE X e (tE (gx X) Wx (m1 f m)) := peW h (w_m0 hf ho)
/-- a text's method with one argument -/
def mM1 (f : W → W → Option W) (ma mb : ER W) : ER W := bnd ma fun a => match a with
  | .sh (.str _) => bnd mb fun b => opt (f a b)
  | _ => bad
theorem e_m1 {r : V → List V → Hp → VK → Prop} {f : W → W → Option W} (ho : Op2 (gx X) (fun x y H Q => r x [y] H Q) f) (h : PE X e (tM1 r (tE (gx X) Wx ma) (tB (gx X) Wx mb))) : PE X e (tE (gx X) Wx (mM1 f ma mb)) := peW h fun σ H Q q => by
  refine tG_bind (R2 := OV (gx X)) q fun wa ρ1 v1 F1 H1 S1 T1 d1 gd O r1 h => ?_
  cases wa with
  | sh d =>
    cases d with
    | str s =>
      simp only at h
      have hv : v1 = .str s := by cases tup_dv r1; rfl
      refine ⟨⟨s, hv⟩, ?_⟩
      refine ResP.bind (R := RBor (gx X)) h d1 gd O fun wb ρ2 v2 F2 H2 S2 T2 d2 d3 gd2 sb k O2 r2 h2 => ?_
      obtain ⟨sm, T, r2⟩ := r2
      unfold opt at h2
      cases e : f (.sh (.str s)) wb with
      | none => rw [e] at h2; exact h2.elim
      | some w =>
        rw [e] at h2
        exact ho F2 H2 T1 T v1 v2 _ wb w Q sm (r1.mono sb k) r2 e (h2.ans0 gd2 (O2.wk (Sb.l.trans .l)))
    | _ => exact h.elim
  | _ => exact h.elim
def fSplit : W → W → Option W
  | .sh (.str a), .sh (.str b) => if (b.length == 0) = false ∧ a.length + 2 ≤ sizeLine then some (strsW (Txt.split a b)) else none
  | _, _ => none
theorem strs_dv {F : Hp} : ∀ ss : List Str, DVs g F (ss.map V.str) (ss.map .str)
  | [] => .nil
  | s :: r => .cons (.str s) (strs_dv r)
theorem o2_split : Op2 g (fun x y H Q => ∃ a b, x = .str a ∧ [y] = [.str b] ∧ (b.length == 0) = false ∧ a.length + 2 ≤ sizeLine ∧ rNewStrs (Txt.split a b) H Q) fSplit := by
  intro F H S1 S2 x y w1 w2 w Q s o1 o2 e q
  unfold fSplit at e
  split at e
  · rename_i a b
    split at e
    · rename_i c
      cases e
      cases tup_dv o1; cases tup_dv o2
      refine ⟨a, b, rfl, rfl, c.1, c.2, fun p n => ?_⟩
      obtain ⟨st, ov⟩ := newL s n (strs_dv (Txt.split a b))
      have e : (W.lst (((Txt.split a b).map D.str).map .sh)) = strsW (Txt.split a b) := by
        unfold strsW
        rw [List.map_map]; rfl
      rw [e] at ov
      exact q _ _ _ _ st ov
    · cases e
  · cases e
def dStrs : List D → Option (List Str)
  | [] => some []
  | .str s :: r => (dStrs r).map (s :: ·)
  | _ => none
theorem dStrs_v {F : Hp} : ∀ {vs : List V} {ds : List D} {ss : List Str}, DVs g F vs ds → dStrs ds = some ss → vs = ss.map V.str
  | _, _, _, .nil, e => by cases e; rfl
  | _, _, _, .cons (d := d) h1 h2, e => by
    cases d with
    | str s =>
      simp only [dStrs, Option.map_eq_some_iff] at e
      obtain ⟨ss, e, rfl⟩ := e
      cases h1
      rw [dStrs_v h2 e]; rfl
    | _ => simp [dStrs] at e
def fJoin : W → W → Option W
  | .sh (.str a), w => match w.any.bind dStrs with
    | some ys => if (ys.map (·.length)).sum + ys.length * a.length ≤ 16777216 then some (.sh (.str (Txt.join a ys))) else none
    | none => none
  | _, _ => none
theorem o2_join : Op2 g (fun x y H Q => ∃ a p, ∃ ys : List Str, x = .str a ∧ [y] = [.ref p] ∧ (SqL g.K H p (ys.map V.str) ∨ SqT g.K H p (ys.map V.str)) ∧
    (ys.map (·.length)).sum + ys.length * a.length ≤ 16777216 ∧ Q (.str (Txt.join a ys)) H) fJoin := by
  intro F H S1 S2 x y w1 w2 w Q s o1 o2 e q
  unfold fJoin at e
  split at e
  · rename_i a _
    split at e
    · rename_i ys e1
      split at e
      · rename_i c
        cases e
        obtain ⟨ds, e2, e3⟩ := Option.bind_eq_some_iff.mp e1
        obtain ⟨p, vs, rfl, r, dv⟩ := any_of o2 s e2
        have hv := dStrs_v dv e3
        subst hv
        cases tup_dv o1
        exact ⟨_, p, ys, rfl, rfl, r, c, q _ F H Ep (stayE s) (.sh (.str _))⟩
      · cases e
    · cases e
  · cases e
def fUpper : W → Option W
  | .sh (.str a) => if a.length ≤ 5592405 then some (.sh (.str (Txt.upper a))) else none
  | _ => none
theorem o1_upper : Op1 g (fun x H Q => ∃ a, x = .str a ∧ ([] : List V) = [] ∧ a.length ≤ 5592405 ∧ Q (.str (Txt.upper a)) H) fUpper := by
  intro F H S x w1 w Q s o e q
  unfold fUpper at e
  split at e
  · split at e
    · rename_i c
      cases e
      cases tup_dv o
      exact ⟨_, rfl, rfl, c, q _ F H Ep (stayE s) (.sh (.str _))⟩
    · cases e
  · cases e
theorem f_upper {w w' : W} (h : fUpper w = some w') : ∃ s, w = .sh (.str s) := by
  unfold fUpper at h
  split at h
  · exact ⟨_, rfl⟩
  · cases h
/-! ### comprehensions as rules -/
variable {me : ER (List D)} {t : D → Env → Option Env} {vs : List Nat} {p : ER Bool} {i : Nat}
theorem e_lc {gg : TG} (hg : TgtIn gg vs (gx X) t) (h : PE X e (tLc (tI (gx X) Wx me) gg (tT (gx X) W0 p) (tE (gx X) W0 m) vs)) : PE X e (tE (gx X) Wx (mLc me t vs p m)) := peW h (w_lc' hg)
theorem s_setLc {gg : TG} (hp : pn i = false) (hg : TgtIn gg vs (gx X) t) (h : PS X st (tAsg (tLc (tI (gx X) Wx me) gg (tT (gx X) W0 p) (tE (gx X) W0 m) vs) (gName i))) : PS X st (tS (gx X) Wx pn (mAsg i (mLc me t vs p m))) :=
  psW h fun D σ H q => w_lc' hg σ H _ (w_asg hp D σ H q)
theorem p_yes : PTs X [] (tT (gx X) Wx (rt true)) := ⟨fun pins s σ H Q I h => pts_nil.run pins s σ H Q I (by
  obtain ⟨ρ, F, S, gd, O, h⟩ := h
  exact h.ans0 gd O true F H Ep (stayE gd.same) rfl)⟩
/-! constants of the module -/
def mG (d : D) : ER W := rt (.sh d)
theorem e_g {v : V} {d : D} (h : PE X e (tC v)) (hv : ∀ F, DV (gx X) F v d) : PE X e (tE (gx X) Wx (mG d)) := e_c h hv
end
end Fp

set_option Elab.async false
set_option linter.all false
set_option maxRecDepth 100000
set_option maxHeartbeats 4000000
namespace Fp
open PySem PySem.Spec L2
open PyProof.Rows hiding St

/-! ### defs by name -/
/-- what the written part says of a def: its name among the globals, its own name, its text -/
structure DefT (K : PySem.W.Frag) (mg : Str → Option Value) (y x : Str) (st : Stmt) (ps : List Str) : Prop where
  ex : ∃ a fd, mg y = some (.ref a) ∧ Fun K x x st a fd ∧ Binds K fd ps []
/-- what is proved of a def -/
def DefOk (P : Program) (w : World) (K : PySem.W.Frag) (mg : Str → Option Value) (base : Heap) (k : Nat) (y : Str) (n : Nat) (f : List W → Out W) : Prop :=
  ∃ a fd ps, mg y = some (.ref a) ∧ PySem.W.keepIn K (.ref a) = true ∧ Binds K fd ps [] ∧ FnOk P w K mg base (L2.CX P w) k a fd ps (spF ⟨P, w, K, mg⟩ f n)
section
variable {P : Program} {w : World} {K : PySem.W.Frag} {mg : Str → Option Value} {base : Heap}
theorem def_ok {y x : Str} {st : Stmt} {N ps : List Str} {k : Nat} {pn : Nat → Bool} {m : ER Fl} (T : DefT K mg y x st ps) (S : FnScope N ps (defScope st)) (hle : ps.length ≤ N.length)
    (hb : ∀ (f : Addr) (cdv : Value) (A : Around) (outer : List PySem.Env) (s : Shared) (H : Hp) (E : XK), Room k (A.deeper (envOfC x (defScope st) s.heap.objs.size f cdv)) →
      PSs (cxOf (L2.CX P w) P w K mg base N x (defScope st) f cdv A outer s H E) (defBody st) (tS ⟨P, w, K, mg⟩ (fun cls d _ H' => E cls d H') pn m)) :
    DefOk P w K mg base (k + 1) y ps.length (runF pn ps.length (N.length - ps.length) m) := by
  obtain ⟨a, fd, h1, F, b⟩ := T.ex
  exact ⟨a, fd, ps, h1, F.kp, b, fn_ok F S hle (hb a)⟩
end
section
variable {X : Cx} {Wx : WX} {pn : Nat → Bool} {a b e : Expr} {es : List Expr} {m ma mb : ER W} {ms : ER (List W)} {pos apos cpos p : Pos} {i : Nat} {st : Stmt} {g : G} {bk : List (Option Nat)}
theorem e_callD {y : Str} {j k n : Nat} {f : List W → Out W} (d : DefOk X.prog X.w X.K X.mg X.base j y n f) (hr : Room k X.A) (hk : j ≤ k) (hg : Gl X y) (tk : Takes X Wx) (hn : bk.length = n)
    (ha : PA X (e :: es) (tAc (gx X) Wx bk ms)) (hdb : (y == ("__debug__" : Str)) = false := by decide) (he : starEach (e :: es) X.env = (false, eval e X.env) :: starEach es X.env := by rfl) (hpl : (backTo pos (starEach es X.env)).any (·.1) = false := by rfl) :
    PE X (.Call (.Name y p) (e :: es) [] pos) (tE (gx X) Wx (mCall f bk ms)) := by
  obtain ⟨a, fd, ps, h1, h2, h3, h4⟩ := d
  exact e_call hn (pe_callS h4 (hr.mono hk) hg h1 h2 h3 (fun σ => passAt tk σ) ha hdb he hpl)
theorem takes0 : Takes X W0 := fun _ _ ⟨_, _, _, _, _, _, _, _, _, _, _, _, _, _, _, _, z⟩ => z.elim
/-! ### own exceptions -/
structure ExcT (K : PySem.W.Frag) (mg : Str → Option Value) (c : Str) : Prop where
  ex : ∃ C, mg c = some (.ref C) ∧ PySem.W.keepIn K (.ref C) = true ∧ PySem.W.excIn K C [.type "ValueError", .type "Exception", .type "BaseException", .type "object"] "ValueError.__new__" = true ∧
    PySem.W.subIn K (.ref C) (.type "BaseException") = some true ∧ PySem.W.typeIn K (.ref C) = some (.type "type")
theorem r_own {c x : Str} {k : Nat} {p1 p2 p3 : Pos} (hc : X.calm = true) (tk : Takes X Wx) (T : ExcT X.K X.mg c) (hg : Gl X c := by rfl) (hdb : (c == ("__debug__" : Str)) = false := by decide) :
    PS X (.Raise (some (.Call (.Name c p1) [.Constant (.str x) k p2] [] p3)) none pos) (tS (gx X) Wx pn (mRaise c)) := by
  obtain ⟨C, h1, h2, h3, h4, h5⟩ := T.ex
  exact s_raise h1 (ps_raise hc tk (pmk_own PySem.F.excBase_ValueError h3 h1 h2 (raises_own h4 h5) hg hdb))
/-! ### x[::-1] -/
def mRev (m : ER W) : ER W := m1 (fun w => w.items.map fun ds => .lst (ds.reverse.map .sh)) m
theorem e_rev {k : Nat} {p1 p2 p3 : Pos} (h : PE X e (tB (gx X) Wx m)) : PE X (.Subscript e (.Slice none none (some (.UnaryOp .USub (.Constant (.int 1) k p1) p2)) p3) pos) (tE (gx X) Wx (mRev m)) :=
  peW (pe_revL h) (w_1 (r := fun x H Q => ∃ a xs, x = .ref a ∧ SqL X.K H a xs ∧ ∀ p, H p = none → Q (.ref p) (upd H p (.lst xs.reverse))) fun F H S x w1 w Q s o e q => by
    obtain ⟨ds, e1, rfl⟩ := Option.map_eq_some_iff.mp e
    obtain ⟨a, vs, rfl, r, dv⟩ := lst_of o s e1
    refine ⟨a, vs, rfl, .inl r, fun p n => ?_⟩
    have dv' : ∀ {vs : List V} {ds : List D}, DVs (gx X) F vs ds → DVs (gx X) F vs.reverse ds.reverse := by
      intro vs
      induction vs with
      | nil => intro ds h; cases h; exact .nil
      | cons v vs ih =>
        intro ds h
        cases h with
        | cons h1 h2 => rw [List.reverse_cons, List.reverse_cons]; exact (ih h2).snoc h1
    obtain ⟨st, ov⟩ := newL s n (dv' dv)
    exact q _ _ _ _ st ov)
end
/-! ### classes by name -/
def cvOf (mg : Str → Option Value) (n : Str) : Value := match mg n with
  | some u => u
  | none => (bootBuiltins n).getD .none
def tabLook (tab : List (Str × Str × Bool)) (c n : Str) : Option Bool := match tab with
  | [] => none
  | p :: r => if p.1 = c ∧ p.2.1 = n then some p.2.2 else tabLook r c n
theorem tabLook_mem {tab : List (Str × Str × Bool)} {c n : Str} {b : Bool} (h : tabLook tab c n = some b) : (c, n, b) ∈ tab := by
  induction tab with
  | nil => cases h
  | cons p r ih =>
    simp only [tabLook] at h
    split at h
    · rename_i e
      cases h
      obtain ⟨rfl, rfl⟩ := e
      exact List.mem_cons_self
    · exact List.mem_cons_of_mem _ (ih h)
/-- which of the clause's classes catch an exception of the class c -/
def subT (tab : List (Str × Str × Bool)) (c : Str) : List Str → Option Bool
  | [] => none
  | n :: r => match r with
    | [] => tabLook tab c n
    | _ => match tabLook tab c n, subT tab c r with
      | some b, some d => some (b || d)
      | _, _ => none
def SubTab (K : PySem.W.Frag) (mg : Str → Option Value) (tab : List (Str × Str × Bool)) : Prop := ∀ p ∈ tab, ∃ C, mg p.1 = some (.ref C) ∧ PySem.W.exmOne K (.ref C) (cvOf mg p.2.1) = some p.2.2
theorem exmAny_two {K : PySem.W.Frag} {cls c : Value} {r : List Value} {b d : Bool} (h : PySem.W.exmOne K cls c = some b) (k : PySem.W.exmAny K cls r = some d) : PySem.W.exmAny K cls (c :: r) = some (b || d) := by
  unfold PySem.W.exmAny
  rw [h, k]
theorem sub_ok {g : G} {tab : List (Str × Str × Bool)} (h : SubTab g.K g.mg tab) : SubOk g (cvOf g.mg) (subT tab) := by
  intro c cls ns b hc e
  have one : ∀ {n b}, tabLook tab c n = some b → (∃ C, cls = .ref C) ∧ PySem.W.exmOne g.K cls (cvOf g.mg n) = some b := fun {n b} e => by
    obtain ⟨C, h1, h2⟩ := h _ (tabLook_mem e)
    rw [h1] at hc
    cases hc
    exact ⟨⟨C, rfl⟩, h2⟩
  induction ns generalizing b with
  | nil => cases e
  | cons n r ih =>
    cases r with
    | nil =>
      obtain ⟨h1, h2⟩ := one e
      refine ⟨h1, ?_⟩
      have := exmAny_two (r := []) (d := false) h2 rfl
      rw [Bool.or_false] at this
      exact this
    | cons n2 r2 =>
      unfold subT at e
      simp only at e
      split at e
      · rename_i b1 d1 e1 e2
        cases e
        exact ⟨(one e1).1, exmAny_two (one e1).2 (ih _ e2).2⟩
      · cases e
/-- a class's name: own, or a builtin one -/
def ClsN (mg : Str → Option Value) (n : Str) : Prop := (∃ C, mg n = some (.ref C)) ∨ (mg n = none ∧ ∃ T, bootBuiltins n = some (.type T) ∧ n ≠ "__name__")
theorem names_of {X : Cx} {n : Str} (h : ClsN X.mg n) (hg : Gl X n := by rfl) (hd : (n == ("__debug__" : Str)) = false := by decide) : Names X n (cvOf X.mg n) := by
  refine ⟨hg, hd, ?_⟩
  rcases h with ⟨C, h⟩ | ⟨h, T, h2, h3⟩
  · left; unfold cvOf; rw [h]
  · right; unfold cvOf; rw [h, h2]; exact ⟨rfl, rfl, h3⟩
def IsaTab (K : PySem.W.Frag) (mg : Str → Option Value) (tab : List (Str × Str × Bool)) : Prop := ∀ p ∈ tab, ∃ C, mg p.1 = some (.ref C) ∧ ExcC K C ∧ PySem.W.kitOne K (.ref C) (cvOf mg p.2.1) = some p.2.2
def isaT (tab : List (Str × Str × Bool)) (n c : Str) : Option Bool := tabLook tab c n
theorem isa_ok {g : G} {tab : List (Str × Str × Bool)} {n : Str} {v : V} (h : IsaTab g.K g.mg tab) (hv : ∀ w, RelV v w → w = cvOf g.mg n) : IsaOk g v (isaT tab n) := by
  intro c C b hc e
  obtain ⟨C', h1, h2, h3⟩ := h _ (tabLook_mem e)
  rw [h1] at hc
  cases hc
  exact ⟨h2, _, hv, h3⟩
section
variable {X : Cx} {Wx : WX} {e : Expr} {m : ER W} {pos p q : Pos}
theorem e_isA {tab : List (Str × Str × Bool)} {n : Str} (hi : IsaTab X.K X.mg tab) (hn : ClsN X.mg n) (hb : X.mg "isinstance" = none) (hg : Gl X n) (hg2 : Gl X "isinstance") (he : PE X e (tB (gx X) Wx m)) (hd : (n == ("__debug__" : Str)) = false := by decide)
    (h1 : starEach [e, .Name n q] X.env = (false, eval e X.env) :: starEach [.Name n q] X.env := by rfl) (h2 : starEach [.Name n q] X.env = (false, eval (.Name n q) X.env) :: starEach [] X.env := by rfl) (h3 : (backTo pos (starEach [.Name n q] X.env)).any (·.1) = false := by rfl) :
    PE X (.Call (.Name "isinstance" p) [e, .Name n q] [] pos) (tE (gx X) Wx (mIsX (isaT tab n) m)) := by
  rcases hn with ⟨C, h⟩ | ⟨h, T, h4, h5⟩
  · exact e_isX (cv := .ref C) (L2.pe_callB (call_isX (isa_ok hi fun w r => by unfold cvOf; dsimp only [gx]; rw [h]; exact r)) hg2 hb (by decide +kernel) (pa_cons he (pa_cons (pe_glob hg h rfl hd) pa_nil h2) h1) (he := h1) (hpl := h3))
  · exact e_isX (cv := .ty T) (L2.pe_callB (call_isX (isa_ok hi fun w r => by unfold cvOf; dsimp only [gx]; rw [h, h4]; exact r)) hg2 hb (by decide +kernel) (pa_cons he (pa_cons (pe_bltn hg h h4 rfl h5 hd) pa_nil h2) h1) (he := h1) (hpl := h3))
end
end Fp

set_option Elab.async false
set_option linter.all false
set_option maxRecDepth 100000
set_option maxHeartbeats 4000000
namespace Fp
open PySem PySem.Spec L2
open PyProof.Rows hiding St

/-! ### a method of a list with one argument, that changes nothing -/
def isLst : W → Bool
  | .lst _ => true
  | .sh (.lst _) => true
  | _ => false
theorem isLst_of {g : G} {F H : Hp} {S : AS} {v : V} {w : W} (h : OV g F H v w S) (s : Same F H) (e : isLst w = true) : ∃ a vs, v = .ref a ∧ Rd H a (.lst vs) := by
  cases h with
  | sh d =>
    cases d with
    | lst h1 h2 => exact ⟨_, _, rfl, (Sub.of_same s).rd h1⟩
    | _ => cases e
  | lst h1 h2 h3 h4 => exact ⟨_, _, rfl, .of h2⟩
  | _ => cases e
def mBm1 (f : W → W → Option W) (ma mb : ER W) : ER W := bnd ma fun a => if isLst a then bnd mb fun b => opt (f a b) else bad
def fIndex (a : W) : W → Option W
  | .sh d => match a.items.bind flatDs, flatD d with
    | some ys, some y => match ys.findIdx? (fun z => eqV z y) with
      | some j => some (.sh (.int (j : Nat)))
      | none => none
    | _, _ => none
  | _ => none
section
variable {X : Cx} {Wx : WX} {pn : Nat → Bool} {e a b : Expr} {m ma mb mk mv : ER W} {st : Stmt} {pos : Pos} {i : Nat} {g : G}
theorem e_bmL {r : V → List V → Hp → VK → Prop} {f : W → W → Option W} (ho : Op2 (gx X) (fun x y H Q => r x [y] H Q) f) (h : PE X e (tBM X.K "list" r (tE (gx X) Wx ma) (tCons (tB (gx X) Wx mb) tNil))) : PE X e (tE (gx X) Wx (mBm1 f ma mb)) := peW h fun σ H Q q => by
  refine tG_bind (R2 := OV (gx X)) q fun wa ρ1 v1 F1 H1 S1 T1 d1 gd O r1 h => ?_
  by_cases c : isLst wa = true
  · rw [if_pos c] at h
    refine ⟨?_, ?_⟩
    · obtain ⟨a, vs, rfl, r⟩ := isLst_of r1 gd.same c
      exact .inl ⟨rfl, vs, .inl r⟩
    · refine ResP.bind (R := RBor (gx X)) h d1 gd O fun wb ρ2 v2 F2 H2 S2 T2 d2 d3 gd2 sb k O2 r2 h2 => ?_
      obtain ⟨sm, T, r2⟩ := r2
      unfold opt at h2
      cases e3 : f wa wb with
      | none => rw [e3] at h2; exact h2.elim
      | some w =>
        rw [e3] at h2
        exact ho F2 H2 T1 T v1 v2 wa wb w Q sm (r1.mono sb k) r2 e3 (h2.ans0 gd2 (O2.wk (Sb.l.trans .l)))
  · rw [if_neg c] at h; exact h.elim
theorem o2_index : Op2 g (fun x y H Q => rIndex g.K x [y] H Q) fIndex := by
  intro F H S1 S2 x y w1 w2 w Q s o1 o2 e q
  unfold fIndex at e
  split at e
  · rename_i d
    split at e
    · rename_i ys yv e1 e2
      split at e
      · rename_i j e3
        cases e
        obtain ⟨ds, e4, e5⟩ := Option.bind_eq_some_iff.mp e1
        obtain ⟨a, vs, rfl, r, dv⟩ := lst_of o1 s e4
        obtain ⟨rfl, fv⟩ := flat_vs dv e5
        obtain ⟨rfl, fy⟩ := flat_v (tup_dv o2) e2
        obtain ⟨hj, hz, hno⟩ := List.findIdx?_eq_some_iff_getElem.mp e3
        refine ⟨a, _, _, j, _, rfl, rfl, .inl r, fy, fv, List.getElem?_eq_getElem hj, hz, fun m z' hm hz' => ?_, q _ F H Ep (stayE s) (.sh (.int _))⟩
        obtain ⟨hm2, rfl⟩ := List.getElem?_eq_some_iff.mp hz'
        have := hno m hm
        simpa using this
      · cases e
    · cases e
  · cases e
end
/-! ### paths into what a slot owns -/
inductive PathV (H : Hp) : V → List Nat → V → Prop
  | nil {v : V} : PathV H v [] v
  | lst {a : Addr} {vs : List V} {j : Nat} {p : List Nat} {u v : V} : H a = some (.lst vs) → vs[j]? = some u → PathV H u p v → PathV H (.ref a) (j :: p) v
  | tup {a : Addr} {vs : List V} {j : Nat} {p : List Nat} {u v : V} : H a = some (.tup vs) → vs[j]? = some u → PathV H u p v → PathV H (.ref a) (j :: p) v
theorem PathV.det {H : Hp} {u v v' : V} {p : List Nat} (h : PathV H u p v) (k : PathV H u p v') : v = v' := by
  induction h with
  | nil => cases k; rfl
  | lst h1 h2 _ ih =>
    cases k with
    | lst k1 k2 k3 => rw [h1] at k1; cases k1; rw [h2] at k2; cases k2; exact ih k3
    | tup k1 k2 k3 => rw [h1] at k1; cases k1
  | tup h1 h2 _ ih =>
    cases k with
    | lst k1 k2 k3 => rw [h1] at k1; cases k1
    | tup k1 k2 k3 => rw [h1] at k1; cases k1; rw [h2] at k2; cases k2; exact ih k3
theorem PathV.snoc {H : Hp} {u v x : V} {p : List Nat} {j : Nat} (h : PathV H u p v) (k : PathV H v [j] x) : PathV H u (p ++ [j]) x := by
  induction h with
  | nil => exact k
  | lst h1 h2 _ ih => exact .lst h1 h2 (ih k)
  | tup h1 h2 _ ih => exact .tup h1 h2 (ih k)
def atP : List Nat → W → Option W
  | [], w => some w
  | j :: p, .lst ws => ws[j]?.bind (atP p)
  | j :: p, .tup ws => ws[j]?.bind (atP p)
  | _ :: _, _ => none
def putP : List Nat → W → W → W
  | [], _, x => x
  | j :: p, .lst ws, x => .lst (ws.set j (putP p (ws[j]?.getD .mov) x))
  | j :: p, .tup ws, x => .tup (ws.set j (putP p (ws[j]?.getD .mov) x))
  | _ :: _, w, _ => w
theorem OVs.focus {g : G} {F H : Hp} : ∀ {vs : List V} {ws : List W} {S : AS} {j : Nat} {w : W}, OVs g F H vs ws S → ws[j]? = some w →
    ∃ v S1 S2, vs[j]? = some v ∧ Sb S1 S ∧ Sb S2 S ∧ Dj S1 S2 ∧ OV g F H v w S1 ∧
      ∀ {F' H' : Hp} {w' : W} {T : AS}, Sub F F' → (∀ a, S2 a → H' a = H a) → Dj T S2 → OV g F' H' v w' T → OVs g F' H' vs (ws.set j w') (U T S2)
  | _, _, _, 0, _, .cons (w := w) (S1 := S1) (S2 := S2) h1 h2 h3 h4 h5, e => by
    have e : w = _ := Option.some.inj e
    subst e
    exact ⟨_, S1, S2, rfl, h1, h2, h3, h4, fun s k d h => .cons .l .r d h (h5.mono s k)⟩
  | _, _, _, j + 1, _, .cons (S1 := S1) (S2 := S2) h1 h2 h3 h4 h5, e => by
    obtain ⟨v, T1, T2, q1, q2, q3, q4, q5, q6⟩ := OVs.focus h5 (j := j) (by simpa using e)
    refine ⟨v, T1, U S1 T2, by simpa using q1, q2.trans h2, h1.u (q3.trans h2), fun a z z' => ?_, q5, fun {F' H' w' T} s k d h => ?_⟩
    · rcases z' with z' | z'
      · exact h3 a z' (q2 a z)
      · exact q4 a z z'
    · have q := q6 (F' := F') (H' := H') (w' := w') (T := T) s (fun a z => k a (.inr z)) (d.mono (.refl T) .r) h
      refine .cons (S1 := S1) (S2 := U T T2) (fun a z => .inr (.inl z)) (fun a z => z.elim .inl fun z => .inr (.inr z)) (fun a z z' => ?_) (h4.mono s fun a z => k a (.inl z)) q
      rcases z' with z' | z'
      · exact d a z' (.inl z)
      · exact h3 a z (q3 a z')
  | _, _, _, _, _, .nil, e => by simp at e
theorem path_focus {g : G} {F H : Hp} : ∀ {p : List Nat} {u : V} {w w' : W} {S : AS}, OV g F H u w S → atP p w = some w' →
    ∃ v S1 S2, Sb S1 S ∧ Sb S2 S ∧ Dj S1 S2 ∧ OV g F H v w' S1 ∧ (∀ H', (∀ a, S2 a → H' a = H a) → PathV H' u p v) ∧
      ∀ {F' H' : Hp} {x : W} {T : AS}, Sub F F' → (∀ a, S2 a → H' a = H a) → Dj T S2 → OV g F' H' v x T → OV g F' H' u (putP p w x) (U T S2)
  | [], u, w, w', S, o, e => by
    cases e
    exact ⟨u, S, Ep, .refl S, fun _ z => z.elim, Dj.ep _, o, fun _ _ => .nil, fun s k d h => h.wk .l⟩
  | j :: p, u, w, w', S, o, e => by
    cases o with
    | @lst a vs ws _ T0 h1 h2 h3 h4 =>
      obtain ⟨y, e1, e2⟩ := Option.bind_eq_some_iff.mp e
      obtain ⟨v1, T1, T2, q1, q2, q3, q4, q5, q6⟩ := h4.focus e1
      obtain ⟨v, S1, S2, r1, r2, r3, r4, r5, r6⟩ := path_focus q5 e2
      have n1 : ∀ b, T1 b → b ≠ a := fun b z => (h3 b (q2 b z)).2
      refine ⟨v, S1, fun b => b = a ∨ T2 b ∨ S2 b, fun b z => (h3 b (q2 b (r1 b z))).1, fun b z => ?_, fun b z z' => ?_, r4, fun H' k => .lst ((k a (.inl rfl)).trans h2) q1 (r5 H' fun b z => k b (.inr (.inr z))), fun {F' H' x T} s k d h => ?_⟩
      · rcases z with rfl | z | z
        · exact h1
        · exact (h3 b (q3 b z)).1
        · exact (h3 b (q2 b (r2 b z))).1
      · rcases z' with rfl | z' | z'
        · exact n1 _ (r1 _ z) rfl
        · exact q4 b (r1 b z) z'
        · exact r3 b z z'
      · have o1 := r6 (F' := F') (H' := H') (x := x) (T := T) s (fun b z => k b (.inr (.inr z))) (fun b z z' => d b z (.inr (.inr z'))) h
        have o2 := q6 (F' := F') (H' := H') s (fun b z => k b (.inr (.inl z))) (fun b z z' => z.elim (fun z => d b z (.inr (.inl z'))) fun z => q4 b (r2 b z) z') o1
        have eg : ws[j]?.getD .mov = y := by rw [e1]; rfl
        show OV g F' H' (.ref a) (.lst (ws.set j (putP p (ws[j]?.getD .mov) x))) _
        rw [eg]
        refine .lst (T := U (U T S2) T2) (.inr (.inl rfl)) ((k a (.inl rfl)).trans h2) (fun b z => ?_) o2
        rcases z with (z | z) | z
        · exact ⟨.inl z, fun z' => d b z (.inl z')⟩
        · exact ⟨.inr (.inr (.inr z)), n1 b (r2 b z)⟩
        · exact ⟨.inr (.inr (.inl z)), (h3 b (q3 b z)).2⟩
    | @tup a vs ws _ T0 h1 h2 h3 h4 =>
      obtain ⟨y, e1, e2⟩ := Option.bind_eq_some_iff.mp e
      obtain ⟨v1, T1, T2, q1, q2, q3, q4, q5, q6⟩ := h4.focus e1
      obtain ⟨v, S1, S2, r1, r2, r3, r4, r5, r6⟩ := path_focus q5 e2
      have n1 : ∀ b, T1 b → b ≠ a := fun b z => (h3 b (q2 b z)).2
      refine ⟨v, S1, fun b => b = a ∨ T2 b ∨ S2 b, fun b z => (h3 b (q2 b (r1 b z))).1, fun b z => ?_, fun b z z' => ?_, r4, fun H' k => .tup ((k a (.inl rfl)).trans h2) q1 (r5 H' fun b z => k b (.inr (.inr z))), fun {F' H' x T} s k d h => ?_⟩
      · rcases z with rfl | z | z
        · exact h1
        · exact (h3 b (q3 b z)).1
        · exact (h3 b (q2 b (r2 b z))).1
      · rcases z' with rfl | z' | z'
        · exact n1 _ (r1 _ z) rfl
        · exact q4 b (r1 b z) z'
        · exact r3 b z z'
      · have o1 := r6 (F' := F') (H' := H') (x := x) (T := T) s (fun b z => k b (.inr (.inr z))) (fun b z z' => d b z (.inr (.inr z'))) h
        have o2 := q6 (F' := F') (H' := H') s (fun b z => k b (.inr (.inl z))) (fun b z z' => z.elim (fun z => d b z (.inr (.inl z'))) fun z => q4 b (r2 b z) z') o1
        have eg : ws[j]?.getD .mov = y := by rw [e1]; rfl
        show OV g F' H' (.ref a) (.tup (ws.set j (putP p (ws[j]?.getD .mov) x))) _
        rw [eg]
        refine .tup (T := U (U T S2) T2) (.inr (.inl rfl)) ((k a (.inl rfl)).trans h2) (fun b z => ?_) o2
        rcases z with (z | z) | z
        · exact ⟨.inl z, fun z' => d b z (.inl z')⟩
        · exact ⟨.inr (.inr (.inr z)), n1 b (r2 b z)⟩
        · exact ⟨.inr (.inr (.inl z)), (h3 b (q3 b z)).2⟩
    | _ => cases e
/-- a place in what slot i owns -/
def tH (g : G) (Wx : WX) (i : Nat) (m : ER (List Nat)) : TE := fun σ H Q => ∃ ρ F S, Good F H S ∧ OSs g F H σ ρ S ∧ match m ρ with
  | .ok p ρ' => ∀ F' H' S' u v w w', Step F S H F' H' S' → OSs g F' H' σ ρ' S' → σ[i]? = some (some u) → ρ'[i]? = some w → atP p w = some w' → PathV H' u p v → Q v H'
  | .exc c ρ' => ∀ cls F' H' S', g.mg c = some cls → Step F S H F' H' S' → OSs g F' H' σ ρ' S' → Wx cls none σ H'
  | .bad => False
def mHv (i : Nat) : ER (List Nat) := fun ρ => match ρ[i]? with
  | some .mov => .bad
  | some _ => .ok [] ρ
  | none => .bad
def res1 : W → D → Option Nat
  | .lst ws, .int i => ixN ws.length i
  | .tup ws, .int i => ixN ws.length i
  | _, _ => none
def mHq (i : Nat) (m : ER (List Nat)) (q : Env → Option D) : ER (List Nat) := bnd m fun p ρ => match ρ[i]?.bind (atP p), q ρ with
  | some w, some d => match res1 w d with
    | some j => .ok (p ++ [j]) ρ
    | none => .bad
  | _, _ => .bad
section
variable {X : Cx} {Wx : WX} {pn : Nat → Bool} {e a b : Expr} {m mb mk mv : ER W} {mp : ER (List Nat)} {st : Stmt} {pos : Pos} {i : Nat} {g : G}
theorem h_v (h : PE X e (tVar i)) : PE X e (tH (gx X) Wx i (mHv i)) := peW h fun σ H Q q => by
  obtain ⟨ρ, F, S, gd, O, h⟩ := q
  unfold mHv at h
  cases e : ρ[i]? with
  | none => rw [e] at h; exact h.elim
  | some w =>
    have hm : w ≠ .mov := fun z => by subst z; rw [e] at h; exact h
    obtain ⟨v, T, q1, q2⟩ := slotAt O e hm
    refine ⟨v, q1, ?_⟩
    rw [e] at h
    cases w with
    | mov => exact h.elim
    | _ => exact h F H S v v _ _ (Step.refl gd) O q1 e rfl .nil
theorem at_snoc {p : List Nat} {j : Nat} : ∀ {w : W}, atP (p ++ [j]) w = (atP p w).bind (atP [j]) := by
  induction p with
  | nil => intro w; rfl
  | cons k p ih =>
    intro w
    cases w with
    | lst ws =>
      show ws[k]?.bind (atP (p ++ [j])) = (ws[k]?.bind (atP p)).bind (atP [j])
      cases ws[k]? with
      | none => rfl
      | some y => exact ih
    | tup ws =>
      show ws[k]?.bind (atP (p ++ [j])) = (ws[k]?.bind (atP p)).bind (atP [j])
      cases ws[k]? with
      | none => rfl
      | some y => exact ih
    | _ => rfl
theorem ixN_lt {n : Nat} {i : Int} {j : Nat} (h : ixN n i = some j) : j < n := (ixN_seq h).2.1
/-- one step on: a list's or a tuple's item -/
theorem ix_step {F H : Hp} {S : AS} {v : V} {w : W} {d : D} {j : Nat} {y : V} {Q : VK} (o : OV g F H v w S) (e : res1 w d = some j) (dv : DV g F y d) (q : ∀ x w', atP [j] w = some w' → PathV H v [j] x → Q x H) : rIx g v y H Q := by
  unfold res1 at e
  split at e
  · cases dv
    cases o with
    | @lst a vs ws _ T0 h1 h2 h3 h4 =>
      have hl := h4.length
      have hj : j < vs.length := by have := ixN_lt e; omega
      have hw : j < _ := ixN_lt e
      refine .inl (.inl ⟨a, vs, _, vs[j], rfl, rfl, .inl (.of h2), by unfold atI; rw [hl, e]; first | done | exact List.getElem?_eq_getElem hj, q _ _ (by show (Option.bind _ _) = _; rw [List.getElem?_eq_getElem hw]; rfl) (.lst h2 (List.getElem?_eq_getElem hj) .nil)⟩)
  · cases dv
    cases o with
    | @tup a vs ws _ T0 h1 h2 h3 h4 =>
      have hl := h4.length
      have hj : j < vs.length := by have := ixN_lt e; omega
      have hw : j < _ := ixN_lt e
      refine .inl (.inr ⟨a, vs, _, vs[j], rfl, rfl, .inl (.of h2), by unfold atI; rw [hl, e]; first | done | exact List.getElem?_eq_getElem hj, q _ _ (by show (Option.bind _ _) = _; rw [List.getElem?_eq_getElem hw]; rfl) (.tup h2 (List.getElem?_eq_getElem hj) .nil)⟩)
  · cases e
theorem h_q {q : Env → Option D} (hu : X.A.units + 64 < cLine) (ha : PE X a (tH (gx X) Wx i mp)) (hb : PE X b (tQ (gx X) q)) (hs : PlainIx b) : PE X (.Subscript a b pos) (tH (gx X) Wx i (mHq i mp q)) := peW (pe_ix (ix_all hu) ha hb hs) fun σ H Q hq => by
  obtain ⟨ρ, F, S, gd, O, h⟩ := hq
  refine ⟨ρ, F, S, gd, O, ?_⟩
  unfold mHq bnd at h
  cases e : mp ρ with
  | bad => rw [e] at h; exact h.elim
  | exc c ρ1 => rw [e] at h; exact h
  | ok p ρ1 =>
    rw [e] at h
    intro F1 H1 S1 u v w w' st O1 e1 e2 e3 pv
    simp only [e2, Option.bind_some, e3] at h
    cases eq : q ρ1 with
    | none => simp only [eq] at h
    | some d =>
      simp only [eq] at h
      cases er : res1 w' d with
      | none => simp only [er] at h
      | some j =>
        simp only [er] at h
        refine ⟨ρ1, F1, S1, st.gd, O1, d, eq, fun y dv => ?_⟩
        have hm : w ≠ .mov := fun z => by
          subst z
          cases p with
          | nil => cases e3; simp [res1] at er
          | cons => simp [atP] at e3
        obtain ⟨u', T, q1, q2⟩ := slotAt O1 e2 hm
        rw [e1] at q1
        cases q1
        obtain ⟨v', T1, T2, r1, r2, r3, r4, r5, r6⟩ := path_focus q2 e3
        have := (r5 H1 fun _ _ => rfl).det pv
        subst this
        refine ix_step r4 er dv fun x w2 ew px => h F1 H1 S1 u x w w2 st O1 e1 e2 ?_ (pv.snoc px)
        rw [at_snoc, e3]
        exact ew
/-- what stands at the place is handed to a method of lists -/
def mMthP (i : Nat) (mp : ER (List Nat)) (f : List W → W → Option (W × List W)) (m : ER W) : ER W := bnd mp fun p ρ => match ρ[i]? with
  | none => .bad
  | some w => match atP p w with
    | some (.lst ws) => (match m (ρ.set i .mov) with
      | .ok x ρ2 => (match f ws x with
        | some (wr, ws') => .ok wr (ρ2.set i (putP p w (.lst ws')))
        | none => .bad)
      | _ => .bad)
    | _ => .bad
/-- a slot's own thing set aside -/
theorem setAside {σ : St} {ρ : Env} {F H : Hp} {S : AS} {w : W} (O : OSs g F H σ ρ S) (e : ρ[i]? = some w) (hm : w ≠ .mov) : ∃ u S1 S2, σ[i]? = some (some u) ∧ Sb S1 S ∧ Sb S2 S ∧ Dj S1 S2 ∧ OV g F H u w S1 ∧ OSs g F H σ (ρ.set i .mov) S2 := by
  obtain ⟨o, S1, S2, q1, q2, q3, q4, q5, q6⟩ := O.focus e
  rcases q5 with rfl | ⟨v, rfl, q5⟩
  · exact absurd rfl hm
  have O2 := q6 (F' := F) (H' := H) (o' := some v) (w' := .mov) (T := Ep) (.refl F) (fun _ _ => rfl) (fun _ z => z.elim) (.inl rfl)
  rw [setSelf q1] at O2
  exact ⟨v, S1, S2, q1, q2, q3, q4, q5, O2.wk (Sb.u (fun _ z => z.elim) (.refl _))⟩
theorem putBack {σ : St} {ρ : Env} {F H : Hp} {S T : AS} {u : V} {w : W} (O : OSs g F H σ ρ S) (e : σ[i]? = some (some u)) (o : OV g F H u w T) (d : Dj S T) : OSs g F H σ (ρ.set i w) (U S T) := O.putO e (.inr ⟨u, rfl, o⟩) d
theorem e_mthP {f : List W → W → Option (W × List W)} {r : V → List V → Hp → VK → Prop} (ho : MthOk (gx X) r f) (h : PE X e (tBM X.K "list" r (tH (gx X) Wx i mp) (tCons (tE (gx X) Wx m) tNil))) : PE X e (tE (gx X) Wx (mMthP i mp f m)) := peW h fun σ H Q hq => by
  obtain ⟨ρ, F, S, gd, O, h⟩ := hq
  refine ⟨ρ, F, S, gd, O, ?_⟩
  unfold mMthP bnd at h
  cases e : mp ρ with
  | bad => rw [e] at h; exact h.elim
  | exc c ρ1 => rw [e] at h; exact h
  | ok p ρ1 =>
    rw [e] at h
    intro F1 H1 S1 u v w w' st O1 e1 e2 e3 pv
    simp only [e2, e3] at h
    cases w' with
    | lst ws =>
      simp only at h
      have hm : w ≠ .mov := fun z => by
        subst z
        cases p with
        | nil => cases e3
        | cons => simp [atP] at e3
      obtain ⟨u', A, B, q1, q2, q3, q4, q5, q6⟩ := setAside O1 e2 hm
      rw [e1] at q1
      cases q1
      obtain ⟨v', T1, T2, r1, r2, r3, r4, r5, r6⟩ := path_focus q5 e3
      have := (r5 H1 fun _ _ => rfl).det pv
      subst this
      refine ⟨?_, ?_⟩
      · obtain ⟨a, vs, rfl, rr⟩ := isLst_of r4 st.gd.same rfl
        exact .inl ⟨rfl, vs, .inl rr⟩
      · have gd1 : Good F1 H1 (U B A) := st.gd.sb (Sb.u q3 q2)
        have stAB : Step F S H F1 H1 (U B A) := st.sb (Sb.u q3 q2)
        refine ⟨ρ1.set i .mov, F1, B, gd1.sb .l, q6, ?_⟩
        cases em : m (ρ1.set i .mov) with
        | bad => simp only [em] at h; exact h.elim
        | exc c ρ2 => simp only [em] at h; exact h.elim
        | ok x ρ2 =>
          simp only [em] at h
          cases ef : f ws x with
          | none => simp only [ef] at h; exact h.elim
          | some rr =>
            obtain ⟨wr, ws'⟩ := rr
            simp only [ef] at h
            intro y F2 H2 C1 C2 dC st2 O2 oy
            obtain ⟨st2', dj⟩ := st2.frame gd1 q4.symm
            have kp := st2.keep gd1 q4.symm
            have r4' : OV (gx X) F2 H2 v' (.lst ws) T1 := r4.mono st2.ext fun b z => kp b (r1 b z)
            obtain ⟨a, rfl, ha⟩ : ∃ a, v' = .ref a ∧ T1 a := by cases r4 with | lst h1 h2 h3 h4 => exact ⟨_, rfl, h1⟩
            have dC2 : Dj T1 C2 := fun b z z' => dj b (.inr z') (r1 b z)
            refine ho F2 H2 T1 C2 a y ws ws' x wr Q (st2'.gd.sb (Sb.u (r1.trans .r) (Sb.r.trans .l))) dC2 r4' oy ef fun us v2 ov ov2 => ?_
            have ne2 : ∀ b, T2 b → b ≠ a := fun b z z' => r3 b (by rw [z']; exact ha) z
            have o3 := r6 (F' := F2) (H' := upd H2 a (.lst us)) (x := .lst ws') (T := U T1 C2) st2.ext (fun b z => (upd_ne (ne2 b z)).trans (kp b (r2 b z))) (fun b z z' => z.elim (fun z => r3 b z z') fun z => dj b (.inr z) (r2 b z')) ov
            have stw : Step F2 (U (U C1 C2) A) H2 F2 (upd H2 a (.lst us)) (U (U C1 C2) A) := Step.write st2'.gd (.inr (r1 a ha))
            have O3 := putBack (O2.mono (.refl F2) fun b z => upd_ne fun z' => dj b (.inl z) (r1 b (by rw [z']; exact ha))) (by assumption) o3 fun b z z' => by
              rcases z' with (z' | z') | z'
              · exact dj b (.inl z) (r1 b z')
              · exact dC b z z'
              · exact dj b (.inl z) (r2 b z')
            refine h v2 F2 _ _ Ep (Dj.ep _) (((stAB.trans gd st2').trans gd stw).sb ?_) O3 ov2
            refine Sb.u (Sb.u (Sb.l.trans .l) (Sb.u (Sb.u (r1.trans .r) (Sb.r.trans .l)) (r2.trans .r))) fun b z => z.elim
    | _ => simp only at h; exact h.elim
/-- one step on, the index told by something that may change the slots -/
def mHe (i : Nat) (mp : ER (List Nat)) (mb : ER W) : ER (List Nat) := bnd mp fun p ρ => match ρ[i]? with
  | none => .bad
  | some w => match atP p w with
    | none => .bad
    | some w' => (match mb (ρ.set i .mov) with
      | .ok (.sh d) ρ2 => (match res1 w' d with
        | some j => .ok (p ++ [j]) (ρ2.set i w)
        | none => .bad)
      | _ => .bad)
theorem nmov {p : List Nat} {w w' : W} (e : atP p w = some w') (h : w' ≠ .mov) : w ≠ .mov := fun z => by
  subst z
  cases p with
  | nil => cases e; exact h rfl
  | cons => simp [atP] at e
theorem h_e (hu : X.A.units + 64 < cLine) (ha : PE X a (tH (gx X) Wx i mp)) (hb : PE X b (tE (gx X) Wx mb)) (hs : PlainIx b) : PE X (.Subscript a b pos) (tH (gx X) Wx i (mHe i mp mb)) := peW (pe_ix (ix_all hu) ha hb hs) fun σ H Q hq => by
  obtain ⟨ρ, F, S, gd, O, h⟩ := hq
  refine ⟨ρ, F, S, gd, O, ?_⟩
  unfold mHe bnd at h
  cases e : mp ρ with
  | bad => rw [e] at h; exact h.elim
  | exc c ρ1 => rw [e] at h; exact h
  | ok p ρ1 =>
    rw [e] at h
    intro F1 H1 S1 u v w w' st O1 e1 e2 e3 pv
    simp only [e2, e3] at h
    cases em : mb (ρ1.set i .mov) with
    | bad => simp only [em] at h
    | exc c ρ2 => simp only [em] at h
    | ok x ρ2 =>
      cases x with
      | sh d =>
        simp only [em] at h
        cases er : res1 w' d with
        | none => simp only [er] at h
        | some j =>
          simp only [er] at h
          obtain ⟨u', A, B, q1, q2, q3, q4, q5, q6⟩ := setAside O1 e2 (nmov e3 fun z => by subst z; simp [res1] at er)
          rw [e1] at q1
          cases q1
          obtain ⟨v', T1, T2, r1, r2, r3, r4, r5, r6⟩ := path_focus q5 e3
          have := (r5 H1 fun _ _ => rfl).det pv
          subst this
          have gd1 : Good F1 H1 (U B A) := st.gd.sb (Sb.u q3 q2)
          have stAB : Step F S H F1 H1 (U B A) := st.sb (Sb.u q3 q2)
          refine ⟨ρ1.set i .mov, F1, B, gd1.sb .l, q6, ?_⟩
          rw [em]
          intro y F2 H2 C1 C2 dC st2 O2 oy
          obtain ⟨st2', dj⟩ := st2.frame gd1 q4.symm
          have kp := st2.keep gd1 q4.symm
          refine ix_step (r4.mono st2.ext fun b z => kp b (r1 b z)) er (tup_dv oy) fun z w2 ew px => ?_
          have O3 := putBack O2 e1 (q5.mono st2.ext kp) fun b z z' => dj b (.inl z) z'
          refine h F2 H2 (U C1 A) u z w w2 ((stAB.trans gd st2').sb (Sb.u (Sb.l.trans .l) .r)) O3 e1 ?_ ?_ ((r5 H2 fun b z => kp b (r2 b z)).snoc px)
          · have hi : i < ρ2.length := by
              rw [← O2.length]; exact (List.getElem?_eq_some_iff.mp e1).1
            exact List.getElem?_set_self hi
          · rw [at_snoc, e3]; exact ew
      | _ => simp only [em] at h
/-- x[..][k] = v -/
def mSetP (i : Nat) (mv : ER W) (mp : ER (List Nat)) (mk : ER W) : ER Fl := bnd mv fun v => bnd mp fun p ρ => match ρ[i]? with
  | none => .bad
  | some w => match atP p w with
    | none => .bad
    | some w' => (match mk (ρ.set i .mov) with
      | .ok (.sh d) ρ2 => (match fSet w' d v with
        | some w2 => .ok .nx (ρ2.set i (putP p w w2))
        | none => .bad)
      | _ => .bad)
theorem s_setP (h : PS X st (tAsg (tE (gx X) Wx mv) (gSub (tH (gx X) Wx i mp) (tE (gx X) Wx mk) (rSetM (gx X))))) : PS X st (tS (gx X) Wx pn (mSetP i mv mp mk)) := psW h fun D σ H q => by
  refine tS_bind q fun v ρ0 x F0 H0 S0 T0 d0 gd O r h => ?_
  refine ⟨ρ0, F0, S0, gd.sb .l, O, ?_⟩
  unfold bnd at h
  cases e : mp ρ0 with
  | bad => rw [e] at h; exact h.elim
  | exc c ρ1 =>
    rw [e] at h
    intro cls F' H' S' hc st1 O1
    obtain ⟨st2, _⟩ := st1.frame gd d0
    exact h cls σ F' H' S' (.refl _ _) hc (st2.sb .l) O1
  | ok p ρ1 =>
    rw [e] at h
    intro F1 H1 S1 u vo w w' st1 O1 e1 e2 e3 pv
    obtain ⟨st1', dj1⟩ := st1.frame gd d0
    have kp1 := st1.keep gd d0
    simp only [e2, e3] at h
    cases em : mk (ρ1.set i .mov) with
    | bad => simp only [em] at h; exact h.elim
    | exc c ρ2 => simp only [em] at h; exact h.elim
    | ok x2 ρ2 =>
      cases x2 with
      | sh d =>
        simp only [em] at h
        cases er : fSet w' d v with
        | none => simp only [er] at h; exact h.elim
        | some w2 =>
          simp only [er] at h
          obtain ⟨u', A, B, q1, q2, q3, q4, q5, q6⟩ := setAside O1 e2 (nmov e3 fun z => by subst z; simp [fSet] at er)
          rw [e1] at q1
          cases q1
          obtain ⟨v', T1, T2, r1, r2, r3, r4, r5, r6⟩ := path_focus q5 e3
          have := (r5 H1 fun _ _ => rfl).det pv
          subst this
          have dAT : Dj A T0 := fun b z z' => dj1 b (q2 b z) z'
          have gd1 : Good F1 H1 (U B (U A T0)) := st1'.gd.sb (Sb.u (q3.trans .l) (Sb.u (q2.trans .l) .r))
          have dB : Dj B (U A T0) := fun b z z' => z'.elim (fun z' => q4 b z' z) fun z' => dj1 b (q3 b z) z'
          have stAB := st1'.sb (T := U B (U A T0)) (Sb.u (q3.trans .l) (Sb.u (q2.trans .l) .r))
          refine ⟨ρ1.set i .mov, F1, B, gd1.sb .l, q6, ?_⟩
          rw [em]
          intro y F2 H2 C1 C2 dC st2 O2 oy
          obtain ⟨st2', dj⟩ := st2.frame gd1 dB
          have kp := st2.keep gd1 dB
          have r4' : OV (gx X) F2 H2 v' w' T1 := r4.mono st2.ext fun b z => kp b (.inl (r1 b z))
          have rv' : OV (gx X) F2 H2 x v T0 := (r.mono st1.ext kp1).mono st2.ext fun b z => kp b (.inr z)
          have dT : Dj T1 T0 := fun b z z' => dAT b (r1 b z) z'
          refine ⟨F2, T1, T0, w', d, v, w2, st2'.gd.sb (Sb.u ((r1.trans .l).trans .r) (Sb.r.trans .r)), dT, r4', tup_dv oy, rv', er, fun a ob ha eo ov => ?_⟩
          have ne2 : ∀ b, T2 b → b ≠ a := fun b z z' => r3 b (by rw [z']; exact ha) z
          have o3 := r6 (F' := F2) (H' := upd H2 a ob) (x := w2) (T := U T1 T0) st2.ext (fun b z => (upd_ne (ne2 b z)).trans (kp b (.inl (r2 b z)))) (fun b z z' => z.elim (fun z => r3 b z z') fun z => dAT b (r2 b z') z) ov
          have stw : Step F2 (U (U C1 C2) (U A T0)) H2 F2 (upd H2 a ob) (U (U C1 C2) (U A T0)) := Step.write st2'.gd (.inr (.inl (r1 a ha)))
          have O3 := putBack (O2.mono (.refl F2) fun b z => upd_ne fun z' => dj b (.inl z) (.inl (r1 b (by rw [z']; exact ha)))) e1 o3 fun b z z' => by
            rcases z' with (z' | z') | z'
            · exact dj b (.inl z) (.inl (r1 b z'))
            · exact dj b (.inl z) (.inr z')
            · exact dj b (.inl z) (.inl (r2 b z'))
          refine h σ F2 _ _ (.refl _ _) (((stAB.trans gd st2').trans gd stw).sb ?_) O3
          exact Sb.u (Sb.l.trans .l) (Sb.u (Sb.u ((r1.trans .l).trans .r) (Sb.r.trans .r)) ((r2.trans .l).trans .r))
      | _ => simp only [em] at h; exact h.elim
end
end Fp

set_option Elab.async false
set_option linter.all false
set_option maxRecDepth 100000
set_option maxHeartbeats 4000000
namespace Fp
open PySem PySem.Spec L2
open PyProof.Rows hiding St

/-! ### from what the top has written -/
section
variable {K : PySem.W.Frag} {mg : Str → Option Value} {h : Heap}
def DefF (K : PySem.W.Frag) (y x : Str) (st : Stmt) : Prop := ∃ f oc od sl kV dc pm an cd ct, PySem.W.nsIn K mainGlobals y = some (some (.ref f)) ∧
  K.lookup f = some ⟨oc, od, .func (PySem.W.fnOf x x (defArgs st) (defBody st) (defScope st) .none kV dc pm an cd ct), sl⟩ ∧ PySem.W.codeIn K cd x = true ∧ PySem.W.keepIn K (.ref f) = true
theorem defT_of {y x : Str} {st : Stmt} {ps : List Str} (X : K.In h) (G : h.Ns mainGlobals mg) (D : DefF K y x st)
    (hb : ∀ (kV doc pm : Value) (an : Option Addr) (cdv ct : Value) (us : List Value), us.length = ps.length → bindArgs (PySem.W.fnOf x x (defArgs st) (defBody st) (defScope st) .none kV doc pm an cdv ct) ⟨us, []⟩ = pure (ps.zip us)) : DefT K mg y x st ps := by
  obtain ⟨f, oc, od, sl, kV, dc, pm, an, cd, ct, a, l, c, k⟩ := D
  have F := fun_mk (st := st) l c k
  exact ⟨f, _, PySem.W.mg_of X G a, F, F.binds hb⟩
def excB (K : PySem.W.Frag) (c : Str) : Bool := match PySem.W.nsIn K mainGlobals c with
  | some (some (.ref C)) => PySem.W.keepIn K (.ref C) && PySem.W.excIn K C [.type "ValueError", .type "Exception", .type "BaseException", .type "object"] "ValueError.__new__" &&
    (match PySem.W.subIn K (.ref C) (.type "BaseException") with | some true => true | _ => false) && (match PySem.W.typeIn K (.ref C) with | some (.type t) => t == "type" | _ => false)
  | _ => false
theorem excT_of {c : Str} (X : K.In h) (G : h.Ns mainGlobals mg) (e : excB K c = true) : ExcT K mg c := by
  unfold excB at e
  split at e
  · rename_i C a
    simp only [Bool.and_eq_true] at e
    obtain ⟨⟨⟨e1, e2⟩, e3⟩, e4⟩ := e
    refine ⟨C, PySem.W.mg_of X G a, e1, e2, ?_, ?_⟩
    · split at e3
      · assumption
      · cases e3
    · split at e4
      · rename_i t e5
        rw [e5, beq_iff_eq.mp e4]
      · cases e4
  · cases e
def clsB (K : PySem.W.Frag) (n : Str) : Bool := match PySem.W.nsIn K mainGlobals n with
  | some (some (.ref C)) => true
  | some none => (match bootBuiltins n with | some (.type T) => !decide (n = "__name__") | _ => false)
  | _ => false
theorem clsN_of {n : Str} (X : K.In h) (G : h.Ns mainGlobals mg) (e : clsB K n = true) : ClsN mg n := by
  unfold clsB at e
  split at e
  · rename_i C a
    exact .inl ⟨C, PySem.W.mg_of X G a⟩
  · rename_i a
    split at e
    · rename_i T e1
      exact .inr ⟨PySem.W.mg_none_of X G a, T, e1, by simpa using e⟩
    · cases e
  · cases e
def cvO (n : Str) (o : Option Value) : Value := match o with
  | some u => u
  | none => (bootBuiltins n).getD .none
theorem cvO_eq {n : Str} {o : Option Value} (X : K.In h) (G : h.Ns mainGlobals mg) (e : PySem.W.nsIn K mainGlobals n = some o) : cvOf mg n = cvO n o := by
  unfold cvOf cvO
  cases o with
  | some u => rw [PySem.W.mg_of X G e]
  | none => rw [PySem.W.mg_none_of X G e]
def subB1 (K : PySem.W.Frag) (p : Str × Str × Bool) : Bool := match PySem.W.nsIn K mainGlobals p.1, PySem.W.nsIn K mainGlobals p.2.1 with
  | some (some (.ref C)), some o => (match PySem.W.exmOne K (.ref C) (cvO p.2.1 o) with | some b => b == p.2.2 | none => false)
  | _, _ => false
theorem subTab_of {tab : List (Str × Str × Bool)} (X : K.In h) (G : h.Ns mainGlobals mg) (e : tab.all (subB1 K) = true) : SubTab K mg tab := by
  intro p hp
  have e := List.all_eq_true.mp e p hp
  unfold subB1 at e
  split at e
  · rename_i C o a1 a2
    refine ⟨C, PySem.W.mg_of X G a1, ?_⟩
    rw [cvO_eq X G a2]
    split at e
    · rename_i b e1
      rw [e1, beq_iff_eq.mp e]
    · cases e
  · cases e
def isBI (o : Option (Option Value)) (s : String) : Bool := match o with
  | some (some (.builtin t)) => t == s
  | _ => false
theorem isBI_eq {o : Option (Option Value)} {s : String} (e : isBI o s = true) : o = some (some (.builtin s)) := by
  unfold isBI at e
  split at e
  · rw [beq_iff_eq.mp e]
  · cases e
def isNo (o : Option (Option Value)) : Bool := match o with
  | some none => true
  | _ => false
theorem isNo_eq {o : Option (Option Value)} (e : isNo o = true) : o = some none := by
  unfold isNo at e
  split at e
  · rfl
  · cases e
def isYes (o : Option Bool) : Bool := match o with
  | some true => true
  | _ => false
theorem isYes_eq {o : Option Bool} (e : isYes o = true) : o = some true := by
  unfold isYes at e
  split at e
  · rfl
  · cases e
def excCB (K : PySem.W.Frag) (D : Addr) : Bool := isBI (PySem.W.findIn K (.ref D) "__getattribute__") "BaseException.__getattribute__" && (isNo (PySem.W.findIn K (.ref D) "__getattr__") && (isYes (PySem.W.subIn K (.ref D) (.type "BaseException")) &&
  (PySem.W.hasDictIn K D && (isBI (PySem.W.findIn K (.ref D) "__class__") "object.__class__" && (isBI (PySem.W.specialIn K (.builtin "object.__class__") "__get__") "getset_descriptor.__get__" && (isYes (PySem.W.takesIn K (.builtin "object.__class__")) && isYes (PySem.W.mroIn K D (.type "object"))))))))
theorem excC_of {D : Addr} (e : excCB K D = true) : ExcC K D := by
  unfold excCB at e
  simp only [Bool.and_eq_true] at e
  obtain ⟨e1, e2, e3, e4, e5, e6, e7, e8⟩ := e
  exact ⟨isBI_eq e1, isNo_eq e2, isYes_eq e3, e4, isBI_eq e5, isBI_eq e6, isYes_eq e7, isYes_eq e8⟩
def isaB1 (K : PySem.W.Frag) (p : Str × Str × Bool) : Bool := match PySem.W.nsIn K mainGlobals p.1, PySem.W.nsIn K mainGlobals p.2.1 with
  | some (some (.ref C)), some o => excCB K C && (match PySem.W.kitOne K (.ref C) (cvO p.2.1 o) with | some b => b == p.2.2 | none => false)
  | _, _ => false
theorem isaTab_of {tab : List (Str × Str × Bool)} (X : K.In h) (G : h.Ns mainGlobals mg) (e : tab.all (isaB1 K) = true) : IsaTab K mg tab := by
  intro p hp
  have e := List.all_eq_true.mp e p hp
  unfold isaB1 at e
  split at e
  · rename_i C o a1 a2
    rw [Bool.and_eq_true] at e
    refine ⟨C, PySem.W.mg_of X G a1, excC_of e.1, ?_⟩
    rw [cvO_eq X G a2]
    have e2 := e.2
    split at e2
    · rename_i b e1
      rw [e1, beq_iff_eq.mp e2]
    · cases e2
  · cases e
def noLst (K : PySem.W.Frag) : Bool := K.all fun p => match p.2.cls with
  | .type t => !(t == "list")
  | _ => true
theorem noLst_of (e : noLst K = true) {a : Addr} {o : Obj} (l : K.lookup a = some o) : o.cls ≠ .type "list" := fun z => by
  have hm : (a, o) ∈ K := by
    clear e
    induction K with
    | nil => cases l
    | cons p r ih =>
      obtain ⟨b, o'⟩ := p
      rw [List.lookup_cons] at l
      cases q : a == b with
      | true =>
        rw [q] at l
        cases l
        rw [beq_iff_eq.mp q]
        exact List.mem_cons_self
      | false => rw [q] at l; exact List.mem_cons_of_mem _ (ih l)
  have := List.all_eq_true.mp e _ hm
  dsimp only at this
  rw [z] at this
  simp at this
end
/-! ### the law -/
def intsD (ns : List Int) : D := .lst (ns.map D.int)
def spLaw (n : Nat) : Sp := fun vs H Q _ => ∃ (a : Addr) (ns : List Int), vs = [.ref a] ∧ Rd H a (.lst (ns.map V.int)) ∧ ns.length ≤ n ∧ ∀ H', Q (.bl true) H'
theorem dvs_int {g : G} {F : Hp} : ∀ ns : List Int, DVs g F (ns.map V.int) (ns.map D.int)
  | [] => .nil
  | i :: ns => .cons (.int i) (dvs_int ns)
section
variable {P : Program} {w : World} {K : PySem.W.Frag} {mg : Str → Option Value} {base : Heap}
theorem law_imp {n k : Nat} {f : Addr} {fd : FuncData} {ps : List Str} {fl : List W → Out W} (F : FnOk P w K mg base (L2.CX P w) k f fd ps (spF ⟨P, w, K, mg⟩ fl 1))
    (pl : ∀ ns : List Int, ns.length ≤ n → ∃ ws', fl [.sh (intsD ns)] = .ok (.sh (.bl true)) ws') : FnOk P w K mg base (L2.CX P w) k f fd ps (spLaw n) := F.imp fun vs H Q E h => by
  obtain ⟨a, ns, rfl, hr, hl, q⟩ := h
  obtain ⟨ws', e⟩ := pl ns hl
  refine ⟨rfl, H, Ep, [.sh (intsD ns)], ⟨fun _ _ z => z, fun _ z => z.elim⟩, .cons (S1 := Ep) (S2 := Ep) (fun _ z => z) (fun _ z => z) (fun _ z _ => z) (.inr ⟨_, rfl, .sh (.lst hr (dvs_int ns))⟩) .nil, ?_⟩
  rw [e]
  intro v F' H' S1 S2 _ _ _ ov
  cases tup_dv ov
  exact q H'
theorem law_sp {n : Nat} (nl : noLst K = true) (H : Hp) (a : Addr) (ns : List Int) (hl : ns.length ≤ n) (hS : SqL K H a (ns.map V.int)) : spLaw n [.ref a] H (fun v _ => v = .bl true) fun _ _ _ => False := by
  rcases hS with hS | ⟨o, its, m, h1, h2, _⟩
  · exact ⟨a, ns, rfl, hS, hl, fun _ => rfl⟩
  · exact absurd h2 (noLst_of nl h1)
theorem law_cx {P : Program} {w : World} {H : Hp} {s : Shared} {e : Value} {s' : Shared} (h : L2.CX P w [] H s (fun _ _ _ => False) e s') : False := by
  obtain ⟨_, _, _, _, _, _, _, _, _, _, _, _, z⟩ := h
  exact z
end
end Fp

set_option Elab.async false
set_option linter.all false
set_option maxRecDepth 100000
set_option maxHeartbeats 4000000
namespace Fp
open PySem PySem.Spec L2
open PyProof.Rows hiding St

/-! ### the terms, applied -/
section
variable {α β : Type} {m ma mb mk mv : ER W} {ms : ER (List W)} {p q : ER Bool} {s t : ER Fl} {ρ : Env} {i j : Nat} {f : W → W → Option W} {f1 : W → Option W} {d : D} {w : W}
theorem rt_ap (a : α) : rt a ρ = .ok a ρ := by kernel_rfl
theorem bad_ap : (bad : ER α) ρ = .bad := by kernel_rfl
theorem opt_some (a : α) : opt (some a) ρ = .ok a ρ := by kernel_rfl
theorem opt_none : opt (none : Option α) ρ = .bad := by kernel_rfl
theorem bnd_ap (m : ER α) (f : α → ER β) : bnd m f ρ = match m ρ with
  | .ok a ρ' => f a ρ'
  | .exc c ρ' => .exc c ρ'
  | .bad => .bad := by kernel_rfl
theorem mC_ap : mC d ρ = .ok (.sh d) ρ := by kernel_rfl
theorem mG_ap : mG d ρ = .ok (.sh d) ρ := by kernel_rfl
theorem mV_ap : mV i ρ = match ρ[i]? with
  | some w => match w.data with
    | some d => .ok (.sh d) (ρ.set i (.sh d))
    | none => .bad
  | none => .bad := by kernel_rfl
theorem mMv_ap : mMv i ρ = match ρ[i]? with
  | some .mov => .bad
  | some w => .ok w (ρ.set i .mov)
  | none => .bad := by kernel_rfl
theorem mBv_ap : mBv i ρ = match ρ[i]? with
  | some .mov => .bad
  | some w => .ok w ρ
  | none => .bad := by kernel_rfl
theorem mSh_ap : mSh m ρ = match m ρ with
  | .ok (.sh d) ρ' => .ok (.sh d) ρ'
  | .ok _ _ => .bad
  | .exc c ρ' => .exc c ρ'
  | .bad => .bad := by unfold mSh bnd; cases m ρ with | ok w ρ' => cases w <;> rfl | _ => rfl
theorem mFr_ap : mFr m ρ = match m ρ with
  | .ok w ρ' => (match w.data with | some d => .ok (.sh d) ρ' | none => .bad)
  | .exc c ρ' => .exc c ρ'
  | .bad => .bad := by unfold mFr bnd; cases m ρ with | ok w ρ' => cases h : w.data <;> simp [h, rt, bad] | _ => rfl
theorem mBin_ap : mBin f ma mb ρ = match ma ρ with
  | .ok a ρ1 => (match mb ρ1 with
    | .ok b ρ2 => (match f a b with | some w => .ok w ρ2 | none => .bad)
    | .exc c ρ' => .exc c ρ'
    | .bad => .bad)
  | .exc c ρ' => .exc c ρ'
  | .bad => .bad := by kernel_rfl
theorem mBinV_ap : mBinV f i mb ρ = match mBv i ρ with
  | .ok _ ρ0 => (match mb ρ0 with
    | .ok b ρ1 => (match mBv i ρ1 with
      | .ok a ρ2 => (match f a b with | some w => .ok w ρ2 | none => .bad)
      | .exc c ρ' => .exc c ρ'
      | .bad => .bad)
    | .exc c ρ' => .exc c ρ'
    | .bad => .bad)
  | .exc c ρ' => .exc c ρ'
  | .bad => .bad := by kernel_rfl
theorem m1_ap : m1 f1 m ρ = match m ρ with
  | .ok a ρ1 => (match f1 a with | some w => .ok w ρ1 | none => .bad)
  | .exc c ρ' => .exc c ρ'
  | .bad => .bad := by kernel_rfl
theorem mTest_ap : mTest m ρ = match m ρ with
  | .ok (.sh (.bl b)) ρ1 => .ok b ρ1
  | .ok _ _ => .bad
  | .exc c ρ' => .exc c ρ'
  | .bad => .bad := by unfold mTest bnd; cases m ρ with | ok w ρ' => (cases w with | sh d => cases d <;> rfl | _ => rfl) | _ => rfl
theorem mIsN_ap {neg : Bool} : mIsN neg m ρ = match m ρ with
  | .ok w ρ1 => (match isNone w with | some b => .ok (.sh (.bl (if neg then !b else b))) ρ1 | none => .bad)
  | .exc c ρ' => .exc c ρ'
  | .bad => .bad := by unfold mIsN bnd; cases m ρ with | ok w ρ' => cases h : isNone w <;> simp [h, rt, bad] | _ => rfl
theorem mIxQ_ap {q : Env → Option D} : mIxQ m q ρ = match m ρ with
  | .ok a ρ1 => (match (q ρ1).bind fun d => fIx a (.sh d) with | some w => .ok w ρ1 | none => .bad)
  | .exc c ρ' => .exc c ρ'
  | .bad => .bad := by kernel_rfl
theorem mCons_ap : mCons m ms ρ = match m ρ with
  | .ok w ρ1 => (match ms ρ1 with
    | .ok ws ρ2 => .ok (w :: ws) ρ2
    | .exc c ρ' => .exc c ρ'
    | .bad => .bad)
  | .exc c ρ' => .exc c ρ'
  | .bad => .bad := by kernel_rfl
theorem mTup_ap : mTup ms ρ = match ms ρ with
  | .ok ws ρ1 => if ws.length ≤ 1000 then (match shs ws with | some ds => .ok (.sh (.tup ds)) ρ1 | none => .ok (.tup ws) ρ1) else .bad
  | .exc c ρ' => .exc c ρ'
  | .bad => .bad := by unfold mTup bnd; cases ms ρ with | ok ws ρ' => (by_cases c : ws.length ≤ 1000 <;> simp only [c, if_true, if_false] <;> first | rfl | (cases h : shs ws <;> simp [h, rt, bad])) | _ => rfl
theorem mLst_ap : mLst ms ρ = match ms ρ with
  | .ok ws ρ1 => if ws.length ≤ 1000 then .ok (.lst ws) ρ1 else .bad
  | .exc c ρ' => .exc c ρ'
  | .bad => .bad := by unfold mLst bnd; cases ms ρ with | ok ws ρ' => (by_cases c : ws.length ≤ 1000 <;> simp [c, rt, bad]) | _ => rfl
theorem mIf_ap : mIf p ma mb ρ = match p ρ with
  | .ok b ρ1 => if b then ma ρ1 else mb ρ1
  | .exc c ρ' => .exc c ρ'
  | .bad => .bad := by unfold mIf bnd; cases p ρ with | ok b ρ' => cases b <;> rfl | _ => rfl
theorem mAnd_ap : mAnd p q ρ = match p ρ with
  | .ok b ρ1 => if b then q ρ1 else .ok false ρ1
  | .exc c ρ' => .exc c ρ'
  | .bad => .bad := by unfold mAnd bnd; cases p ρ with | ok b ρ' => cases b <;> rfl | _ => rfl
theorem mOr_ap : mOr p q ρ = match p ρ with
  | .ok b ρ1 => if b then .ok true ρ1 else q ρ1
  | .exc c ρ' => .exc c ρ'
  | .bad => .bad := by unfold mOr bnd; cases p ρ with | ok b ρ' => cases b <;> rfl | _ => rfl
theorem mNot_ap : mNot p ρ = match p ρ with
  | .ok b ρ1 => .ok (!b) ρ1
  | .exc c ρ' => .exc c ρ'
  | .bad => .bad := by kernel_rfl
theorem mSeq_ap : mSeq s t ρ = match s ρ with
  | .ok .nx ρ' => t ρ'
  | r => r := by kernel_rfl
theorem mNx_ap : mNx ρ = .ok .nx ρ := by kernel_rfl
theorem mAsg_ap : mAsg i m ρ = match m ρ with
  | .ok w ρ1 => if i < ρ1.length then .ok .nx (ρ1.set i w) else .bad
  | .exc c ρ' => .exc c ρ'
  | .bad => .bad := by kernel_rfl
theorem mDrop_ap : mDrop m ρ = match m ρ with
  | .ok w ρ1 => .ok .nx ρ1
  | .exc c ρ' => .exc c ρ'
  | .bad => .bad := by kernel_rfl
theorem mRet_ap : mRet m ρ = match m ρ with
  | .ok w ρ1 => .ok (.rt w) ρ1
  | .exc c ρ' => .exc c ρ'
  | .bad => .bad := by kernel_rfl
theorem mRetD_ap : mRetD m ρ = match m ρ with
  | .ok w ρ1 => (match w.data with | some d => .ok (.rt (.sh d)) ρ1 | none => .bad)
  | .exc c ρ' => .exc c ρ'
  | .bad => .bad := by unfold mRetD bnd; cases m ρ with | ok w ρ' => cases h : w.data <;> simp [h, rt, bad] | _ => rfl
theorem mIfS_ap : mIfS p s t ρ = match p ρ with
  | .ok b ρ1 => if b then s ρ1 else t ρ1
  | .exc c ρ' => .exc c ρ'
  | .bad => .bad := by unfold mIfS bnd; cases p ρ with | ok b ρ' => cases b <;> rfl | _ => rfl
theorem mCall_ap {f : List W → Out W} {bk : List (Option Nat)} : mCall f bk ms ρ = match ms ρ with
  | .ok ws ρ1 => (match f ws with
    | .ok w ws' => .ok w (restore bk ws' ρ1)
    | .exc c ws' => .exc c (restore bk ws' ρ1)
    | .bad => .bad)
  | .exc c ρ' => .exc c ρ'
  | .bad => .bad := by kernel_rfl
theorem mRaise_ap {c : Str} : (mRaise c : ER α) ρ = .exc c ρ := by kernel_rfl
theorem mSetV_ap : mSetV i mk mv ρ = match mv ρ with
  | .ok v ρ1 => (match mBv i ρ1 with
    | .ok _ ρ2 => (match mk ρ2 with
      | .ok k ρ3 => (match ρ3[i]?, k with
        | some w, .sh d => (match fSet w d v with | some w' => .ok .nx (ρ3.set i w') | none => .bad)
        | _, _ => .bad)
      | .exc c ρ' => .exc c ρ'
      | .bad => .bad)
    | .exc c ρ' => .exc c ρ'
    | .bad => .bad)
  | .exc c ρ' => .exc c ρ'
  | .bad => .bad := by kernel_rfl
theorem mMth_ap {f : List W → W → Option (W × List W)} : mMth i f m ρ = match ρ[i]? with
  | some (.lst _) => (match m ρ with
    | .ok w ρ1 => (match ρ1[i]? with
      | some (.lst ws) => (match f ws w with | some (r, ws') => .ok r (ρ1.set i (.lst ws')) | none => .bad)
      | _ => .bad)
    | .exc c ρ' => .exc c ρ'
    | .bad => .bad)
  | _ => .bad := by kernel_rfl
theorem mIns_ap : mIns i mk mv ρ = match ρ[i]? with
  | some (.lst _) => (match mk ρ with
    | .ok k ρ1 => (match mv ρ1 with
      | .ok w ρ2 => (match ρ2[i]?, k with
        | some (.lst ws), .sh (.int j) => if ws.length < sizeLine ∧ 0 ≤ j ∧ j < 2 ^ 63 then .ok (.sh .non) (ρ2.set i (.lst (ws.take j.toNat ++ [w] ++ ws.drop j.toNat))) else .bad
        | _, _ => .bad)
      | .exc c ρ' => .exc c ρ'
      | .bad => .bad)
    | .exc c ρ' => .exc c ρ'
    | .bad => .bad)
  | _ => .bad := by kernel_rfl
theorem mSeqD_ap : mSeqD m ρ = match m ρ with
  | .ok w ρ1 => (match w.data with
    | some (.lst ds) => .ok ds ρ1
    | some (.tup ds) => .ok ds ρ1
    | _ => .bad)
  | .exc c ρ' => .exc c ρ'
  | .bad => .bad := by
    unfold mSeqD bnd
    cases m ρ with
    | ok w ρ' =>
      dsimp only
      cases w.data with
      | none => rfl
      | some d => cases d <;> rfl
    | _ => rfl
theorem mRange1_ap : mRange1 m ρ = match m ρ with
  | .ok (.sh (.int j)) ρ1 => if -(2 ^ 62) ≤ j ∧ j < 2 ^ 62 then .ok (rangeD 0 j.toNat) ρ1 else .bad
  | .ok _ _ => .bad
  | .exc c ρ' => .exc c ρ'
  | .bad => .bad := by
    unfold mRange1 bnd
    cases m ρ with
    | ok w ρ' =>
      cases w with
      | sh d => cases d <;> first | rfl | (dsimp only; split <;> rfl)
      | _ => rfl
    | _ => rfl
theorem mPart_ap : mPart m ρ = match m ρ with
  | .ok (.sh (.int i)) ρ1 => .ok (some i) ρ1
  | .ok _ _ => .bad
  | .exc c ρ' => .exc c ρ'
  | .bad => .bad := by unfold mPart bnd; cases m ρ with | ok w ρ' => (cases w with | sh d => cases d <;> rfl | _ => rfl) | _ => rfl
theorem mSl_ap {ml mh : ER (Option Int)} : mSl m ml mh ρ = match m ρ with
  | .ok a ρ1 => (match ml ρ1 with
    | .ok lo ρ2 => (match mh ρ2 with
      | .ok hi ρ3 => (match fSl a lo hi with | some w => .ok w ρ3 | none => .bad)
      | .exc c ρ' => .exc c ρ'
      | .bad => .bad)
    | .exc c ρ' => .exc c ρ'
    | .bad => .bad)
  | .exc c ρ' => .exc c ρ'
  | .bad => .bad := by kernel_rfl
theorem mAsgT_ap {t : D → Env → Option Env} : mAsgT t m ρ = match m ρ with
  | .ok w ρ1 => (match w.data with
    | some d => (match t d ρ1 with | some ρ' => .ok .nx ρ' | none => .bad)
    | none => .bad)
  | .exc c ρ' => .exc c ρ'
  | .bad => .bad := by kernel_rfl
theorem mFor_ap {me : ER (List D)} {t : D → Env → Option Env} : mFor me t s ρ = match me ρ with
  | .ok ds ρ1 => forB (mTurn t s) ds ρ1
  | .exc c ρ' => .exc c ρ'
  | .bad => .bad := by kernel_rfl
theorem forB_nil {f : D → ER Fl} : forB f [] ρ = .ok .nx ρ := by kernel_rfl
theorem forB_cons {f : D → ER Fl} {ds : List D} : forB f (d :: ds) ρ = match f d ρ with
  | .ok .nx ρ' => forB f ds ρ'
  | .ok .ct ρ' => forB f ds ρ'
  | .ok .bk ρ' => .ok .nx ρ'
  | r => r := by kernel_rfl
theorem mTurn_ap {t : D → Env → Option Env} : mTurn t s d ρ = match t d ρ with
  | some ρ' => s ρ'
  | none => .bad := by kernel_rfl
theorem mLc_ap {me : ER (List D)} {t : D → Env → Option Env} {vs : List Nat} : mLc me t vs p m ρ = match me ρ with
  | .ok ds ρ0 => (match lcB t vs p m ds [] (wipeE ρ0 vs) with
    | .ok w ρ' => .ok w (unwipe ρ0 vs ρ')
    | _ => .bad)
  | .exc c ρ' => .exc c ρ'
  | .bad => .bad := by kernel_rfl
theorem lcB_nil {t : D → Env → Option Env} {vs : List Nat} {acc : List W} : lcB t vs p m [] acc ρ = .ok (.lst acc) ρ := by kernel_rfl
theorem lcB_cons {t : D → Env → Option Env} {vs : List Nat} {ds : List D} {acc : List W} : lcB t vs p m (d :: ds) acc ρ = match t d ρ with
    | none => .bad
    | some ρ1 => match p ρ1 with
      | .ok true ρ2 => (match m ρ2 with
        | .ok w ρ3 => if acc.length < sizeLine then lcB t vs p m ds (acc ++ [w]) (wipeE ρ3 vs) else .bad
        | _ => .bad)
      | .ok false ρ2 => lcB t vs p m ds acc (wipeE ρ2 vs)
      | _ => .bad := by kernel_rfl
theorem mTry_ap {sub : Str → List Str → Option Bool} {l : List Cl} : mTry sub l s ρ = match s ρ with
  | .exc c ρ' => mHds sub c l ρ'
  | r => r := by kernel_rfl
theorem mWhile_ap {n : Nat} : mWhile p s (n + 1) ρ = match p ρ with
  | .ok true ρ1 => (match s ρ1 with
      | .ok .nx ρ' => mWhile p s n ρ'
      | .ok .ct ρ' => mWhile p s n ρ'
      | .ok .bk ρ' => .ok .nx ρ'
      | r => r)
  | .ok false ρ1 => .ok .nx ρ1
  | .exc c ρ' => .exc c ρ'
  | .bad => .bad := by
    rw [mWhile]
    unfold bnd
    cases p ρ with
    | ok b ρ' => cases b <;> rfl
    | _ => rfl
theorem mMthP_ap {mp : ER (List Nat)} {f : List W → W → Option (W × List W)} : mMthP i mp f m ρ = match mp ρ with
  | .ok p ρ1 => (match ρ1[i]? with
    | none => .bad
    | some w => (match atP p w with
      | some (.lst ws) => (match m (ρ1.set i .mov) with
        | .ok x ρ2 => (match f ws x with
          | some (wr, ws') => .ok wr (ρ2.set i (putP p w (.lst ws')))
          | none => .bad)
        | _ => .bad)
      | _ => .bad))
  | .exc c ρ' => .exc c ρ'
  | .bad => .bad := by
    unfold mMthP bnd
    cases mp ρ <;> rfl
theorem mM1_ap : mM1 f ma mb ρ = match ma ρ with
  | .ok (.sh (.str a)) ρ1 => (match mb ρ1 with
    | .ok b ρ2 => (match f (.sh (.str a)) b with | some w => .ok w ρ2 | none => .bad)
    | .exc c ρ' => .exc c ρ'
    | .bad => .bad)
  | .ok _ _ => .bad
  | .exc c ρ' => .exc c ρ'
  | .bad => .bad := by
    unfold mM1 bnd
    cases ma ρ with
    | ok w ρ' =>
      cases w with
      | sh d => cases d <;> kernel_rfl
      | _ => rfl
    | _ => rfl
theorem mHv_ap : mHv i ρ = match ρ[i]? with
  | some .mov => .bad
  | some _ => .ok [] ρ
  | none => .bad := by kernel_rfl
theorem mHq_ap {mp : ER (List Nat)} {q : Env → Option D} : mHq i mp q ρ = match mp ρ with
  | .ok p ρ1 => (match ρ1[i]?.bind (atP p), q ρ1 with
    | some w, some d => (match res1 w d with
      | some j => .ok (p ++ [j]) ρ1
      | none => .bad)
    | _, _ => .bad)
  | .exc c ρ' => .exc c ρ'
  | .bad => .bad := by unfold mHq bnd; cases mp ρ <;> kernel_rfl
theorem mHe_ap {mp : ER (List Nat)} : mHe i mp mb ρ = match mp ρ with
  | .ok p ρ1 => (match ρ1[i]? with
    | none => .bad
    | some w => (match atP p w with
      | none => .bad
      | some w' => (match mb (ρ1.set i .mov) with
        | .ok (.sh d) ρ2 => (match res1 w' d with
          | some j => .ok (p ++ [j]) (ρ2.set i w)
          | none => .bad)
        | _ => .bad)))
  | .exc c ρ' => .exc c ρ'
  | .bad => .bad := by unfold mHe bnd; cases mp ρ <;> kernel_rfl
theorem ixN_of {n : Nat} {a : Int} (h : 0 ≤ a) (h2 : a < n) : ixN n a = some a.toNat := by
  unfold ixN
  simp [h, h2]
/-! operations on ints -/
variable {a b : Int}
theorem fAdd_int : fAdd (.sh (.int a)) (.sh (.int b)) = some (.sh (.int (a + b))) := by kernel_rfl
theorem fSub_int : fSub (.sh (.int a)) (.sh (.int b)) = some (.sh (.int (a - b))) := by kernel_rfl
theorem fMul_int (h : CMulA a b) : fMul (.sh (.int a)) (.sh (.int b)) = some (.sh (.int (a * b))) := by
  unfold fMul iop; dsimp only; rw [if_pos h]; rfl
theorem fDiv_int (h : CDivW a b) : fDiv (.sh (.int a)) (.sh (.int b)) = some (.sh (.int (a / b))) := by
  unfold fDiv iop; dsimp only; rw [if_pos h]; rfl
theorem fMod_int (h : 0 < b) : fMod (.sh (.int a)) (.sh (.int b)) = some (.sh (.int (a % b))) := by
  unfold fMod iop; dsimp only; rw [if_pos h]; rfl
theorem fLt_int : fLt (.sh (.int a)) (.sh (.int b)) = some (.sh (.bl (decide (a < b)))) := by kernel_rfl
theorem fLe_int : fLe (.sh (.int a)) (.sh (.int b)) = some (.sh (.bl (decide (a ≤ b)))) := by kernel_rfl
theorem fGt_int : fGt (.sh (.int a)) (.sh (.int b)) = some (.sh (.bl (decide (b < a)))) := by kernel_rfl
theorem fGe_int : fGe (.sh (.int a)) (.sh (.int b)) = some (.sh (.bl (decide (b ≤ a)))) := by kernel_rfl
theorem atI_of {α : Type} {l : List α} {n : Int} (h : 0 ≤ n) : atI l n = l[n.toNat]? := by
  obtain ⟨k, rfl⟩ := Int.eq_ofNat_of_zero_le h
  rw [Int.toNat_natCast]
  cases e : l[k]? with
  | some v => exact atI_nat e
  | none =>
    unfold atI ixN
    have hk : l.length ≤ k := List.getElem?_eq_none_iff.mp e
    have h1 : ¬ ((k : Int) < l.length) := by omega
    simp only [h, if_true, h1, if_false]
    first | rfl | (split <;> first | rfl | (exfalso; omega))
theorem fIx_lst {ds : List D} : fIx (.sh (.lst ds)) (.sh (.int a)) = (atI ds a).map .sh := by
  show atI (ds.map W.sh) a = _
  unfold atI
  rw [List.length_map]
  cases ixN ds.length a with
  | none => rfl
  | some j => simp
theorem fIx_tup {ds : List D} : fIx (.sh (.tup ds)) (.sh (.int a)) = (atI ds a).map .sh := by
  show atI (ds.map W.sh) a = _
  unfold atI
  rw [List.length_map]
  cases ixN ds.length a with
  | none => rfl
  | some j => simp
theorem fIx_wl {ws : List W} : fIx (.lst ws) (.sh (.int a)) = atI ws a := rfl
theorem fIx_wt {ws : List W} : fIx (.tup ws) (.sh (.int a)) = atI ws a := rfl
theorem data_sh : W.data (.sh d) = some d := rfl
theorem fLen_lst {ds : List D} : fLen0 (.sh (.lst ds)) = some (.sh (.int ds.length)) := by
  simp [fLen0, W.kids]
theorem fLen_tup {ds : List D} : fLen0 (.sh (.tup ds)) = some (.sh (.int ds.length)) := by
  simp [fLen0, W.kids]
theorem fLen_wl {ws : List W} : fLen0 (.lst ws) = some (.sh (.int ws.length)) := rfl
theorem qV_ap : qV i ρ = match ρ[i]? with
  | some (.sh d) => some d
  | _ => none := rfl
theorem qC_ap : qC d ρ = some d := rfl
theorem fSet_wl {ws : List W} {w : W} : fSet (.lst ws) (.int a) w = (ixN ws.length a).map fun j => .lst (ws.set j w) := by
  first | rfl | (unfold fSet; rfl) | (unfold fSet; simp)
theorem finA_no {k : Nat} : ∀ (n : Nat) (i : Nat) (ρ : Env), finA (fun _ => false) i n ρ = List.replicate n .mov
  | 0, _, _ => rfl
  | n + 1, i, [] => by simp only [finA, finA_no (k := k) n]; rfl
  | n + 1, i, w :: ρ => by simp only [finA, finA_no (k := k) n]; rfl
theorem atI_cons0 {α : Type} {x : α} {l : List α} : atI (x :: l) 0 = some x := by rw [atI_of (by decide)]; rfl
theorem fEq_str {a b : Str} : fEq (.sh (.str a)) (.sh (.str b)) = some (.sh (.bl (decide (a = b)))) := rfl
theorem fEq_int : fEq (.sh (.int a)) (.sh (.int b)) = some (.sh (.bl (decide (a = b)))) := rfl
theorem fNe_int : fNe (.sh (.int a)) (.sh (.int b)) = some (.sh (.bl (!decide (a = b)))) := rfl
theorem fNe_str {a b : Str} : fNe (.sh (.str a)) (.sh (.str b)) = some (.sh (.bl (!decide (a = b)))) := rfl
theorem tName_ap : Fp.tName i d ρ = if i < ρ.length then some (ρ.set i (.sh d)) else none := rfl
end
end Fp

set_option Elab.async false
set_option linter.all false
set_option maxRecDepth 100000
set_option maxHeartbeats 4000000

namespace K96
open PySem PySem.Spec L2 Fp
open PyProof.Rows hiding St
def topS (i : Nat) : Stmt := PySem.Challenge.pw_forkplan_k96_refusals_ahead.main.body.getD i (.Pass ⟨0, 0, 0, 0⟩)
def stab : List (Str × Str × Bool) := [("NoName", "ForkError", true), ("NotPlain", "ForkError", true), ("NoWeights", "ForkError", true)]
def itab : List (Str × Str × Bool) := [("NoName", "NoText", false), ("NoName", "NoWorld", false), ("NoName", "NoPlan", false), ("NoName", "NoName", true), ("NoName", "NotSure", false), ("NoName", "NotPlain", false), ("NoName", "NoWeights", false), ("NoName", "TooMany", false), ("NoName", "NoOrder", false), ("NotPlain", "NoText", false), ("NotPlain", "NoWorld", false), ("NotPlain", "NoPlan", false), ("NotPlain", "NoName", false), ("NotPlain", "NotSure", false), ("NotPlain", "NotPlain", true), ("NotPlain", "NoWeights", false), ("NotPlain", "TooMany", false), ("NotPlain", "NoOrder", false), ("NoWeights", "NoText", false), ("NoWeights", "NoWorld", false), ("NoWeights", "NoPlan", false), ("NoWeights", "NoName", false), ("NoWeights", "NotSure", false), ("NoWeights", "NotPlain", false), ("NoWeights", "NoWeights", true), ("NoWeights", "TooMany", false), ("NoWeights", "NoOrder", false), ("NoName", "ValueError", true), ("NotPlain", "ValueError", true), ("NoWeights", "ValueError", true)]
structure TxT (K : PySem.W.Frag) (mg : Str → Option Value) : Prop where
  n_isinstance : mg "isinstance" = none
  n_len : mg "len" = none
  n_range : mg "range" = none
  n_tuple : mg "tuple" = none
  x_NoName : ExcT K mg "NoName"
  x_NoWeights : ExcT K mg "NoWeights"
  x_NotPlain : ExcT K mg "NotPlain"
  c_ForkError : ClsN mg "ForkError"
  c_NoName : ClsN mg "NoName"
  c_NoOrder : ClsN mg "NoOrder"
  c_NoPlan : ClsN mg "NoPlan"
  c_NoText : ClsN mg "NoText"
  c_NoWeights : ClsN mg "NoWeights"
  c_NoWorld : ClsN mg "NoWorld"
  c_NotPlain : ClsN mg "NotPlain"
  c_NotSure : ClsN mg "NotSure"
  c_TooMany : ClsN mg "TooMany"
  c_ValueError : ClsN mg "ValueError"
  sub : SubTab K mg stab
  isa : IsaTab K mg itab
section
variable {P : Program} {w : World} {K : PySem.W.Frag} {mg : Str → Option Value} {base : Heap}
/-! reckoned -/
abbrev s_reckoned : Stmt := topS 15
def m_reckoned : ER Fl := (mSeq (mIfS (mTest (mBinV fEq 0 (mC (.str "plus"))))
  (mRetD (mBinV fAdd 1 (mBv 2)))
  mNx)
  (mRetD (mBinV fSub 1 (mBv 2))))
def f_reckoned : List W → Out W := runF (fun _ => false) 3 0 m_reckoned
theorem sc_reckoned : FnScope ["kind", "one", "other"] ["kind", "one", "other"] (defScope s_reckoned) := ⟨rfl, rfl, rfl, by decide +kernel, rfl, by decide +kernel, by decide +kernel⟩
theorem k_reckoned (Tx : TxT K mg) (T : DefT K mg "reckoned" "reckoned" s_reckoned ["kind", "one", "other"])  : DefOk P w K mg base 1 "reckoned" 3 f_reckoned :=
  def_ok T sc_reckoned (by decide) fun f cdv A outer s H E hr => by
  have hu := hr.units
  have nd := sc_reckoned.nd
  exact (s_cons (s_if (t_cmpV (or_eq hu) o2_eq (pv 0) (b_of e_str) rfl)
  (s_one (s_retD (e_binV or_add o2_add (pv 1) (b_v (pv 2)))))
  s_nil)
  (s_one (s_retD (e_binV op_sub o2_sub (pv 1) (b_v (pv 2))))))
/-! value_of -/
abbrev s_value_of : Stmt := topS 12
def b_value_of_1 : ER W := (mSh (mIxQ (mBv 3) (qC (.int 0))))
def m_value_of : ER Fl := (mRetD (mBinV fIxS 2 (mBm1 fIndex (mLc (mSeqD (mV 1)) (tName 3) [3] (rt true) b_value_of_1) (mBv 0))))
def f_value_of : List W → Out W := runF (fun _ => false) 3 1 m_value_of
theorem sc_value_of : FnScope ["name", "boxes", "standing", "box"] ["name", "boxes", "standing"] (defScope s_value_of) := ⟨rfl, rfl, rfl, by decide +kernel, rfl, by decide +kernel, by decide +kernel⟩
theorem k_value_of (Tx : TxT K mg) (T : DefT K mg "value_of" "value_of" s_value_of ["name", "boxes", "standing"])  : DefOk P w K mg base 1 "value_of" 3 f_value_of :=
  def_ok T sc_value_of (by decide) fun f cdv A outer s H E hr => by
  have hu := hr.units
  have nd := sc_value_of.nd
  exact (s_one (s_retD (e_ixV hu (pv 2) (b_of (e_bmL o2_index (pe_bm PySem.F.plainAttrs_list PySem.F.slot_list_index PySem.F.type_list_index mt_index (e_lc (ti_name (by decide)) (pe_lc rfl nd (i_seq (e_v (pv 1))) (own := [("box", 3)]) (show BlkOk ["name", "boxes", "standing", "box"] (defScope s_value_of) _ [("box", 3)] from ⟨rfl, by decide +kernel, by decide +kernel, by decide +kernel, by decide +kernel⟩) (fun _ _ _ _ _ => pg_name (i := 3) nd rfl (.inl rfl)) (fun _ _ _ _ _ => p_yes) (fun _ _ _ _ _ => (e_sh (b_ixQ hu (b_v (pv 3)) q_int (fun _ _ => rfl)))))) (pa_cons (b_v (pv 0)) pa_nil)))) (fun _ _ => rfl))))
/-! worth -/
abbrev s_worth : Stmt := topS 13
def b_worth_1 : ER Bool := (mTest (mBinV fNe 4 (mLst (rt []))))
def b_worth_2 : ER Fl := (mSeq (mAsg 5 (mPop 4))
  (mIfS (mTest (mBin fEq (mSh (mIxQ (mBv 5) (qC (.int 0)))) (mC (.str "number"))))
  (mDrop (mMth 3 fAppend (mSh (mIxQ (mBv 5) (qC (.int 1))))))
  (mIfS (mTest (mBin fEq (mSh (mIxQ (mBv 5) (qC (.int 0)))) (mC (.str "box"))))
  (mDrop (mMth 3 fAppend (mCall f_value_of [none, none, none] (mCons (mFr (mSh (mIxQ (mBv 5) (qC (.int 1))))) (mCons (mFr (mV 1)) (mCons (mFr (mV 2)) (rt [])))))))
  (mIfS (mTest (mBin fEq (m1 fLen0 (mBv 5)) (mC (.int 1))))
  (mSeq (mAsg 6 (mPop 3))
  (mDrop (mMth 3 fAppend (mCall f_reckoned [none, none, none] (mCons (mFr (mSh (mIxQ (mBv 5) (qC (.int 0))))) (mCons (mFr (mPop 3)) (mCons (mFr (mV 6)) (rt []))))))))
  (mDrop (mMth 4 fExtend (mLst (mCons (mTup (mCons (mSh (mIxQ (mBv 5) (qC (.int 0)))) (rt []))) (mCons (mSh (mIxQ (mBv 5) (qC (.int 2)))) (mCons (mSh (mIxQ (mBv 5) (qC (.int 1)))) (rt [])))))))))))
def m_worth : ER Fl := (mSeq (mAsg 3 (mLst (rt [])))
  (mSeq (mAsg 4 (mLst (mCons (mV 0) (rt []))))
  (mSeq (mWhile b_worth_1 b_worth_2 1000000)
  (mRetD (mSh (mIxQ (mBv 3) (qC (.int 0))))))))
def f_worth : List W → Out W := runF (fun _ => false) 3 4 m_worth
theorem sc_worth : FnScope ["expression", "boxes", "standing", "found", "pile", "thing", "other"] ["expression", "boxes", "standing"] (defScope s_worth) := ⟨rfl, rfl, rfl, by decide +kernel, rfl, by decide +kernel, by decide +kernel⟩
theorem k_worth (Tx : TxT K mg) (T : DefT K mg "worth" "worth" s_worth ["expression", "boxes", "standing"]) (d_reckoned : DefOk P w K mg base 1 "reckoned" 3 f_reckoned) (d_value_of : DefOk P w K mg base 1 "value_of" 3 f_value_of) : DefOk P w K mg base 2 "worth" 3 f_worth :=
  def_ok T sc_worth (by decide) fun f cdv A outer s H E hr => by
  have hu := hr.units
  have nd := sc_worth.nd
  exact (s_cons (s_set (i := 3) nd rfl (.inl rfl) rfl (e_lst a_nil))
  (s_cons (s_set (i := 4) nd rfl (.inl rfl) rfl (e_lst (a_cons (e_v (pv 0)) a_nil)))
  (s_cons (s_while (passes_of rfl) (t_cmpV (or_ne hu) o2_ne (pv 4) (b_of (e_lst a_nil)) rfl)
  (s_cons (s_set (i := 5) nd rfl (.inl rfl) rfl (e_pop (pe_bm0 PySem.F.plainAttrs_list PySem.F.slot_list_pop PySem.F.type_list_pop mt_pop (pv 4))))
  (s_one (s_if (t_cmp (or_eq hu) o2_eq (e_sh (b_ixQ hu (b_v (pv 5)) q_int (fun _ _ => rfl))) (b_of e_str) rfl)
  (s_one (s_expr (e_mth mth_append (pe_bm PySem.F.plainAttrs_list PySem.F.slot_list_append PySem.F.type_list_append mt_append (pv 3) (pa_cons (e_sh (b_ixQ hu (b_v (pv 5)) q_int (fun _ _ => rfl))) pa_nil)))))
  (s_one (s_if (t_cmp (or_eq hu) o2_eq (e_sh (b_ixQ hu (b_v (pv 5)) q_int (fun _ _ => rfl))) (b_of e_str) rfl)
  (s_one (s_expr (e_mth mth_append (pe_bm PySem.F.plainAttrs_list PySem.F.slot_list_append PySem.F.type_list_append mt_append (pv 3) (pa_cons (e_callD d_value_of hr (by decide) rfl (takes_of rfl rfl rfl rfl) rfl (ac_d (e_sh (b_ixQ hu (b_v (pv 5)) q_int (fun _ _ => rfl))) (ac_d (e_v (pv 1)) (ac_d (e_v (pv 2)) ac_nil)))) pa_nil)))))
  (s_one (s_if (t_cmp (or_eq hu) o2_eq (e_callB call_len o1_len rfl Tx.n_len (by decide +kernel) (b_v (pv 5))) (b_of e_int) rfl)
  (s_cons (s_set (i := 6) nd rfl (.inl rfl) rfl (e_pop (pe_bm0 PySem.F.plainAttrs_list PySem.F.slot_list_pop PySem.F.type_list_pop mt_pop (pv 3))))
  (s_one (s_expr (e_mth mth_append (pe_bm PySem.F.plainAttrs_list PySem.F.slot_list_append PySem.F.type_list_append mt_append (pv 3) (pa_cons (e_callD d_reckoned hr (by decide) rfl (takes_of rfl rfl rfl rfl) rfl (ac_d (e_sh (b_ixQ hu (b_v (pv 5)) q_int (fun _ _ => rfl))) (ac_d (e_pop (pe_bm0 PySem.F.plainAttrs_list PySem.F.slot_list_pop PySem.F.type_list_pop mt_pop (pv 3))) (ac_d (e_v (pv 6)) ac_nil)))) pa_nil))))))
  (s_one (s_expr (e_mth mth_extend (pe_bm PySem.F.plainAttrs_list PySem.F.slot_list_extend PySem.F.type_list_extend mt_extendR (pv 4) (pa_cons (e_lst (a_cons (e_tup (a_cons (e_sh (b_ixQ hu (b_v (pv 5)) q_int (fun _ _ => rfl))) a_nil)) (a_cons (e_sh (b_ixQ hu (b_v (pv 5)) q_int (fun _ _ => rfl))) (a_cons (e_sh (b_ixQ hu (b_v (pv 5)) q_int (fun _ _ => rfl))) a_nil)))) pa_nil)))))))))))))
  (s_one (s_retD (e_sh (b_ixQ hu (b_v (pv 3)) q_int (fun _ _ => rfl))))))))
/-! bare_holds -/
abbrev s_bare_holds : Stmt := topS 14
def m_bare_holds : ER Fl := (mSeq (mIfS (mTest (mBin fEq (mSh (mIxQ (mBv 0) (qC (.int 0)))) (mC (.str "yes"))))
  (mRetD (mC (.bl true)))
  mNx)
  (mSeq (mAsg 3 (mCall f_worth [none, none, none] (mCons (mFr (mSh (mIxQ (mBv 0) (qC (.int 1))))) (mCons (mFr (mV 1)) (mCons (mFr (mV 2)) (rt []))))))
  (mSeq (mAsg 4 (mCall f_worth [none, none, none] (mCons (mFr (mSh (mIxQ (mBv 0) (qC (.int 2))))) (mCons (mFr (mV 1)) (mCons (mFr (mV 2)) (rt []))))))
  (mSeq (mIfS (mTest (mBin fEq (mSh (mIxQ (mBv 0) (qC (.int 0)))) (mC (.str "same"))))
  (mRetD (mBinV fEq 3 (mBv 4)))
  mNx)
  (mRetD (mBinV fLt 3 (mBv 4)))))))
def f_bare_holds : List W → Out W := runF (fun _ => false) 3 2 m_bare_holds
theorem sc_bare_holds : FnScope ["condition", "boxes", "standing", "one", "other"] ["condition", "boxes", "standing"] (defScope s_bare_holds) := ⟨rfl, rfl, rfl, by decide +kernel, rfl, by decide +kernel, by decide +kernel⟩
theorem k_bare_holds (Tx : TxT K mg) (T : DefT K mg "bare_holds" "bare_holds" s_bare_holds ["condition", "boxes", "standing"]) (d_worth : DefOk P w K mg base 2 "worth" 3 f_worth) : DefOk P w K mg base 3 "bare_holds" 3 f_bare_holds :=
  def_ok T sc_bare_holds (by decide) fun f cdv A outer s H E hr => by
  have hu := hr.units
  have nd := sc_bare_holds.nd
  exact (s_cons (s_if (t_cmp (or_eq hu) o2_eq (e_sh (b_ixQ hu (b_v (pv 0)) q_int (fun _ _ => rfl))) (b_of e_str) rfl)
  (s_one (s_retD e_bl))
  s_nil)
  (s_cons (s_set (i := 3) nd rfl (.inl rfl) rfl (e_callD d_worth hr (by decide) rfl (takes_of rfl rfl rfl rfl) rfl (ac_d (e_sh (b_ixQ hu (b_v (pv 0)) q_int (fun _ _ => rfl))) (ac_d (e_v (pv 1)) (ac_d (e_v (pv 2)) ac_nil)))))
  (s_cons (s_set (i := 4) nd rfl (.inl rfl) rfl (e_callD d_worth hr (by decide) rfl (takes_of rfl rfl rfl rfl) rfl (ac_d (e_sh (b_ixQ hu (b_v (pv 0)) q_int (fun _ _ => rfl))) (ac_d (e_v (pv 1)) (ac_d (e_v (pv 2)) ac_nil)))))
  (s_cons (s_if (t_cmp (or_eq hu) o2_eq (e_sh (b_ixQ hu (b_v (pv 0)) q_int (fun _ _ => rfl))) (b_of e_str) rfl)
  (s_one (s_retD (e_cmpV (or_eq hu) o2_eq (pv 3) (b_v (pv 4)) rfl)))
  s_nil)
  (s_one (s_retD (e_cmpV op_lt o2_lt (pv 3) (b_v (pv 4)) rfl)))))))
/-! holds -/
abbrev s_holds : Stmt := topS 16
def b_holds_1 : ER Bool := (mTest (mBin (fIn false) (mSh (mIxQ (mBv 0) (qC (.int 0)))) (mTup (mCons (mC (.str "not")) (mCons (mC (.str "both")) (rt []))))))
def b_holds_2 : ER Fl := (mSeq (mDrop (mMth 3 fAppend (mV 0)))
  (mAsg 0 (mSh (mIxQ (mBv 0) (qC (.int 1))))))
def b_holds_3 : ER Bool := (mAnd (mTest (mBinV fNe 3 (mLst (rt [])))) (mNot (mAnd (mTest (mBin fEq (mSh (mIxQ (mIxQ (mBv 3) (qNeg (qC (.int 1)))) (qC (.int 0)))) (mC (.str "both")))) (mTest (mV 4)))))
def b_holds_4 : ER Fl := (mSeq (mAsg 5 (mPop 3))
  (mIfS (mTest (mBin fEq (mSh (mIxQ (mBv 5) (qC (.int 0)))) (mC (.str "not"))))
  (mAsg 4 (mNotV (mV 4)))
  mNx))
def b_holds_5 : ER Bool := (mTest (mC (.bl true)))
def b_holds_6 : ER Fl := (mSeq (mWhile b_holds_1 b_holds_2 1000000)
  (mSeq (mAsg 4 (mCall f_bare_holds [none, none, none] (mCons (mFr (mV 0)) (mCons (mFr (mV 1)) (mCons (mFr (mV 2)) (rt []))))))
  (mSeq (mWhile b_holds_3 b_holds_4 1000000)
  (mSeq (mIfS (mTest (mBinV fEq 3 (mLst (rt []))))
  (mRetD (mV 4))
  mNx)
  (mAsg 0 (mSh (mIxQ (mPop 3) (qC (.int 2)))))))))
def m_holds : ER Fl := (mSeq (mAsg 3 (mLst (rt [])))
  (mWhile b_holds_5 b_holds_6 1000000))
def f_holds : List W → Out W := runF (fun _ => false) 3 3 m_holds
theorem sc_holds : FnScope ["condition", "boxes", "standing", "pile", "truth", "whole"] ["condition", "boxes", "standing"] (defScope s_holds) := ⟨rfl, rfl, rfl, by decide +kernel, rfl, by decide +kernel, by decide +kernel⟩
theorem k_holds (Tx : TxT K mg) (T : DefT K mg "holds" "holds" s_holds ["condition", "boxes", "standing"]) (d_bare_holds : DefOk P w K mg base 3 "bare_holds" 3 f_bare_holds) : DefOk P w K mg base 4 "holds" 3 f_holds :=
  def_ok T sc_holds (by decide) fun f cdv A outer s H E hr => by
  have hu := hr.units
  have nd := sc_holds.nd
  exact (s_cons (s_set (i := 3) nd rfl (.inl rfl) rfl (e_lst a_nil))
  (s_one (s_while (passes_of rfl) (t_val e_bl)
  (s_cons (s_while (passes_of rfl) (t_cmp (or_in hu) o2_in (e_sh (b_ixQ hu (b_v (pv 0)) q_int (fun _ _ => rfl))) (b_of (e_tup (a_cons e_str (a_cons e_str a_nil)))) rfl)
  (s_cons (s_expr (e_mth mth_append (pe_bm PySem.F.plainAttrs_list PySem.F.slot_list_append PySem.F.type_list_append mt_append (pv 3) (pa_cons (e_v (pv 0)) pa_nil))))
  (s_one (s_set (i := 0) nd rfl (.inl rfl) rfl (e_sh (b_ixQ hu (b_v (pv 0)) q_int (fun _ _ => rfl)))))))
  (s_cons (s_set (i := 4) nd rfl (.inl rfl) rfl (e_callD d_bare_holds hr (by decide) rfl (takes_of rfl rfl rfl rfl) rfl (ac_d (e_v (pv 0)) (ac_d (e_v (pv 1)) (ac_d (e_v (pv 2)) ac_nil)))))
  (s_cons (s_while (passes_of rfl) (t_w (w_and (t_cmpV (or_ne hu) o2_ne (pv 3) (b_of (e_lst a_nil)) rfl) (w_and1 (t_not (t_w (w_and (t_cmp (or_eq hu) o2_eq (e_sh (b_ixQ hu (b_ixQ hu (b_v (pv 3)) (q_neg q_int) (fun _ _ => rfl)) q_int (fun _ _ => rfl))) (b_of e_str) rfl) (w_and1 (t_val (e_v (pv 4))))))))))
  (s_cons (s_set (i := 5) nd rfl (.inl rfl) rfl (e_pop (pe_bm0 PySem.F.plainAttrs_list PySem.F.slot_list_pop PySem.F.type_list_pop mt_pop (pv 3))))
  (s_one (s_if (t_cmp (or_eq hu) o2_eq (e_sh (b_ixQ hu (b_v (pv 5)) q_int (fun _ _ => rfl))) (b_of e_str) rfl)
  (s_one (s_set (i := 4) nd rfl (.inl rfl) rfl (e_not (e_v (pv 4)))))
  s_nil))))
  (s_cons (s_if (t_cmpV (or_eq hu) o2_eq (pv 3) (b_of (e_lst a_nil)) rfl)
  (s_one (s_retD (e_v (pv 4))))
  s_nil)
  (s_one (s_set (i := 0) nd rfl (.inl rfl) rfl (e_sh (b_ixQ hu (b_of (e_pop (pe_bm0 PySem.F.plainAttrs_list PySem.F.slot_list_pop PySem.F.type_list_pop mt_pop (pv 3)))) q_int (fun _ _ => rfl))))))))))))
/-! all_standings -/
abbrev s_all_standings : Stmt := topS 18
def b_all_standings_1 : ER W := (mBinV fAdd 5 (mTup (mCons (mV 6) (rt []))))
def b_all_standings_2 : ER Fl := (mDrop (mMth 4 fExtend (mLc (mRange1 (mBv 3)) (tName 6) [6] (rt true) b_all_standings_1)))
def b_all_standings_3 : ER Fl := (mSeq (mAsg 4 (mLst (rt [])))
  (mSeq (mFor (mSeqD (mV 1)) (tName 5) b_all_standings_2)
  (mAsg 1 (mV 4))))
def m_all_standings : ER Fl := (mSeq (mAsg 1 (mLst (mCons (mTup (rt [])) (rt []))))
  (mSeq (mFor (mSeqD (mV 0)) (tTup [2, 3]) b_all_standings_3)
  (mRetD (mV 1))))
def f_all_standings : List W → Out W := runF (fun _ => false) 1 6 m_all_standings
theorem sc_all_standings : FnScope ["boxes", "found", "name", "size", "longer", "standing", "value"] ["boxes"] (defScope s_all_standings) := ⟨rfl, rfl, rfl, by decide +kernel, rfl, by decide +kernel, by decide +kernel⟩
theorem k_all_standings (Tx : TxT K mg) (T : DefT K mg "all_standings" "all_standings" s_all_standings ["boxes"])  : DefOk P w K mg base 1 "all_standings" 1 f_all_standings :=
  def_ok T sc_all_standings (by decide) fun f cdv A outer s H E hr => by
  have hu := hr.units
  have nd := sc_all_standings.nd
  exact (s_cons (s_set (i := 1) nd rfl (.inl rfl) rfl (e_lst (a_cons (e_tup a_nil) a_nil)))
  (s_cons (s_for (passes_of rfl) rfl (i_seq (e_v (pv 0))) (g_tup rfl (gs_cons (i := 2) nd rfl (.inl rfl) rfl (gs_cons (i := 3) nd rfl (.inl rfl) rfl gs_nil)) rfl)
  (s_cons (s_set (i := 4) nd rfl (.inl rfl) rfl (e_lst a_nil))
  (s_cons (s_for (passes_of rfl) rfl (i_seq (e_v (pv 1))) (g_name (i := 5) nd rfl (.inr rfl) rfl)
  (s_one (s_expr (e_mth mth_extend (pe_bm PySem.F.plainAttrs_list PySem.F.slot_list_extend PySem.F.type_list_extend mt_extendR (pv 4) (pa_cons (e_lc (ti_name (by decide)) (pe_lc rfl nd (i_range1 rfl Tx.n_range (b_v (pv 3))) (own := [("value", 6)]) (show BlkOk ["boxes", "found", "name", "size", "longer", "standing", "value"] (defScope s_all_standings) _ [("value", 6)] from ⟨rfl, by decide +kernel, by decide +kernel, by decide +kernel, by decide +kernel⟩) (fun _ _ _ _ _ => pg_name (i := 6) nd rfl (.inl rfl)) (fun _ _ _ _ _ => p_yes) (fun _ _ _ _ _ => (e_binV or_add o2_add (pv 5) (b_of (e_tup (a_cons (e_v (pv 6)) a_nil))))))) pa_nil))))))
  (s_one (s_set (i := 1) nd rfl (.inl rfl) rfl (e_v (pv 4)))))))
  (s_one (s_retD (e_v (pv 1))))))
/-! standings -/
abbrev s_standings : Stmt := topS 19
def m_standings : ER Fl := (mRetD (mCall f_all_standings [none] (mCons (mFr (mSh (mIxQ (mBv 0) (qC (.int 0))))) (rt []))))
def f_standings : List W → Out W := runF (fun _ => false) 1 0 m_standings
theorem sc_standings : FnScope ["world"] ["world"] (defScope s_standings) := ⟨rfl, rfl, rfl, by decide +kernel, rfl, by decide +kernel, by decide +kernel⟩
theorem k_standings (Tx : TxT K mg) (T : DefT K mg "standings" "standings" s_standings ["world"]) (d_all_standings : DefOk P w K mg base 1 "all_standings" 1 f_all_standings) : DefOk P w K mg base 2 "standings" 1 f_standings :=
  def_ok T sc_standings (by decide) fun f cdv A outer s H E hr => by
  have hu := hr.units
  have nd := sc_standings.nd
  exact (s_one (s_retD (e_callD d_all_standings hr (by decide) rfl (takes_of rfl rfl rfl rfl) rfl (ac_d (e_sh (b_ixQ hu (b_v (pv 0)) q_int (fun _ _ => rfl))) ac_nil))))
/-! first_known -/
abbrev s_first_known : Stmt := topS 26
def b_first_known_1 : ER W := (mV 1)
def b_first_known_2 : ER Bool := (mTest (mCall f_holds [none, none, none] (mCons (mFr (mSh (mIxQ (mBv 0) (qC (.int 3))))) (mCons (mFr (mSh (mIxQ (mBv 0) (qC (.int 0))))) (mCons (mFr (mV 1)) (rt []))))))
def m_first_known : ER Fl := (mRetD (mLc (mSeqD (mCall f_standings [none] (mCons (mFr (mV 0)) (rt [])))) (tName 1) [1] b_first_known_2 b_first_known_1))
def f_first_known : List W → Out W := runF (fun _ => false) 1 1 m_first_known
theorem sc_first_known : FnScope ["world", "standing"] ["world"] (defScope s_first_known) := ⟨rfl, rfl, rfl, by decide +kernel, rfl, by decide +kernel, by decide +kernel⟩
theorem k_first_known (Tx : TxT K mg) (T : DefT K mg "first_known" "first_known" s_first_known ["world"]) (d_holds : DefOk P w K mg base 4 "holds" 3 f_holds) (d_standings : DefOk P w K mg base 2 "standings" 1 f_standings) : DefOk P w K mg base 5 "first_known" 1 f_first_known :=
  def_ok T sc_first_known (by decide) fun f cdv A outer s H E hr => by
  have hu := hr.units
  have nd := sc_first_known.nd
  exact (s_one (s_retD (e_lc (ti_name (by decide)) (pe_lc rfl nd (i_seq (e_callD d_standings hr (by decide) rfl (takes_of rfl rfl rfl rfl) rfl (ac_d (e_v (pv 0)) ac_nil))) (own := [("standing", 1)]) (show BlkOk ["world", "standing"] (defScope s_first_known) _ [("standing", 1)] from ⟨rfl, by decide +kernel, by decide +kernel, by decide +kernel, by decide +kernel⟩) (fun _ _ _ _ _ => pg_name (i := 1) nd rfl (.inl rfl)) (fun _ _ _ _ _ => pts_one (t_val (e_callD d_holds hr (by decide) rfl Fp.takes0 rfl (ac_d (e_sh (b_ixQ hu (b_v (pv 0)) q_int (fun _ _ => rfl))) (ac_d (e_sh (b_ixQ hu (b_v (pv 0)) q_int (fun _ _ => rfl))) (ac_d (e_v (pv 1)) ac_nil)))))) (fun _ _ _ _ _ => (e_v (pv 1)))))))
/-! checked -/
abbrev s_checked : Stmt := topS 57
def b_checked_1 : ER Fl := (mIfS (mTest (mBin fGt (m1 fLen0 (mBv 5)) (mC (.int 1))))
  (mRaise "NotPlain")
  mNx)
def b_checked_2 : ER Fl := (mIfS (mTest (mBinV fLt 7 (mC (.int 1))))
  (mRaise "NoWeights")
  mNx)
def m_checked : ER Fl := (mSeq (mFor (mSeqD (mSh (mIxQ (mBv 0) (qC (.int 1))))) (tTup [2, 3, 4, 5]) b_checked_1)
  (mSeq (mAsg 6 (mCall f_first_known [none] (mCons (mFr (mV 0)) (rt []))))
  (mSeq (mIfS (mTest (mBin fNe (m1 fLen0 (mBv 1)) (m1 fLen0 (mBv 6))))
  (mRaise "NoWeights")
  mNx)
  (mSeq (mFor (mSeqD (mV 1)) (tName 7) b_checked_2)
  (mNever)))))
def f_checked : List W → Out W := runF (fun _ => false) 2 6 m_checked
theorem sc_checked : FnScope ["world", "weights", "name", "price", "need", "ways", "known", "weight"] ["world", "weights"] (defScope s_checked) := ⟨rfl, rfl, rfl, by decide +kernel, rfl, by decide +kernel, by decide +kernel⟩
theorem k_checked (Tx : TxT K mg) (T : DefT K mg "checked" "checked" s_checked ["world", "weights"]) (d_first_known : DefOk P w K mg base 5 "first_known" 1 f_first_known) : DefOk P w K mg base 6 "checked" 2 f_checked :=
  def_ok T sc_checked (by decide) fun f cdv A outer s H E hr => by
  have hu := hr.units
  have nd := sc_checked.nd
  exact (s_cons (s_for (passes_of rfl) rfl (i_seq (e_sh (b_ixQ hu (b_v (pv 0)) q_int (fun _ _ => rfl)))) (g_tup rfl (gs_cons (i := 2) nd rfl (.inl rfl) rfl (gs_cons (i := 3) nd rfl (.inl rfl) rfl (gs_cons (i := 4) nd rfl (.inl rfl) rfl (gs_cons (i := 5) nd rfl (.inl rfl) rfl gs_nil)))) rfl)
  (s_one (s_if (t_cmp op_gt o2_gt (e_callB call_len o1_len rfl Tx.n_len (by decide +kernel) (b_v (pv 5))) (b_of e_int) rfl)
  (s_one (r_own rfl (takes_of rfl rfl rfl rfl) Tx.x_NotPlain))
  s_nil)))
  (s_cons (s_set (i := 6) nd rfl (.inl rfl) rfl (e_callD d_first_known hr (by decide) rfl (takes_of rfl rfl rfl rfl) rfl (ac_d (e_v (pv 0)) ac_nil)))
  (s_cons (s_if (t_cmp (or_ne hu) o2_ne (e_callB call_len o1_len rfl Tx.n_len (by decide +kernel) (b_v (pv 1))) (b_of (e_callB call_len o1_len rfl Tx.n_len (by decide +kernel) (b_v (pv 6)))) rfl)
  (s_one (r_own rfl (takes_of rfl rfl rfl rfl) Tx.x_NoWeights))
  s_nil)
  (s_cons (s_for (passes_of rfl) rfl (i_seq (e_v (pv 1))) (g_name (i := 7) nd rfl (.inl rfl) rfl)
  (s_one (s_if (t_cmpV op_lt o2_lt (pv 7) (b_of e_int) rfl)
  (s_one (r_own rfl (takes_of rfl rfl rfl rfl) Tx.x_NoWeights))
  s_nil)))
  ss_never))))
/-! least_mean -/
abbrev s_least_mean : Stmt := topS 68
def m_least_mean : ER Fl := (mSeq (mAsg 2 (m1 fTuple (mCall f_checked [none, none] (mCons (mFr (mV 0)) (mCons (mFr (mV 1)) (rt []))))))
  (mNever))
def f_least_mean : List W → Out W := runF (fun _ => false) 2 5 m_least_mean
theorem sc_least_mean : FnScope ["world", "weights", "first", "costs", "chosen", "over", "under"] ["world", "weights"] (defScope s_least_mean) := ⟨rfl, rfl, rfl, by decide +kernel, rfl, by decide +kernel, by decide +kernel⟩
theorem k_least_mean (Tx : TxT K mg) (T : DefT K mg "least_mean" "least_mean" s_least_mean ["world", "weights"]) (d_checked : DefOk P w K mg base 6 "checked" 2 f_checked) : DefOk P w K mg base 7 "least_mean" 2 f_least_mean :=
  def_ok T sc_least_mean (by decide) fun f cdv A outer s H E hr => by
  have hu := hr.units
  have nd := sc_least_mean.nd
  exact (s_cons (s_set (i := 2) nd rfl (.inl rfl) rfl (e_callTy call_tuple_of o1_tuple rfl Tx.n_tuple (by decide +kernel) (b_of (e_callD d_checked hr (by decide) rfl (takes_of rfl rfl rfl rfl) rfl (ac_d (e_v (pv 0)) (ac_d (e_v (pv 1)) ac_nil))))))
  ss_never)
/-! mean_price -/
abbrev s_mean_price : Stmt := topS 60
def m_mean_price : ER Fl := (mSeq (mAsg 3 (mCall f_checked [none, none] (mCons (mFr (mV 0)) (mCons (mFr (mV 2)) (rt [])))))
  (mNever))
def f_mean_price : List W → Out W := runF (fun _ => false) 3 4 m_mean_price
theorem sc_mean_price : FnScope ["world", "plan", "weights", "pairs", "total", "standing", "weight"] ["world", "plan", "weights"] (defScope s_mean_price) := ⟨rfl, rfl, rfl, by decide +kernel, rfl, by decide +kernel, by decide +kernel⟩
theorem k_mean_price (Tx : TxT K mg) (T : DefT K mg "mean_price" "mean_price" s_mean_price ["world", "plan", "weights"]) (d_checked : DefOk P w K mg base 6 "checked" 2 f_checked) : DefOk P w K mg base 7 "mean_price" 3 f_mean_price :=
  def_ok T sc_mean_price (by decide) fun f cdv A outer s H E hr => by
  have hu := hr.units
  have nd := sc_mean_price.nd
  exact (s_cons (s_set (i := 3) nd rfl (.inl rfl) rfl (e_callD d_checked hr (by decide) rfl (takes_of rfl rfl rfl rfl) rfl (ac_d (e_v (pv 0)) (ac_d (e_v (pv 2)) ac_nil))))
  ss_never)
/-! named_known -/
abbrev s_named_known : Stmt := topS 28
def b_named_known_1 : ER Fl := (mIfS (mTest (mBin fEq (mSh (mIxQ (mBv 2) (qC (.int 0)))) (mBv 1)))
  (mRetD (mV 2))
  mNx)
def m_named_known : ER Fl := (mSeq (mFor (mSeqD (mV 0)) (tName 2) b_named_known_1)
  (mRaise "NoName"))
def f_named_known : List W → Out W := runF (fun _ => false) 2 1 m_named_known
theorem sc_named_known : FnScope ["things", "name", "thing"] ["things", "name"] (defScope s_named_known) := ⟨rfl, rfl, rfl, by decide +kernel, rfl, by decide +kernel, by decide +kernel⟩
theorem k_named_known (Tx : TxT K mg) (T : DefT K mg "named_known" "named" s_named_known ["things", "name"])  : DefOk P w K mg base 1 "named_known" 2 f_named_known :=
  def_ok T sc_named_known (by decide) fun f cdv A outer s H E hr => by
  have hu := hr.units
  have nd := sc_named_known.nd
  exact (s_cons (s_for (passes_of rfl) rfl (i_seq (e_v (pv 0))) (g_name (i := 2) nd rfl (.inl rfl) rfl)
  (s_one (s_if (t_cmp (or_eq hu) o2_eq (e_sh (b_ixQ hu (b_v (pv 2)) q_int (fun _ _ => rfl))) (b_v (pv 1)) rfl)
  (s_one (s_retD (e_v (pv 2))))
  s_nil)))
  (s_one (r_own rfl (takes_of rfl rfl rfl rfl) Tx.x_NoName)))
/-! row_works -/
abbrev s_row_works : Stmt := topS 70
def b_row_works_1 : ER Fl := (mDrop (mCall f_named_known [none, none] (mCons (mFr (mSh (mIxQ (mBv 0) (qC (.int 1))))) (mCons (mFr (mV 2)) (rt [])))))
def m_row_works : ER Fl := (mSeq (mFor (mSeqD (mV 1)) (tName 2) b_row_works_1)
  (mNever))
def f_row_works : List W → Out W := runF (fun _ => false) 2 2 m_row_works
theorem sc_row_works : FnScope ["world", "row", "name", "known"] ["world", "row"] (defScope s_row_works) := ⟨rfl, rfl, rfl, by decide +kernel, rfl, by decide +kernel, by decide +kernel⟩
theorem k_row_works (Tx : TxT K mg) (T : DefT K mg "row_works" "row_works" s_row_works ["world", "row"]) (d_named_known : DefOk P w K mg base 1 "named_known" 2 f_named_known) : DefOk P w K mg base 2 "row_works" 2 f_row_works :=
  def_ok T sc_row_works (by decide) fun f cdv A outer s H E hr => by
  have hu := hr.units
  have nd := sc_row_works.nd
  exact (s_cons (s_for (passes_of rfl) rfl (i_seq (e_v (pv 1))) (g_name (i := 2) nd rfl (.inl rfl) rfl)
  (s_one (s_expr (e_callD d_named_known hr (by decide) rfl (takes_of rfl rfl rfl rfl) rfl (ac_d (e_sh (b_ixQ hu (b_v (pv 0)) q_int (fun _ _ => rfl))) (ac_d (e_v (pv 2)) ac_nil))))))
  ss_never)
/-! what_it_is_worth -/
abbrev s_what_it_is_worth : Stmt := topS 41
def b_what_it_is_worth_1 : ER W := (mSh (mIxQ (mBv 9) (qC (.int 0))))
def m_what_it_is_worth : ER Fl := (mSeq (mAsgT (tTup [2, 3, 4, 5, 6]) (mV 0))
  (mSeq (mIfS (mTest (mBinV (fIn true) 1 (mLc (mSeqD (mBinV fAdd 3 (mBv 4))) (tName 9) [9] (rt true) b_what_it_is_worth_1)))
  (mRaise "NoName")
  mNx)
  (mNever)))
def f_what_it_is_worth : List W → Out W := runF (fun _ => false) 2 8 m_what_it_is_worth
theorem sc_what_it_is_worth : FnScope ["world", "name", "boxes", "deeds", "looks", "begin", "goal", "less", "known", "thing"] ["world", "name"] (defScope s_what_it_is_worth) := ⟨rfl, rfl, rfl, by decide +kernel, rfl, by decide +kernel, by decide +kernel⟩
theorem k_what_it_is_worth (Tx : TxT K mg) (T : DefT K mg "what_it_is_worth" "what_it_is_worth" s_what_it_is_worth ["world", "name"])  : DefOk P w K mg base 1 "what_it_is_worth" 2 f_what_it_is_worth :=
  def_ok T sc_what_it_is_worth (by decide) fun f cdv A outer s H E hr => by
  have hu := hr.units
  have nd := sc_what_it_is_worth.nd
  exact (s_cons (s_asgT (ps_asg (e_v (pv 0)) (g_tup rfl (gs_cons (i := 2) nd rfl (.inl rfl) rfl (gs_cons (i := 3) nd rfl (.inl rfl) rfl (gs_cons (i := 4) nd rfl (.inl rfl) rfl (gs_cons (i := 5) nd rfl (.inl rfl) rfl (gs_cons (i := 6) nd rfl (.inl rfl) rfl gs_nil))))) rfl)))
  (s_cons (s_if (t_cmpV (or_notIn hu) o2_in (pv 1) (b_of (e_lc (ti_name (by decide)) (pe_lc rfl nd (i_seq (e_binV or_add o2_add (pv 3) (b_v (pv 4)))) (own := [("thing", 9)]) (show BlkOk ["world", "name", "boxes", "deeds", "looks", "begin", "goal", "less", "known", "thing"] (defScope s_what_it_is_worth) _ [("thing", 9)] from ⟨rfl, by decide +kernel, by decide +kernel, by decide +kernel, by decide +kernel⟩) (fun _ _ _ _ _ => pg_name (i := 9) nd rfl (.inl rfl)) (fun _ _ _ _ _ => p_yes) (fun _ _ _ _ _ => (e_sh (b_ixQ hu (b_v (pv 9)) q_int (fun _ _ => rfl))))))) rfl)
  (s_one (r_own rfl (takes_of rfl rfl rfl rfl) Tx.x_NoName))
  s_nil)
  ss_never))
/-! _law_asked -/
abbrev s_L_asked : Stmt := topS 76
def b_L_asked_1 : ER Fl := (mSeq (mAsg 3 (mLst (mCons (mIsX (isaT itab "NoText") (mBv 4)) (mCons (mIsX (isaT itab "NoWorld") (mBv 4)) (mCons (mIsX (isaT itab "NoPlan") (mBv 4)) (mCons (mIsX (isaT itab "NoName") (mBv 4)) (rt [])))))))
  (mSeq (mAsg 3 (mBinV fAdd 3 (mLst (mCons (mIsX (isaT itab "NotSure") (mBv 4)) (mCons (mIsX (isaT itab "NotPlain") (mBv 4)) (mCons (mIsX (isaT itab "NoWeights") (mBv 4)) (rt [])))))))
  (mAsg 3 (mBinV fAdd 3 (mLst (mCons (mIsX (isaT itab "TooMany") (mBv 4)) (mCons (mIsX (isaT itab "NoOrder") (mBv 4)) (mCons (mNotV (mIsX (isaT itab "ValueError") (mBv 4))) (rt [])))))))))
def b_L_asked_2 : ER Fl := (mIfS (mTest (mBinV fEq 0 (mC (.int 0))))
  (mDrop (mCall f_what_it_is_worth [none, none] (mCons (mFr (mV 1)) (mCons (mFr (mV 2)) (rt [])))))
  (mIfS (mTest (mBinV fEq 0 (mC (.int 1))))
  (mDrop (mCall f_row_works [none, none] (mCons (mFr (mV 1)) (mCons (mFr (mV 2)) (rt [])))))
  (mIfS (mTest (mBinV fEq 0 (mC (.int 2))))
  (mDrop (mCall f_least_mean [none, none] (mCons (mFr (mV 1)) (mCons (mFr (mV 2)) (rt [])))))
  (mDrop (mCall f_mean_price [none, none, none] (mCons (mFr (mV 1)) (mCons (mFr (mLst (mCons (mTup (mCons (mC (.str "end")) (rt []))) (rt [])))) (mCons (mFr (mV 2)) (rt [])))))))))
def m_L_asked : ER Fl := (mSeq (mAsg 3 (mLst (rt [])))
  (mSeq (mTry (subT stab) [⟨["ForkError"], (some 4), fun _ => b_L_asked_1⟩] b_L_asked_2)
  (mRetD (mV 3))))
def f_L_asked : List W → Out W := runF (fun _ => false) 3 2 m_L_asked
theorem sc_L_asked : FnScope ["door", "world", "thing", "kinds", "e"] ["door", "world", "thing"] (defScope s_L_asked) := ⟨rfl, rfl, rfl, by decide +kernel, rfl, by decide +kernel, by decide +kernel⟩
theorem k_L_asked (Tx : TxT K mg) (T : DefT K mg "_law_asked" "_law_asked" s_L_asked ["door", "world", "thing"]) (d_least_mean : DefOk P w K mg base 7 "least_mean" 2 f_least_mean) (d_mean_price : DefOk P w K mg base 7 "mean_price" 3 f_mean_price) (d_row_works : DefOk P w K mg base 2 "row_works" 2 f_row_works) (d_what_it_is_worth : DefOk P w K mg base 1 "what_it_is_worth" 2 f_what_it_is_worth) : DefOk P w K mg base 8 "_law_asked" 3 f_L_asked :=
  def_ok T sc_L_asked (by decide) fun f cdv A outer s H E hr => by
  have hu := hr.units
  have nd := sc_L_asked.nd
  exact (s_cons (s_set (i := 3) nd rfl (.inl rfl) rfl (e_lst a_nil))
  (s_cons (s_try rfl rfl rfl nd (fun _ => rfl) (takes_of rfl rfl rfl rfl) (sub_ok Tx.sub) (fun W pn' xe tk1 ps1 => (s_one (s_if (t_cmpV (or_eq hu) o2_eq (pv 0) (b_of e_int) rfl)
  (s_one (s_expr (e_callD d_what_it_is_worth hr (by decide) rfl tk1 rfl (ac_d (e_v (pv 1)) (ac_d (e_v (pv 2)) ac_nil)))))
  (s_one (s_if (t_cmpV (or_eq hu) o2_eq (pv 0) (b_of e_int) rfl)
  (s_one (s_expr (e_callD d_row_works hr (by decide) rfl tk1 rfl (ac_d (e_v (pv 1)) (ac_d (e_v (pv 2)) ac_nil)))))
  (s_one (s_if (t_cmpV (or_eq hu) o2_eq (pv 0) (b_of e_int) rfl)
  (s_one (s_expr (e_callD d_least_mean hr (by decide) rfl tk1 rfl (ac_d (e_v (pv 1)) (ac_d (e_v (pv 2)) ac_nil)))))
  (s_one (s_expr (e_callD d_mean_price hr (by decide) rfl tk1 rfl (ac_d (e_v (pv 1)) (ac_d (e_lst (a_cons (e_tup (a_cons e_str a_nil)) a_nil)) (ac_d (e_v (pv 2)) ac_nil)))))))))))))
  (HdsM.as (test_name (names_of Tx.c_ForkError)) rfl rfl rfl (fun _ _ _ => (s_cons (s_set (i := 3) nd rfl (.inl rfl) rfl (e_lst (a_cons (e_isA Tx.isa Tx.c_NoText Tx.n_isinstance rfl rfl (b_v (pv 4))) (a_cons (e_isA Tx.isa Tx.c_NoWorld Tx.n_isinstance rfl rfl (b_v (pv 4))) (a_cons (e_isA Tx.isa Tx.c_NoPlan Tx.n_isinstance rfl rfl (b_v (pv 4))) (a_cons (e_isA Tx.isa Tx.c_NoName Tx.n_isinstance rfl rfl (b_v (pv 4))) a_nil))))))
  (s_cons (s_set (i := 3) nd rfl (.inl rfl) rfl (e_binV or_add o2_add (pv 3) (b_of (e_lst (a_cons (e_isA Tx.isa Tx.c_NotSure Tx.n_isinstance rfl rfl (b_v (pv 4))) (a_cons (e_isA Tx.isa Tx.c_NotPlain Tx.n_isinstance rfl rfl (b_v (pv 4))) (a_cons (e_isA Tx.isa Tx.c_NoWeights Tx.n_isinstance rfl rfl (b_v (pv 4))) a_nil)))))))
  (s_one (s_set (i := 3) nd rfl (.inl rfl) rfl (e_binV or_add o2_add (pv 3) (b_of (e_lst (a_cons (e_isA Tx.isa Tx.c_TooMany Tx.n_isinstance rfl rfl (b_v (pv 4))) (a_cons (e_isA Tx.isa Tx.c_NoOrder Tx.n_isinstance rfl rfl (b_v (pv 4))) (a_cons (e_not (e_isA Tx.isa Tx.c_ValueError Tx.n_isinstance rfl rfl (b_v (pv 4)))) a_nil))))))))))) HdsM.nil))
  (s_one (s_retD (e_v (pv 3))))))
/-! _law_cell -/
abbrev s_L_cell : Stmt := topS 72
def m_L_cell : ER Fl := (mSeq (mIfS (mTest (mBinV fLt 1 (m1 fLen0 (mBv 0))))
  (mRetD (mSh (mIxQ (mBv 0) (qV 1))))
  mNx)
  (mRetD (mC (.int 0))))
def f_L_cell : List W → Out W := runF (fun _ => false) 2 0 m_L_cell
theorem sc_L_cell : FnScope ["script", "k"] ["script", "k"] (defScope s_L_cell) := ⟨rfl, rfl, rfl, by decide +kernel, rfl, by decide +kernel, by decide +kernel⟩
theorem k_L_cell (Tx : TxT K mg) (T : DefT K mg "_law_cell" "_law_cell" s_L_cell ["script", "k"])  : DefOk P w K mg base 1 "_law_cell" 2 f_L_cell :=
  def_ok T sc_L_cell (by decide) fun f cdv A outer s H E hr => by
  have hu := hr.units
  have nd := sc_L_cell.nd
  exact (s_cons (s_if (t_cmpV op_lt o2_lt (pv 1) (b_of (e_callB call_len o1_len rfl Tx.n_len (by decide +kernel) (b_v (pv 0)))) rfl)
  (s_one (s_retD (e_sh (b_ixQ hu (b_v (pv 0)) (q_v (pv 1)) (fun _ _ => rfl)))))
  s_nil)
  (s_one (s_retD e_int)))
/-! _law_take -/
abbrev s_L_take : Stmt := topS 74
def m_L_take : ER Fl := (mSeq (mIfS (mTest (mBin fGt (mSh (mIxQ (mBv 0) (qC (.int 0)))) (mC (.int 0))))
  (mSeq (mAsg 2 (mBin fMod (mSh (mIxQ (mBv 0) (qC (.int 0)))) (mBv 1)))
  (mSeq (mSetV 0 (mC (.int 0)) (mBin fDiv (mSh (mIxQ (mBv 0) (qC (.int 0)))) (mBv 1)))
  (mRetD (mV 2))))
  mNx)
  (mSeq (mSetV 0 (mC (.int 1)) (mBin fMod (mBin fAdd (mBin fMul (mSh (mIxQ (mBv 0) (qC (.int 1)))) (mC (.int 48271))) (mC (.int 11))) (mC (.int 2147483647))))
  (mRetD (mBin fMod (mBin fDiv (mBin fMod (mBin fMul (mSh (mIxQ (mBv 0) (qC (.int 1)))) (mIxQ (mBv 0) (qC (.int 1)))) (mC (.int 2147483647))) (mC (.int 7))) (mBv 1)))))
def f_L_take : List W → Out W := runF (fun i => i == 0) 2 1 m_L_take
theorem sc_L_take : FnScope ["well", "many", "got"] ["well", "many"] (defScope s_L_take) := ⟨rfl, rfl, rfl, by decide +kernel, rfl, by decide +kernel, by decide +kernel⟩
theorem k_L_take (Tx : TxT K mg) (T : DefT K mg "_law_take" "_law_take" s_L_take ["well", "many"])  : DefOk P w K mg base 1 "_law_take" 2 f_L_take :=
  def_ok T sc_L_take (by decide) fun f cdv A outer s H E hr => by
  have hu := hr.units
  have nd := sc_L_take.nd
  exact (s_cons (s_if (t_cmp op_gt o2_gt (e_sh (b_ixQ hu (b_v (pv 0)) q_int (fun _ _ => rfl))) (b_of e_int) rfl)
  (s_cons (s_set (i := 2) nd rfl (.inl rfl) rfl (e_bin op_mod o2_mod (e_sh (b_ixQ hu (b_v (pv 0)) q_int (fun _ _ => rfl))) (b_v (pv 1))))
  (s_cons (s_setV (ps_asg (e_bin op_fdivW o2_div (e_sh (b_ixQ hu (b_v (pv 0)) q_int (fun _ _ => rfl))) (b_v (pv 1))) (pg_sub (pv 0) e_int (set_all hu) (fun _ => rfl))))
  (s_one (s_retD (e_v (pv 2))))))
  s_nil)
  (s_cons (s_setV (ps_asg (e_bin op_mod o2_mod (e_bin or_add o2_add (e_bin or_mul o2_mul (e_sh (b_ixQ hu (b_v (pv 0)) q_int (fun _ _ => rfl))) (b_of e_int)) (b_of e_int)) (b_of e_int)) (pg_sub (pv 0) e_int (set_all hu) (fun _ => rfl))))
  (s_one (s_retD (e_bin op_mod o2_mod (e_bin op_fdivW o2_div (e_bin op_mod o2_mod (e_bin or_mul o2_mul (e_sh (b_ixQ hu (b_v (pv 0)) q_int (fun _ _ => rfl))) (b_ixQ hu (b_v (pv 0)) q_int (fun _ _ => rfl))) (b_of e_int)) (b_of e_int)) (b_v (pv 1)))))))
/-! _law_well -/
abbrev s_L_well : Stmt := topS 73
def m_L_well : ER Fl := (mSeq (mIfS (mTest (mBinV fGe 0 (mBin fPow (mC (.int 10)) (mC (.int 18)))))
  (mRet (mLst (mCons (mV 0) (mCons (mBinV fMod 0 (mC (.int 2147483647))) (rt [])))))
  mNx)
  (mRet (mLst (mCons (mC (.int 0)) (mCons (mBinV fMod 0 (mC (.int 2147483647))) (rt []))))))
def f_L_well : List W → Out W := runF (fun _ => false) 1 0 m_L_well
theorem sc_L_well : FnScope ["cell"] ["cell"] (defScope s_L_well) := ⟨rfl, rfl, rfl, by decide +kernel, rfl, by decide +kernel, by decide +kernel⟩
theorem k_L_well (Tx : TxT K mg) (T : DefT K mg "_law_well" "_law_well" s_L_well ["cell"])  : DefOk P w K mg base 1 "_law_well" 1 f_L_well :=
  def_ok T sc_L_well (by decide) fun f cdv A outer s H E hr => by
  have hu := hr.units
  have nd := sc_L_well.nd
  exact (s_cons (s_if (t_cmpV op_ge o2_ge (pv 0) (b_of (e_bin op_pow o2_pow e_int (b_of e_int))) rfl)
  (s_one (s_ret (e_lst (a_cons (e_v (pv 0)) (a_cons (e_binV op_mod o2_mod (pv 0) (b_of e_int)) a_nil)))))
  s_nil)
  (s_one (s_ret (e_lst (a_cons e_int (a_cons (e_binV op_mod o2_mod (pv 0) (b_of e_int)) a_nil))))))
/-! _law_world -/
abbrev s_L_world : Stmt := topS 75
def b_L_world_1 : ER Fl := (mSeq (mAsg 6 (mLst (mCons (mTup (mCons (mV 4) (mCons (mTup (mCons (mC (.str "plus")) (mCons (mTup (mCons (mC (.str "box")) (mCons (mV 4) (rt [])))) (mCons (mTup (mCons (mC (.str "number")) (mCons (mC (.int 1)) (rt [])))) (rt []))))) (rt [])))) (rt []))))
  (mSeq (mAsg 7 (mLst (mCons (mTup (mCons (mV 4) (mCons (mTup (mCons (mC (.str "plus")) (mCons (mTup (mCons (mC (.str "box")) (mCons (mV 4) (rt [])))) (mCons (mTup (mCons (mC (.str "box")) (mCons (mC (.str "h")) (rt [])))) (rt []))))) (rt [])))) (rt []))))
  (mSeq (mDrop (mIns 3 (mCall f_L_take [some 0, none] (mCons (mMv 0) (mCons (mFr (mBin fAdd (m1 fLen0 (mBv 3)) (mC (.int 1)))) (rt [])))) (mTup (mCons (mBin fAdd (mC (.str "one")) (mBv 4)) (mCons (mBin fAdd (mC (.int 1)) (mCall f_L_take [some 0, none] (mCons (mMv 0) (mCons (mFr (mC (.int 99))) (rt []))))) (mCons (mTup (mCons (mC (.str "yes")) (rt []))) (mCons (mLst (mCons (mV 6) (rt []))) (rt []))))))))
  (mDrop (mIns 3 (mCall f_L_take [some 0, none] (mCons (mMv 0) (mCons (mFr (mBin fAdd (m1 fLen0 (mBv 3)) (mC (.int 1)))) (rt [])))) (mTup (mCons (mBin fAdd (mC (.str "two")) (mBv 4)) (mCons (mBin fAdd (mC (.int 1)) (mCall f_L_take [some 0, none] (mCons (mMv 0) (mCons (mFr (mC (.int 99))) (rt []))))) (mCons (mTup (mCons (mC (.str "yes")) (rt []))) (mCons (mLst (mCons (mV 7) (rt []))) (rt [])))))))))))
def m_L_world : ER Fl := (mSeq (mAsg 2 (mLst (mCons (mTup (mCons (mC (.str "h")) (mCons (mC (.int 2)) (rt [])))) (mCons (mTup (mCons (mC (.str "a")) (mCons (mC (.int 5)) (rt [])))) (mCons (mTup (mCons (mC (.str "b")) (mCons (mC (.int 5)) (rt [])))) (mCons (mTup (mCons (mC (.str "c")) (mCons (mC (.int 4)) (rt [])))) (rt [])))))))
  (mSeq (mAsg 3 (mLst (rt [])))
  (mSeq (mFor (mSeqD (mSl (mV 2) (mPart (mC (.int 1))) (rt none))) (tTup [4, 5]) b_L_world_1)
  (mSeq (mIfS (mTest (mV 1))
  (mDrop (mMthP 3 (mHq 3 (mHe 3 (mHv 3) (mCall f_L_take [some 0, none] (mCons (mMv 0) (mCons (mFr (mC (.int 6))) (rt []))))) (qC (.int 3))) fAppend (mLst (rt []))))
  mNx)
  (mSeq (mAsg 8 (mTup (mCons (mC (.str "both")) (mCons (mTup (mCons (mC (.str "same")) (mCons (mTup (mCons (mC (.str "box")) (mCons (mC (.str "a")) (rt [])))) (mCons (mTup (mCons (mC (.str "number")) (mCons (mC (.int 0)) (rt [])))) (rt []))))) (mCons (mTup (mCons (mC (.str "same")) (mCons (mTup (mCons (mC (.str "box")) (mCons (mC (.str "b")) (rt [])))) (mCons (mTup (mCons (mC (.str "number")) (mCons (mC (.int 0)) (rt [])))) (rt []))))) (rt []))))))
  (mSeq (mAsg 8 (mTup (mCons (mC (.str "both")) (mCons (mV 8) (mCons (mTup (mCons (mC (.str "same")) (mCons (mTup (mCons (mC (.str "box")) (mCons (mC (.str "c")) (rt [])))) (mCons (mTup (mCons (mC (.str "number")) (mCons (mC (.int 0)) (rt [])))) (rt []))))) (rt []))))))
  (mSeq (mAsg 9 (mTup (mCons (mC (.str "both")) (mCons (mTup (mCons (mC (.str "same")) (mCons (mTup (mCons (mC (.str "box")) (mCons (mC (.str "h")) (rt [])))) (mCons (mTup (mCons (mC (.str "number")) (mCons (mC (.int 0)) (rt [])))) (rt []))))) (mCons (mTup (mCons (mC (.str "same")) (mCons (mTup (mCons (mC (.str "box")) (mCons (mC (.str "h")) (rt [])))) (mCons (mTup (mCons (mC (.str "number")) (mCons (mC (.int 1)) (rt [])))) (rt []))))) (rt []))))))
  (mRetD (mTup (mCons (mV 2) (mCons (mV 3) (mCons (mSl (mLst (mCons (mTup (mCons (mC (.str "see")) (mCons (mC (.int 1)) (mCons (mTup (mCons (mC (.str "box")) (mCons (mC (.str "h")) (rt [])))) (rt []))))) (rt []))) (rt none) (mPart (mCall f_L_take [some 0, none] (mCons (mMv 0) (mCons (mFr (mC (.int 2))) (rt [])))))) (mCons (mV 8) (mCons (mV 9) (rt [])))))))))))))))
def f_L_world : List W → Out W := runF (fun i => i == 0) 2 8 m_L_world
theorem sc_L_world : FnScope ["well", "more", "boxes", "deeds", "name", "size", "one", "two", "begin", "goal"] ["well", "more"] (defScope s_L_world) := ⟨rfl, rfl, rfl, by decide +kernel, rfl, by decide +kernel, by decide +kernel⟩
theorem k_L_world (Tx : TxT K mg) (T : DefT K mg "_law_world" "_law_world" s_L_world ["well", "more"]) (d_L_take : DefOk P w K mg base 1 "_law_take" 2 f_L_take) : DefOk P w K mg base 2 "_law_world" 2 f_L_world :=
  def_ok T sc_L_world (by decide) fun f cdv A outer s H E hr => by
  have hu := hr.units
  have nd := sc_L_world.nd
  exact (s_cons (s_set (i := 2) nd rfl (.inl rfl) rfl (e_lst (a_cons (e_tup (a_cons e_str (a_cons e_int a_nil))) (a_cons (e_tup (a_cons e_str (a_cons e_int a_nil))) (a_cons (e_tup (a_cons e_str (a_cons e_int a_nil))) (a_cons (e_tup (a_cons e_str (a_cons e_int a_nil))) a_nil))))))
  (s_cons (s_set (i := 3) nd rfl (.inl rfl) rfl (e_lst a_nil))
  (s_cons (s_for (passes_of rfl) rfl (i_seq (e_sl (e_v (pv 2)) (o_some (b_of e_int)) o_none)) (g_tup rfl (gs_cons (i := 4) nd rfl (.inl rfl) rfl (gs_cons (i := 5) nd rfl (.inl rfl) rfl gs_nil)) rfl)
  (s_cons (s_set (i := 6) nd rfl (.inl rfl) rfl (e_lst (a_cons (e_tup (a_cons (e_v (pv 4)) (a_cons (e_tup (a_cons e_str (a_cons (e_tup (a_cons e_str (a_cons (e_v (pv 4)) a_nil))) (a_cons (e_tup (a_cons e_str (a_cons e_int a_nil))) a_nil)))) a_nil))) a_nil)))
  (s_cons (s_set (i := 7) nd rfl (.inl rfl) rfl (e_lst (a_cons (e_tup (a_cons (e_v (pv 4)) (a_cons (e_tup (a_cons e_str (a_cons (e_tup (a_cons e_str (a_cons (e_v (pv 4)) a_nil))) (a_cons (e_tup (a_cons e_str (a_cons e_str a_nil))) a_nil)))) a_nil))) a_nil)))
  (s_cons (s_expr (e_ins (pe_bm PySem.F.plainAttrs_list PySem.F.slot_list_insert PySem.F.type_list_insert mt_insert (pv 3) (pa_cons (e_callD d_L_take hr (by decide) rfl (takes_of rfl rfl rfl rfl) rfl (ac_m (pv 0) (ac_d (e_bin or_add o2_add (e_callB call_len o1_len rfl Tx.n_len (by decide +kernel) (b_v (pv 3))) (b_of e_int)) ac_nil))) (pa_cons (e_tup (a_cons (e_bin or_add o2_add e_str (b_v (pv 4))) (a_cons (e_bin or_add o2_add e_int (b_of (e_callD d_L_take hr (by decide) rfl (takes_of rfl rfl rfl rfl) rfl (ac_m (pv 0) (ac_d e_int ac_nil))))) (a_cons (e_tup (a_cons e_str a_nil)) (a_cons (e_lst (a_cons (e_v (pv 6)) a_nil)) a_nil))))) pa_nil)))))
  (s_one (s_expr (e_ins (pe_bm PySem.F.plainAttrs_list PySem.F.slot_list_insert PySem.F.type_list_insert mt_insert (pv 3) (pa_cons (e_callD d_L_take hr (by decide) rfl (takes_of rfl rfl rfl rfl) rfl (ac_m (pv 0) (ac_d (e_bin or_add o2_add (e_callB call_len o1_len rfl Tx.n_len (by decide +kernel) (b_v (pv 3))) (b_of e_int)) ac_nil))) (pa_cons (e_tup (a_cons (e_bin or_add o2_add e_str (b_v (pv 4))) (a_cons (e_bin or_add o2_add e_int (b_of (e_callD d_L_take hr (by decide) rfl (takes_of rfl rfl rfl rfl) rfl (ac_m (pv 0) (ac_d e_int ac_nil))))) (a_cons (e_tup (a_cons e_str a_nil)) (a_cons (e_lst (a_cons (e_v (pv 7)) a_nil)) a_nil))))) pa_nil))))))))))
  (s_cons (s_if (t_val (e_v (pv 1)))
  (s_one (s_expr (e_mthP mth_append (pe_bm PySem.F.plainAttrs_list PySem.F.slot_list_append PySem.F.type_list_append mt_append (h_q hu (h_e hu (h_v (pv 3)) (e_callD d_L_take hr (by decide) rfl (takes_of rfl rfl rfl rfl) rfl (ac_m (pv 0) (ac_d e_int ac_nil))) (fun _ _ => rfl)) q_int (fun _ _ => rfl)) (pa_cons (e_lst a_nil) pa_nil)))))
  s_nil)
  (s_cons (s_set (i := 8) nd rfl (.inl rfl) rfl (e_tup (a_cons e_str (a_cons (e_tup (a_cons e_str (a_cons (e_tup (a_cons e_str (a_cons e_str a_nil))) (a_cons (e_tup (a_cons e_str (a_cons e_int a_nil))) a_nil)))) (a_cons (e_tup (a_cons e_str (a_cons (e_tup (a_cons e_str (a_cons e_str a_nil))) (a_cons (e_tup (a_cons e_str (a_cons e_int a_nil))) a_nil)))) a_nil)))))
  (s_cons (s_set (i := 8) nd rfl (.inl rfl) rfl (e_tup (a_cons e_str (a_cons (e_v (pv 8)) (a_cons (e_tup (a_cons e_str (a_cons (e_tup (a_cons e_str (a_cons e_str a_nil))) (a_cons (e_tup (a_cons e_str (a_cons e_int a_nil))) a_nil)))) a_nil)))))
  (s_cons (s_set (i := 9) nd rfl (.inl rfl) rfl (e_tup (a_cons e_str (a_cons (e_tup (a_cons e_str (a_cons (e_tup (a_cons e_str (a_cons e_str a_nil))) (a_cons (e_tup (a_cons e_str (a_cons e_int a_nil))) a_nil)))) (a_cons (e_tup (a_cons e_str (a_cons (e_tup (a_cons e_str (a_cons e_str a_nil))) (a_cons (e_tup (a_cons e_str (a_cons e_int a_nil))) a_nil)))) a_nil)))))
  (s_one (s_retD (e_tup (a_cons (e_v (pv 2)) (a_cons (e_v (pv 3)) (a_cons (e_sl (e_lst (a_cons (e_tup (a_cons e_str (a_cons e_int (a_cons (e_tup (a_cons e_str (a_cons e_str a_nil))) a_nil)))) a_nil)) o_none (o_some (b_of (e_callD d_L_take hr (by decide) rfl (takes_of rfl rfl rfl rfl) rfl (ac_m (pv 0) (ac_d e_int ac_nil)))))) (a_cons (e_v (pv 8)) (a_cons (e_v (pv 9)) a_nil)))))))))))))))
/-! law -/
abbrev s_law : Stmt := topS 77
def b_law_1 : ER W := (mBin fIxS (mFr (mLst (mCons (mC (.str "onea")) (mCons (mC (.str "twob")) (mCons (mC (.str "onec")) (rt [])))))) (mCall f_L_take [some 3, none] (mCons (mMv 3) (mCons (mFr (mC (.int 3))) (rt [])))))
def b_law_2 : ER W := (mBinV fEq 9 (mC (.int 3)))
def b_law_3 : ER W := (mBinV fEq 9 (mC (.int 3)))
def b_law_4 : ER W := (mBinV fEq 9 (mC (.int 6)))
def b_law_5 : ER W := (mBinV fEq 9 (mC (.int 5)))
def b_law_6 : ER Fl := (mSeq (mIfS (mTest (mBin fNe (mCall f_L_asked [none, none, none] (mCons (mFr (mV 7)) (mCons (mFr (mV 2)) (mCons (mFr (mV 6)) (rt []))))) (mLc (mRange1 (mC (.int 10))) (tName 9) [9] (rt true) b_law_4)))
  (mRetD (mC (.bl false)))
  mNx)
  (mIfS (mTest (mBin fNe (mCall f_L_asked [none, none, none] (mCons (mFr (mV 7)) (mCons (mFr (mCall f_L_world [some 1, none] (mCons (mMv 1) (mCons (mFr (mC (.bl true))) (rt []))))) (mCons (mFr (mV 6)) (rt []))))) (mLc (mRange1 (mC (.int 10))) (tName 9) [9] (rt true) b_law_5)))
  (mRetD (mC (.bl false)))
  mNx))
def m_law : ER Fl := (mSeq (mAsg 1 (mCall f_L_well [none] (mCons (mFr (mCall f_L_cell [none, none] (mCons (mFr (mV 0)) (mCons (mFr (mC (.int 0))) (rt []))))) (rt []))))
  (mSeq (mAsg 2 (mCall f_L_world [some 1, none] (mCons (mMv 1) (mCons (mFr (mC (.bl false))) (rt [])))))
  (mSeq (mAsg 3 (mCall f_L_well [none] (mCons (mFr (mCall f_L_cell [none, none] (mCons (mFr (mV 0)) (mCons (mFr (mC (.int 1))) (rt []))))) (rt []))))
  (mSeq (mAsg 4 (mBin fIxS (mFr (mLst (mCons (mBin fAdd (mC (.str "onea")) (mBin fMul (mC (.str "x")) (mBin fAdd (mC (.int 1)) (mCall f_L_take [some 3, none] (mCons (mMv 3) (mCons (mFr (mC (.int 3))) (rt []))))))) (mCons (mC (.str "one")) (mCons (mC (.str "nobody")) (mCons (mC (.str "h")) (mCons (mC (.str "a")) (mCons (mC (.str "seen")) (mCons (mC (.str "twod")) (rt [])))))))))) (mCall f_L_take [some 3, none] (mCons (mMv 3) (mCons (mFr (mC (.int 7))) (rt []))))))
  (mSeq (mAsg 5 (mLc (mRange1 (mCall f_L_take [some 3, none] (mCons (mMv 3) (mCons (mFr (mC (.int 9))) (rt []))))) (tName 8) [8] (rt true) b_law_1))
  (mSeq (mDrop (mIns 5 (mCall f_L_take [some 3, none] (mCons (mMv 3) (mCons (mFr (mBin fAdd (m1 fLen0 (mBv 5)) (mC (.int 1)))) (rt [])))) (mV 4)))
  (mSeq (mAsg 6 (mBin fIxS (mFr (mLst (mCons (mBin fIxS (mFr (mLst (mCons (mLst (mCons (mC (.int 3)) (rt []))) (mCons (mLst (mCons (mC (.int 3)) (mCons (mC (.int 4)) (mCons (mC (.int 5)) (rt []))))) (mCons (mLst (rt [])) (rt [])))))) (mCall f_L_take [some 3, none] (mCons (mMv 3) (mCons (mFr (mC (.int 3))) (rt []))))) (mCons (mLst (mCons (mC (.int 1)) (mCons (mBin fSub (mC (.int 0)) (mCall f_L_take [some 3, none] (mCons (mMv 3) (mCons (mFr (mC (.int 9))) (rt []))))) (rt [])))) (rt []))))) (mCall f_L_take [some 3, none] (mCons (mMv 3) (mCons (mFr (mC (.int 2))) (rt []))))))
  (mSeq (mIfS (mTest (mBin fEq (mCall f_L_take [some 3, none] (mCons (mMv 3) (mCons (mFr (mC (.int 2))) (rt [])))) (mC (.int 1))))
  (mAsg 6 (mRev (mBv 6)))
  mNx)
  (mSeq (mIfS (mTest (mBin fNe (mCall f_L_asked [none, none, none] (mCons (mFr (mC (.int 0))) (mCons (mFr (mV 2)) (mCons (mFr (mV 4)) (rt []))))) (mLc (mRange1 (mC (.int 10))) (tName 9) [9] (rt true) b_law_2)))
  (mRetD (mC (.bl false)))
  mNx)
  (mSeq (mIfS (mTest (mBin fNe (mCall f_L_asked [none, none, none] (mCons (mFr (mC (.int 1))) (mCons (mFr (mV 2)) (mCons (mFr (mV 5)) (rt []))))) (mLc (mRange1 (mC (.int 10))) (tName 9) [9] (rt true) b_law_3)))
  (mRetD (mC (.bl false)))
  mNx)
  (mSeq (mFor (mSeqD (mLst (mCons (mC (.int 2)) (mCons (mC (.int 3)) (rt []))))) (tName 7) b_law_6)
  (mRetD (mC (.bl true))))))))))))))
def f_law : List W → Out W := runF (fun _ => false) 1 9 m_law
theorem sc_law : FnScope ["script", "well", "world", "own", "name", "row", "weights", "door", "turn", "k"] ["script"] (defScope s_law) := ⟨rfl, rfl, rfl, by decide +kernel, rfl, by decide +kernel, by decide +kernel⟩
theorem k_law {f : Addr} {fd : FuncData} (Tx : TxT K mg) (F : Fun K "law" "law" s_law f fd) (d_L_asked : DefOk P w K mg base 8 "_law_asked" 3 f_L_asked) (d_L_cell : DefOk P w K mg base 1 "_law_cell" 2 f_L_cell) (d_L_take : DefOk P w K mg base 1 "_law_take" 2 f_L_take) (d_L_well : DefOk P w K mg base 1 "_law_well" 1 f_L_well) (d_L_world : DefOk P w K mg base 2 "_law_world" 2 f_L_world) : FnOk P w K mg base (L2.CX P w) 9 f fd ["script"] (spF ⟨P, w, K, mg⟩ f_law 1) :=
  fn_ok F sc_law (by decide) fun cdv A outer s H E hr => by
  have hu := hr.units
  have nd := sc_law.nd
  exact (s_cons (s_set (i := 1) nd rfl (.inl rfl) rfl (e_callD d_L_well hr (by decide) rfl (takes_of rfl rfl rfl rfl) rfl (ac_d (e_callD d_L_cell hr (by decide) rfl (takes_of rfl rfl rfl rfl) rfl (ac_d (e_v (pv 0)) (ac_d e_int ac_nil))) ac_nil)))
  (s_cons (s_set (i := 2) nd rfl (.inl rfl) rfl (e_callD d_L_world hr (by decide) rfl (takes_of rfl rfl rfl rfl) rfl (ac_m (pv 1) (ac_d e_bl ac_nil))))
  (s_cons (s_set (i := 3) nd rfl (.inr rfl) rfl (e_callD d_L_well hr (by decide) rfl (takes_of rfl rfl rfl rfl) rfl (ac_d (e_callD d_L_cell hr (by decide) rfl (takes_of rfl rfl rfl rfl) rfl (ac_d (e_v (pv 0)) (ac_d e_int ac_nil))) ac_nil)))
  (s_cons (s_set (i := 4) nd rfl (.inl rfl) rfl (e_ix hu (e_fr (e_lst (a_cons (e_bin or_add o2_add e_str (b_of (e_bin or_mul o2_mul e_str (b_of (e_bin or_add o2_add e_int (b_of (e_callD d_L_take hr (by decide) rfl (takes_of rfl rfl rfl rfl) rfl (ac_m (pv 3) (ac_d e_int ac_nil))))))))) (a_cons e_str (a_cons e_str (a_cons e_str (a_cons e_str (a_cons e_str (a_cons e_str a_nil))))))))) (b_of (e_callD d_L_take hr (by decide) rfl (takes_of rfl rfl rfl rfl) rfl (ac_m (pv 3) (ac_d e_int ac_nil)))) (fun _ _ => rfl)))
  (s_cons (s_setLc rfl (ti_name (by decide)) (ps_setLc (i := 5) rfl nd rfl rfl rfl (i_range1 rfl Tx.n_range (b_of (e_callD d_L_take hr (by decide) rfl (takes_of rfl rfl rfl rfl) rfl (ac_m (pv 3) (ac_d e_int ac_nil))))) (own := [("turn", 8)]) (show BlkOk ["script", "well", "world", "own", "name", "row", "weights", "door", "turn", "k"] (defScope s_law) _ [("turn", 8)] from ⟨rfl, by decide +kernel, by decide +kernel, by decide +kernel, by decide +kernel⟩) (fun _ _ _ _ _ => pg_name (i := 8) nd rfl (.inl rfl)) (fun _ _ _ _ _ => p_yes) (fun _ _ _ _ _ => (e_ix hu (e_fr (e_lst (a_cons e_str (a_cons e_str (a_cons e_str a_nil))))) (b_of (e_callD d_L_take hr (by decide) rfl Fp.takes0 rfl (ac_m (pv 3) (ac_d e_int ac_nil)))) (fun _ _ => rfl)))))
  (s_cons (s_expr (e_ins (pe_bm PySem.F.plainAttrs_list PySem.F.slot_list_insert PySem.F.type_list_insert mt_insert (pv 5) (pa_cons (e_callD d_L_take hr (by decide) rfl (takes_of rfl rfl rfl rfl) rfl (ac_m (pv 3) (ac_d (e_bin or_add o2_add (e_callB call_len o1_len rfl Tx.n_len (by decide +kernel) (b_v (pv 5))) (b_of e_int)) ac_nil))) (pa_cons (e_v (pv 4)) pa_nil)))))
  (s_cons (s_set (i := 6) nd rfl (.inl rfl) rfl (e_ix hu (e_fr (e_lst (a_cons (e_ix hu (e_fr (e_lst (a_cons (e_lst (a_cons e_int a_nil)) (a_cons (e_lst (a_cons e_int (a_cons e_int (a_cons e_int a_nil)))) (a_cons (e_lst a_nil) a_nil))))) (b_of (e_callD d_L_take hr (by decide) rfl (takes_of rfl rfl rfl rfl) rfl (ac_m (pv 3) (ac_d e_int ac_nil)))) (fun _ _ => rfl)) (a_cons (e_lst (a_cons e_int (a_cons (e_bin op_sub o2_sub e_int (b_of (e_callD d_L_take hr (by decide) rfl (takes_of rfl rfl rfl rfl) rfl (ac_m (pv 3) (ac_d e_int ac_nil))))) a_nil))) a_nil)))) (b_of (e_callD d_L_take hr (by decide) rfl (takes_of rfl rfl rfl rfl) rfl (ac_m (pv 3) (ac_d e_int ac_nil)))) (fun _ _ => rfl)))
  (s_cons (s_if (t_cmp (or_eq hu) o2_eq (e_callD d_L_take hr (by decide) rfl (takes_of rfl rfl rfl rfl) rfl (ac_m (pv 3) (ac_d e_int ac_nil))) (b_of e_int) rfl)
  (s_one (s_set (i := 6) nd rfl (.inl rfl) rfl (e_rev (b_v (pv 6)))))
  s_nil)
  (s_cons (s_if (t_cmp (or_ne hu) o2_ne (e_callD d_L_asked hr (by decide) rfl (takes_of rfl rfl rfl rfl) rfl (ac_d e_int (ac_d (e_v (pv 2)) (ac_d (e_v (pv 4)) ac_nil)))) (b_of (e_lc (ti_name (by decide)) (pe_lc rfl nd (i_range1 rfl Tx.n_range (b_of e_int)) (own := [("k", 9)]) (show BlkOk ["script", "well", "world", "own", "name", "row", "weights", "door", "turn", "k"] (defScope s_law) _ [("k", 9)] from ⟨rfl, by decide +kernel, by decide +kernel, by decide +kernel, by decide +kernel⟩) (fun _ _ _ _ _ => pg_name (i := 9) nd rfl (.inl rfl)) (fun _ _ _ _ _ => p_yes) (fun _ _ _ _ _ => (e_cmpV (or_eq hu) o2_eq (pv 9) (b_of e_int) rfl))))) rfl)
  (s_one (s_retD e_bl))
  s_nil)
  (s_cons (s_if (t_cmp (or_ne hu) o2_ne (e_callD d_L_asked hr (by decide) rfl (takes_of rfl rfl rfl rfl) rfl (ac_d e_int (ac_d (e_v (pv 2)) (ac_d (e_v (pv 5)) ac_nil)))) (b_of (e_lc (ti_name (by decide)) (pe_lc rfl nd (i_range1 rfl Tx.n_range (b_of e_int)) (own := [("k", 9)]) (show BlkOk ["script", "well", "world", "own", "name", "row", "weights", "door", "turn", "k"] (defScope s_law) _ [("k", 9)] from ⟨rfl, by decide +kernel, by decide +kernel, by decide +kernel, by decide +kernel⟩) (fun _ _ _ _ _ => pg_name (i := 9) nd rfl (.inl rfl)) (fun _ _ _ _ _ => p_yes) (fun _ _ _ _ _ => (e_cmpV (or_eq hu) o2_eq (pv 9) (b_of e_int) rfl))))) rfl)
  (s_one (s_retD e_bl))
  s_nil)
  (s_cons (s_for (passes_of rfl) rfl (i_seq (e_lst (a_cons e_int (a_cons e_int a_nil)))) (g_name (i := 7) nd rfl (.inl rfl) rfl)
  (s_cons (s_if (t_cmp (or_ne hu) o2_ne (e_callD d_L_asked hr (by decide) rfl (takes_of rfl rfl rfl rfl) rfl (ac_d (e_v (pv 7)) (ac_d (e_v (pv 2)) (ac_d (e_v (pv 6)) ac_nil)))) (b_of (e_lc (ti_name (by decide)) (pe_lc rfl nd (i_range1 rfl Tx.n_range (b_of e_int)) (own := [("k", 9)]) (show BlkOk ["script", "well", "world", "own", "name", "row", "weights", "door", "turn", "k"] (defScope s_law) _ [("k", 9)] from ⟨rfl, by decide +kernel, by decide +kernel, by decide +kernel, by decide +kernel⟩) (fun _ _ _ _ _ => pg_name (i := 9) nd rfl (.inl rfl)) (fun _ _ _ _ _ => p_yes) (fun _ _ _ _ _ => (e_cmpV (or_eq hu) o2_eq (pv 9) (b_of e_int) rfl))))) rfl)
  (s_one (s_retD e_bl))
  s_nil)
  (s_one (s_if (t_cmp (or_ne hu) o2_ne (e_callD d_L_asked hr (by decide) rfl (takes_of rfl rfl rfl rfl) rfl (ac_d (e_v (pv 7)) (ac_d (e_callD d_L_world hr (by decide) rfl (takes_of rfl rfl rfl rfl) rfl (ac_m (pv 1) (ac_d e_bl ac_nil))) (ac_d (e_v (pv 6)) ac_nil)))) (b_of (e_lc (ti_name (by decide)) (pe_lc rfl nd (i_range1 rfl Tx.n_range (b_of e_int)) (own := [("k", 9)]) (show BlkOk ["script", "well", "world", "own", "name", "row", "weights", "door", "turn", "k"] (defScope s_law) _ [("k", 9)] from ⟨rfl, by decide +kernel, by decide +kernel, by decide +kernel, by decide +kernel⟩) (fun _ _ _ _ _ => pg_name (i := 9) nd rfl (.inl rfl)) (fun _ _ _ _ _ => p_yes) (fun _ _ _ _ _ => (e_cmpV (or_eq hu) o2_eq (pv 9) (b_of e_int) rfl))))) rfl)
  (s_one (s_retD e_bl))
  s_nil))))
  (s_one (s_retD e_bl)))))))))))))
end
end K96


set_option Elab.async false
set_option linter.all false
set_option maxRecDepth 100000
set_option maxHeartbeats 4000000
namespace K96
open PySem PySem.Spec L2 Fp
open PyProof.Rows hiding St
theorem cell_ok (ns : List Int) (k : Nat) : ∃ c, f_L_cell [.sh (intsD ns), .sh (.int k)] = .ok (.sh (.int c)) [.mov, .mov] := by
  unfold f_L_cell runF m_L_cell intsD
  by_cases h : k < ns.length
  · refine ⟨ns[k], ?_⟩
    have h' : ((k : Int) < (ns.length : Int)) := by omega
    repeat simp only [rt_ap, bad_ap, mC_ap, mG_ap, mV_ap, mMv_ap, mBv_ap, mSh_ap, mFr_ap, mBin_ap, mBinV_ap, m1_ap, mTest_ap, mIsN_ap, mIxQ_ap, mCons_ap, mTup_ap, mLst_ap, mIf_ap, mAnd_ap, mOr_ap, mNot_ap, mSeq_ap, mNx_ap, mAsg_ap, mDrop_ap, mRet_ap, mRetD_ap, mIfS_ap, mCall_ap, mRaise_ap, mSetV_ap, mMth_ap, mIns_ap, mSeqD_ap, mRange1_ap, mPart_ap, mSl_ap, mAsgT_ap, mFor_ap, mTry_ap, mMthP_ap, mM1_ap, mHv_ap, mHq_ap, mHe_ap, qV_ap, qC_ap, tName_ap, opt_some, opt_none, List.getElem?_cons_zero, List.getElem?_cons_succ, List.set_cons_zero, List.set_cons_succ, List.replicate, List.append_nil, List.cons_append, List.nil_append, Option.map_some, Option.map_none, Option.bind_some, Option.bind_none, data_sh, fIx_lst, fIx_tup, fIx_wl, fIx_wt, fLen_lst, fLen_tup, fLen_wl, fAdd_int, fSub_int, fLt_int, fLe_int, fGt_int, fGe_int, finA, Bool.false_eq_true, if_true, if_false, ite_true, ite_false, List.length_map, List.length_cons, List.length_nil, decide_eq_true_eq, restore, Nat.reduceAdd, Nat.reduceLT, Nat.reduceLeDiff, Int.reduceToNat, Int.reduceLE, Int.reduceLT, Int.reduceAdd, Int.reduceNeg, Nat.zero_add, reduceIte, decide_true, decide_false, Nat.reduceSub, and_self, and_true, true_and, h', atI_of (Int.natCast_nonneg k), Int.toNat_natCast, List.getElem?_map, List.getElem?_eq_getElem h]
  · refine ⟨0, ?_⟩
    have h' : ¬ ((k : Int) < (ns.length : Int)) := by omega
    repeat simp only [rt_ap, bad_ap, mC_ap, mG_ap, mV_ap, mMv_ap, mBv_ap, mSh_ap, mFr_ap, mBin_ap, mBinV_ap, m1_ap, mTest_ap, mIsN_ap, mIxQ_ap, mCons_ap, mTup_ap, mLst_ap, mIf_ap, mAnd_ap, mOr_ap, mNot_ap, mSeq_ap, mNx_ap, mAsg_ap, mDrop_ap, mRet_ap, mRetD_ap, mIfS_ap, mCall_ap, mRaise_ap, mSetV_ap, mMth_ap, mIns_ap, mSeqD_ap, mRange1_ap, mPart_ap, mSl_ap, mAsgT_ap, mFor_ap, mTry_ap, mMthP_ap, mM1_ap, mHv_ap, mHq_ap, mHe_ap, qV_ap, qC_ap, tName_ap, opt_some, opt_none, List.getElem?_cons_zero, List.getElem?_cons_succ, List.set_cons_zero, List.set_cons_succ, List.replicate, List.append_nil, List.cons_append, List.nil_append, Option.map_some, Option.map_none, Option.bind_some, Option.bind_none, data_sh, fIx_lst, fIx_tup, fIx_wl, fIx_wt, fLen_lst, fLen_tup, fLen_wl, fAdd_int, fSub_int, fLt_int, fLe_int, fGt_int, fGe_int, finA, Bool.false_eq_true, if_true, if_false, ite_true, ite_false, List.length_map, List.length_cons, List.length_nil, decide_eq_true_eq, restore, Nat.reduceAdd, Nat.reduceLT, Nat.reduceLeDiff, Int.reduceToNat, Int.reduceLE, Int.reduceLT, Int.reduceAdd, Int.reduceNeg, Nat.zero_add, reduceIte, decide_true, decide_false, Nat.reduceSub, and_self, and_true, true_and, h']
def isWell (w : W) : Prop := ∃ a b : Int, w = .lst [.sh (.int a), .sh (.int b)] ∧ 0 ≤ a ∧ 0 ≤ b ∧ b < 2147483647
theorem well_ok (c : Int) : ∃ w, f_L_well [.sh (.int c)] = .ok w [.mov] ∧ isWell w := by
  unfold f_L_well runF m_L_well
  have p : fPow (.sh (.int 10)) (.sh (.int 18)) = some (.sh (.int 1000000000000000000)) := by kernel_rfl
  have q : fMod (.sh (.int c)) (.sh (.int 2147483647)) = some (.sh (.int (c % 2147483647))) := fMod_int (by decide)
  by_cases h : 1000000000000000000 ≤ c
  · refine ⟨.lst [.sh (.int c), .sh (.int (c % 2147483647))], ?_, _, _, rfl, by omega, by omega, by omega⟩
    repeat simp only [rt_ap, bad_ap, mC_ap, mG_ap, mV_ap, mMv_ap, mBv_ap, mSh_ap, mFr_ap, mBin_ap, mBinV_ap, m1_ap, mTest_ap, mIsN_ap, mIxQ_ap, mCons_ap, mTup_ap, mLst_ap, mIf_ap, mAnd_ap, mOr_ap, mNot_ap, mSeq_ap, mNx_ap, mAsg_ap, mDrop_ap, mRet_ap, mRetD_ap, mIfS_ap, mCall_ap, mRaise_ap, mSetV_ap, mMth_ap, mIns_ap, mSeqD_ap, mRange1_ap, mPart_ap, mSl_ap, mAsgT_ap, mFor_ap, mTry_ap, mMthP_ap, mM1_ap, mHv_ap, mHq_ap, mHe_ap, qV_ap, qC_ap, tName_ap, opt_some, opt_none, List.getElem?_cons_zero, List.getElem?_cons_succ, List.set_cons_zero, List.set_cons_succ, List.replicate, List.append_nil, List.cons_append, List.nil_append, Option.map_some, Option.map_none, Option.bind_some, Option.bind_none, data_sh, fIx_lst, fIx_tup, fIx_wl, fIx_wt, fLen_lst, fLen_tup, fLen_wl, fAdd_int, fSub_int, fLt_int, fLe_int, fGt_int, fGe_int, finA, Bool.false_eq_true, if_true, if_false, ite_true, ite_false, List.length_map, List.length_cons, List.length_nil, decide_eq_true_eq, restore, Nat.reduceAdd, Nat.reduceLT, Nat.reduceLeDiff, Int.reduceToNat, Int.reduceLE, Int.reduceLT, Int.reduceAdd, Int.reduceNeg, Nat.zero_add, reduceIte, decide_true, decide_false, Nat.reduceSub, and_self, and_true, true_and, p, q, h]
    all_goals first | rfl | simp
  · refine ⟨.lst [.sh (.int 0), .sh (.int (c % 2147483647))], ?_, _, _, rfl, by omega, by omega, by omega⟩
    repeat simp only [rt_ap, bad_ap, mC_ap, mG_ap, mV_ap, mMv_ap, mBv_ap, mSh_ap, mFr_ap, mBin_ap, mBinV_ap, m1_ap, mTest_ap, mIsN_ap, mIxQ_ap, mCons_ap, mTup_ap, mLst_ap, mIf_ap, mAnd_ap, mOr_ap, mNot_ap, mSeq_ap, mNx_ap, mAsg_ap, mDrop_ap, mRet_ap, mRetD_ap, mIfS_ap, mCall_ap, mRaise_ap, mSetV_ap, mMth_ap, mIns_ap, mSeqD_ap, mRange1_ap, mPart_ap, mSl_ap, mAsgT_ap, mFor_ap, mTry_ap, mMthP_ap, mM1_ap, mHv_ap, mHq_ap, mHe_ap, qV_ap, qC_ap, tName_ap, opt_some, opt_none, List.getElem?_cons_zero, List.getElem?_cons_succ, List.set_cons_zero, List.set_cons_succ, List.replicate, List.append_nil, List.cons_append, List.nil_append, Option.map_some, Option.map_none, Option.bind_some, Option.bind_none, data_sh, fIx_lst, fIx_tup, fIx_wl, fIx_wt, fLen_lst, fLen_tup, fLen_wl, fAdd_int, fSub_int, fLt_int, fLe_int, fGt_int, fGe_int, finA, Bool.false_eq_true, if_true, if_false, ite_true, ite_false, List.length_map, List.length_cons, List.length_nil, decide_eq_true_eq, restore, Nat.reduceAdd, Nat.reduceLT, Nat.reduceLeDiff, Int.reduceToNat, Int.reduceLE, Int.reduceLT, Int.reduceAdd, Int.reduceNeg, Nat.zero_add, reduceIte, decide_true, decide_false, Nat.reduceSub, and_self, and_true, true_and, p, q, h]
    all_goals first | rfl | simp
theorem take_ok {w : W} {n : Int} (hw : isWell w) (hn : 0 < n) (hn2 : n < 1000) : ∃ r w', 0 ≤ r ∧ r < n ∧ isWell w' ∧ f_L_take [w, .sh (.int n)] = .ok (.sh (.int r)) [w', .mov] := by
  obtain ⟨a, b, rfl, ha, hb, hbM⟩ := hw
  unfold f_L_take runF m_L_take
  have m1 : ∀ x, fMod (.sh (.int x)) (.sh (.int n)) = some (.sh (.int (x % n))) := fun x => fMod_int hn
  have m2 : ∀ x, fMod (.sh (.int x)) (.sh (.int 2147483647)) = some (.sh (.int (x % 2147483647))) := fun x => fMod_int (by decide)
  have dv : ∀ x, fDiv (.sh (.int x)) (.sh (.int n)) = some (.sh (.int (x / n))) := fun x => fDiv_int ⟨hn, by
    have : n.natAbs < 2 ^ 10 := by omega
    exact Nat.lt_of_lt_of_le (PySem.Flt.log2_lt_of (by decide) this) (by decide)⟩
  have d7 : ∀ x, fDiv (.sh (.int x)) (.sh (.int 7)) = some (.sh (.int (x / 7))) := fun x => fDiv_int ⟨by decide, by decide⟩
  have mu : ∀ x y : Int, 0 ≤ x → x < 2147483647 → fMul (.sh (.int x)) (.sh (.int y)) = some (.sh (.int (x * y))) := fun x y h1 h2 => fMul_int (.inl ⟨by omega, by omega⟩)
  have i0 : ∀ x y : W, atI [x, y] 0 = some x := fun _ _ => rfl
  have i1 : ∀ x y : W, atI [x, y] 1 = some y := fun _ _ => rfl
  have s0 : ∀ x y z : W, fSet (.lst [x, y]) (.int 0) z = some (.lst [z, y]) := fun _ _ _ => rfl
  have s1 : ∀ x y z : W, fSet (.lst [x, y]) (.int 1) z = some (.lst [x, z]) := fun _ _ _ => rfl
  by_cases h : 0 < a
  · refine ⟨a % n, _, Int.emod_nonneg _ (by omega), Int.emod_lt_of_pos _ hn, ⟨a / n, b, rfl, Int.ediv_nonneg ha (by omega), hb, hbM⟩, ?_⟩
    repeat simp only [rt_ap, bad_ap, mC_ap, mG_ap, mV_ap, mMv_ap, mBv_ap, mSh_ap, mFr_ap, mBin_ap, mBinV_ap, m1_ap, mTest_ap, mIsN_ap, mIxQ_ap, mCons_ap, mTup_ap, mLst_ap, mIf_ap, mAnd_ap, mOr_ap, mNot_ap, mSeq_ap, mNx_ap, mAsg_ap, mDrop_ap, mRet_ap, mRetD_ap, mIfS_ap, mCall_ap, mRaise_ap, mSetV_ap, mMth_ap, mIns_ap, mSeqD_ap, mRange1_ap, mPart_ap, mSl_ap, mAsgT_ap, mFor_ap, mTry_ap, mMthP_ap, mM1_ap, mHv_ap, mHq_ap, mHe_ap, qV_ap, qC_ap, tName_ap, opt_some, opt_none, List.getElem?_cons_zero, List.getElem?_cons_succ, List.set_cons_zero, List.set_cons_succ, List.replicate, List.append_nil, List.cons_append, List.nil_append, Option.map_some, Option.map_none, Option.bind_some, Option.bind_none, data_sh, fIx_lst, fIx_tup, fIx_wl, fIx_wt, fLen_lst, fLen_tup, fLen_wl, fAdd_int, fSub_int, fLt_int, fLe_int, fGt_int, fGe_int, finA, Bool.false_eq_true, if_true, if_false, ite_true, ite_false, List.length_map, List.length_cons, List.length_nil, decide_eq_true_eq, restore, Nat.reduceAdd, Nat.reduceLT, Nat.reduceLeDiff, Int.reduceToNat, Int.reduceLE, Int.reduceLT, Int.reduceAdd, Int.reduceNeg, Nat.zero_add, reduceIte, decide_true, decide_false, Nat.reduceSub, and_self, and_true, true_and, m1, m2, dv, i0, i1, s0, s1, h]
    all_goals first | rfl | simp
  · have hb2 : 0 ≤ (b * 48271 + 11) % 2147483647 := by omega
    have hb3 : (b * 48271 + 11) % 2147483647 < 2147483647 := by omega
    refine ⟨((b * 48271 + 11) % 2147483647 * ((b * 48271 + 11) % 2147483647) % 2147483647 / 7) % n, _, Int.emod_nonneg _ (by omega), Int.emod_lt_of_pos _ hn, ⟨a, (b * 48271 + 11) % 2147483647, rfl, ha, hb2, hb3⟩, ?_⟩
    repeat simp only [rt_ap, bad_ap, mC_ap, mG_ap, mV_ap, mMv_ap, mBv_ap, mSh_ap, mFr_ap, mBin_ap, mBinV_ap, m1_ap, mTest_ap, mIsN_ap, mIxQ_ap, mCons_ap, mTup_ap, mLst_ap, mIf_ap, mAnd_ap, mOr_ap, mNot_ap, mSeq_ap, mNx_ap, mAsg_ap, mDrop_ap, mRet_ap, mRetD_ap, mIfS_ap, mCall_ap, mRaise_ap, mSetV_ap, mMth_ap, mIns_ap, mSeqD_ap, mRange1_ap, mPart_ap, mSl_ap, mAsgT_ap, mFor_ap, mTry_ap, mMthP_ap, mM1_ap, mHv_ap, mHq_ap, mHe_ap, qV_ap, qC_ap, tName_ap, opt_some, opt_none, List.getElem?_cons_zero, List.getElem?_cons_succ, List.set_cons_zero, List.set_cons_succ, List.replicate, List.append_nil, List.cons_append, List.nil_append, Option.map_some, Option.map_none, Option.bind_some, Option.bind_none, data_sh, fIx_lst, fIx_tup, fIx_wl, fIx_wt, fLen_lst, fLen_tup, fLen_wl, fAdd_int, fSub_int, fLt_int, fLe_int, fGt_int, fGe_int, finA, Bool.false_eq_true, if_true, if_false, ite_true, ite_false, List.length_map, List.length_cons, List.length_nil, decide_eq_true_eq, restore, Nat.reduceAdd, Nat.reduceLT, Nat.reduceLeDiff, Int.reduceToNat, Int.reduceLE, Int.reduceLT, Int.reduceAdd, Int.reduceNeg, Nat.zero_add, reduceIte, decide_true, decide_false, Nat.reduceSub, and_self, and_true, true_and, m1, m2, dv, d7, mu b _ hb hbM, mu _ _ hb2 hb3, i0, i1, s0, s1, h]
    all_goals first | rfl | simp
end K96

set_option Elab.async false
set_option linter.all false
set_option maxRecDepth 100000
set_option maxHeartbeats 4000000
namespace K96
open PySem PySem.Spec L2 Fp
open PyProof.Rows hiding St
def GW (a b : Int) : Prop := 0 ≤ a ∧ 0 ≤ b ∧ b < 2147483647
theorem take2 {a b : Int} (n : Int) (h : GW a b) (hn : 0 < n) (hn2 : n < 1000) : ∃ r a' b', 0 ≤ r ∧ r < n ∧ GW a' b' ∧ f_L_take [.lst [.sh (.int a), .sh (.int b)], .sh (.int n)] = .ok (.sh (.int r)) [.lst [.sh (.int a'), .sh (.int b')], .mov] := by
  obtain ⟨r, w', h1, h2, ⟨a', b', rfl, h3⟩, e⟩ := take_ok (w := .lst [.sh (.int a), .sh (.int b)]) ⟨a, b, rfl, h⟩ hn hn2
  exact ⟨r, a', b', h1, h2, h3, e⟩
def wayA (x : Str) : D := .lst [.tup [.str x, .tup [.str "plus", .tup [.str "box", .str x], .tup [.str "number", .int 1]]]]
def wayB (x : Str) : D := .lst [.tup [.str x, .tup [.str "plus", .tup [.str "box", .str x], .tup [.str "box", .str "h"]]]]
def deedW (nm : Str) (p : Int) (ways : List W) : W := .tup [.sh (.str nm), .sh (.int p), .sh (.tup [.str "yes"]), .lst ways]
def deedD (nm : Str) (p : Int) (ways : List D) : D := .tup [.str nm, .int p, .tup [.str "yes"], .lst ways]
theorem ins_perm {α : Type} (l : List α) (k : Nat) (x : α) : (l.take k ++ [x] ++ l.drop k).Perm (x :: l) := by
  have h : (l.take k ++ ([x] ++ l.drop k)).Perm ([x] ++ (l.take k ++ l.drop k)) := List.perm_append_comm_assoc ..
  rw [List.take_append_drop] at h
  rw [List.append_assoc]
  exact h
theorem fAdd_str {a b : Str} (h : a.length + b.length ≤ sizeLine) : fAdd (.sh (.str a)) (.sh (.str b)) = some (.sh (.str (a ++ b))) := by
  unfold fAdd iop catS
  simp [h]
theorem sz : (1000 : Nat) ≤ sizeLine := by show 1000 ≤ sizeLine; decide
theorem body_ok {a b : Int} {m bx e4 e5 e6 e7 e8 e9 : W} {l : List W} {x : Str} {z : Int} (hw : GW a b) (hl : l.length < 900) (hx : x.length < 10) : ∃ a' b' p1 p2 l', GW a' b' ∧
    mTurn (Fp.tTup [4, 5]) b_L_world_1 (.tup [.str x, .int z]) [.lst [.sh (.int a), .sh (.int b)], m, bx, .lst l, e4, e5, e6, e7, e8, e9] = .ok .nx [.lst [.sh (.int a'), .sh (.int b')], m, bx, .lst l', .sh (.str x), .sh (.int z), .sh (wayA x), .sh (wayB x), e8, e9] ∧
    l'.Perm (deedW ("two" ++ x) p2 [.sh (wayB x)] :: deedW ("one" ++ x) p1 [.sh (wayA x)] :: l) := by
  obtain ⟨r1, a1, b1, h11, h12, g1, e1⟩ := take2 ((l.length : Int) + 1) hw (by omega) (by omega)
  obtain ⟨r2, a2, b2, h21, h22, g2, e2⟩ := take2 99 g1 (by decide) (by decide)
  have hl1 : ∀ (k : Nat) (d : W), (l.take k ++ [d] ++ l.drop k).length = l.length + 1 := fun k d => (ins_perm l k d).length_eq
  obtain ⟨r3, a3, b3, h31, h32, g3, e3⟩ := take2 ((((l.take r1.toNat ++ [deedW ("one" ++ x) (1 + r2) [.sh (wayA x)]] ++ l.drop r1.toNat).length : Nat) : Int) + 1) g2 (by omega) (by rw [hl1]; omega)
  obtain ⟨r4, a4, b4, h41, h42, g4, e4'⟩ := take2 99 g3 (by decide) (by decide)
  have s1 : fAdd (.sh (.str "one")) (.sh (.str x)) = some (.sh (.str ("one" ++ x))) := fAdd_str (Nat.le_trans (by have : ("one" : Str).length = 3 := (by decide +kernel); omega) sz)
  have s2 : fAdd (.sh (.str "two")) (.sh (.str x)) = some (.sh (.str ("two" ++ x))) := fAdd_str (Nat.le_trans (by have : ("two" : Str).length = 3 := (by decide +kernel); omega) sz)
  have c1 : l.length < sizeLine ∧ 0 ≤ r1 ∧ r1 < 2 ^ 63 := ⟨Nat.lt_of_lt_of_le (by omega) sz, h11, by omega⟩
  have c2 : (l.take r1.toNat ++ [deedW ("one" ++ x) (1 + r2) [.sh (wayA x)]] ++ l.drop r1.toNat).length < sizeLine ∧ 0 ≤ r3 ∧ r3 < 2 ^ 63 := ⟨by rw [hl1]; exact Nat.lt_of_lt_of_le (by omega) sz, h31, by rw [hl1] at h32; omega⟩
  refine ⟨a4, b4, 1 + r2, 1 + r4, _, g4, ?_, (ins_perm _ r3.toNat _).trans ((ins_perm l r1.toNat _).cons _)⟩
  unfold deedW wayA wayB at *
  unfold b_L_world_1
  simp only [rt_ap, bad_ap, mC_ap, mG_ap, mV_ap, mMv_ap, mBv_ap, mSh_ap, mFr_ap, mBin_ap, mBinV_ap, m1_ap, mTest_ap, mIsN_ap, mIxQ_ap, mCons_ap, mTup_ap, mLst_ap, mIf_ap, mAnd_ap, mOr_ap, mNot_ap, mSeq_ap, mNx_ap, mAsg_ap, mDrop_ap, mRet_ap, mRetD_ap, mIfS_ap, mCall_ap, mRaise_ap, mSetV_ap, mMth_ap, mIns_ap, mSeqD_ap, mRange1_ap, mPart_ap, mSl_ap, mAsgT_ap, mFor_ap, mTry_ap, mMthP_ap, mM1_ap, mHv_ap, mHq_ap, mHe_ap, qV_ap, qC_ap, tName_ap, opt_some, opt_none, List.getElem?_cons_zero, List.getElem?_cons_succ, List.set_cons_zero, List.set_cons_succ, List.replicate, List.append_nil, List.cons_append, List.nil_append, Option.map_some, Option.map_none, Option.bind_some, Option.bind_none, data_sh, fIx_lst, fIx_tup, fIx_wl, fIx_wt, fLen_lst, fLen_tup, fLen_wl, fAdd_int, fSub_int, fLt_int, fLe_int, fGt_int, fGe_int, finA, Bool.false_eq_true, if_true, if_false, ite_true, ite_false, List.length_map, List.length_cons, List.length_nil, decide_eq_true_eq, restore, Nat.reduceAdd, Nat.reduceLT, Nat.reduceLeDiff, Int.reduceToNat, Int.reduceLE, Int.reduceLT, Int.reduceAdd, Int.reduceNeg, Nat.zero_add, reduceIte, decide_true, decide_false, Nat.reduceSub, and_self, and_true, true_and, mTurn_ap, Fp.tTup, Fp.tNames, e1, e2, e3, e4', s1, s2, c1, c2, shs, W.data, W.datas]


def boxesD : D := .lst [.tup [.str "h", .int 2], .tup [.str "a", .int 5], .tup [.str "b", .int 5], .tup [.str "c", .int 4]]
def sameD (x : Str) (n : Int) : D := .tup [.str "same", .tup [.str "box", .str x], .tup [.str "number", .int n]]
def beginD : D := .tup [.str "both", .tup [.str "both", sameD "a" 0, sameD "b" 0], sameD "c" 0]
def goalD : D := .tup [.str "both", sameD "h" 0, sameD "h" 1]
def seeD : D := .tup [.str "see", .int 1, .tup [.str "box", .str "h"]]
def six (p1 p2 p3 p4 p5 p6 : Int) : List W := [deedW ("two" ++ "c") p6 [.sh (wayB "c")], deedW ("one" ++ "c") p5 [.sh (wayA "c")], deedW ("two" ++ "b") p4 [.sh (wayB "b")], deedW ("one" ++ "b") p3 [.sh (wayA "b")],
  deedW ("two" ++ "a") p2 [.sh (wayB "a")], deedW ("one" ++ "a") p1 [.sh (wayA "a")]]
/-- a deed as data -/
def φ (w : W) : D := (W.data w).getD .non
theorem datas_of : ∀ {l : List W}, (∀ w ∈ l, ∃ d, W.data w = some d) → W.datas l = some (l.map φ)
  | [], _ => rfl
  | w :: l, h => by
    obtain ⟨d, e⟩ := h w List.mem_cons_self
    have ih := datas_of fun x hx => h x (List.mem_cons_of_mem _ hx)
    show (match W.data w, W.datas l with | some d, some ds => some (d :: ds) | _, _ => none) = _
    rw [e, ih]
    simp [φ, e]
theorem data_deed {nm : Str} {p : Int} {ds : List D} : W.data (deedW nm p (ds.map .sh)) = some (deedD nm p ds) := by
  have : ∀ ds : List D, W.datas (ds.map .sh) = some ds := by
    intro ds
    induction ds with
    | nil => rfl
    | cons d ds ih =>
      show (match W.data (.sh d), W.datas (ds.map .sh) with | some d, some ds => some (d :: ds) | _, _ => none) = _
      rw [ih]; rfl
  show (W.datas [_, _, _, _]).map D.tup = _
  show ((match W.data _, W.datas [_, _, _] with | some d, some ds => some (d :: ds) | _, _ => none) : Option (List D)).map D.tup = _
  have e : W.datas [.sh (.int p), .sh (.tup [.str "yes"]), .lst (ds.map .sh)] = some [.int p, .tup [.str "yes"], .lst ds] := by
    simp [W.datas, W.data, this]
  rw [e]; rfl
theorem len3 : ("a" : Str).length < 10 ∧ ("b" : Str).length < 10 ∧ ("c" : Str).length < 10 := by decide +kernel
theorem slBoxes : fSl (.sh boxesD) (some 1) none = some (.lst [.sh (.tup [.str "a", .int 5]), .sh (.tup [.str "b", .int 5]), .sh (.tup [.str "c", .int 4])]) := by kernel_rfl
theorem world_ok {a b : Int} (hw : GW a b) : ∃ a' b' ds looks p1 p2 p3 p4 p5 p6, GW a' b' ∧ f_L_world [.lst [.sh (.int a), .sh (.int b)], .sh (.bl false)] = .ok (.sh (.tup [boxesD, .lst ds, .lst looks, beginD, goalD])) [.lst [.sh (.int a'), .sh (.int b')], .mov] ∧
    (looks = [] ∨ looks = [seeD]) ∧ ds.Perm ((six p1 p2 p3 p4 p5 p6).map φ) := by
  obtain ⟨a1, b1, p1, p2, l1, g1, e1, q1⟩ := body_ok (a := a) (b := b) (m := .sh (.bl false)) (bx := .sh boxesD) (e4 := .mov) (e5 := .mov) (e6 := .mov) (e7 := .mov) (e8 := .mov) (e9 := .mov) (l := []) (x := "a") (z := 5) hw (by decide) len3.1
  have n1 : l1.length = 2 := q1.length_eq
  obtain ⟨a2, b2, p3, p4, l2, g2, e2, q2⟩ := body_ok (a := a1) (b := b1) (m := .sh (.bl false)) (bx := .sh boxesD) (e4 := .sh (.str "a")) (e5 := .sh (.int 5)) (e6 := .sh (wayA "a")) (e7 := .sh (wayB "a")) (e8 := .mov) (e9 := .mov) (l := l1) (x := "b") (z := 5) g1 (by omega) len3.2.1
  have n2 : l2.length = 4 := by rw [q2.length_eq]; simp [n1]
  obtain ⟨a3, b3, p5, p6, l3, g3, e3, q3⟩ := body_ok (a := a2) (b := b2) (m := .sh (.bl false)) (bx := .sh boxesD) (e4 := .sh (.str "b")) (e5 := .sh (.int 5)) (e6 := .sh (wayA "b")) (e7 := .sh (wayB "b")) (e8 := .mov) (e9 := .mov) (l := l2) (x := "c") (z := 4) g2 (by omega) len3.2.2
  have n3 : l3.length = 6 := by rw [q3.length_eq]; simp [n2]
  obtain ⟨r, a4, b4, h1, h2, g4, e4⟩ := take2 2 g3 (by decide) (by decide)
  have pp : l3.Perm (six p1 p2 p3 p4 p5 p6) := q3.trans (((q2.trans ((q1.cons _).cons _)).cons _).cons _)
  have hd : ∀ w ∈ l3, ∃ d, W.data w = some d := fun w hw => by
    have := pp.mem_iff.mp hw
    simp only [six, List.mem_cons, List.not_mem_nil, or_false] at this
    rcases this with rfl | rfl | rfl | rfl | rfl | rfl <;> exact ⟨_, data_deed (ds := [_])⟩
  refine ⟨a4, b4, l3.map φ, if r = 0 then [] else [seeD], p1, p2, p3, p4, p5, p6, g4, ?_, by split <;> simp, pp.map φ⟩
  have sl : fSl (.lst [.sh seeD]) none (some r) = some (.lst ((if r = 0 then [] else [seeD]).map .sh)) := by
    have : r = 0 ∨ r = 1 := by omega
    rcases this with rfl | rfl <;> kernel_rfl
  have dl : W.data (.lst ((if r = 0 then [] else [seeD]).map W.sh)) = some (.lst (if r = 0 then [] else [seeD])) := by
    have : r = 0 ∨ r = 1 := by omega
    rcases this with rfl | rfl <;> kernel_rfl
  unfold f_L_world runF m_L_world
  have db : W.data (.lst [.sh (.tup [.str "h", .int 2]), .sh (.tup [.str "a", .int 5]), .sh (.tup [.str "b", .int 5]), .sh (.tup [.str "c", .int 4])]) = some boxesD := by kernel_rfl
  have ds3 : W.data (.lst [.sh (.tup [.str "a", .int 5]), .sh (.tup [.str "b", .int 5]), .sh (.tup [.str "c", .int 4])]) = some (.lst [.tup [.str "a", .int 5], .tup [.str "b", .int 5], .tup [.str "c", .int 4]]) := by kernel_rfl
  have dl3 : W.data (.lst l3) = some (.lst (l3.map φ)) := by
    show (W.datas l3).map D.lst = _
    rw [datas_of hd]; rfl
  have dt : ∀ lk : W, ∀ d, W.data lk = some d → W.data (.tup [.sh boxesD, .sh (.lst (l3.map φ)), lk, .sh beginD, .sh goalD]) = some (.tup [boxesD, .lst (l3.map φ), d, beginD, goalD]) := fun lk d e => by
    show (W.datas _).map D.tup = _
    simp [W.datas, data_sh, e]
  simp only [seeD, beginD, goalD, sameD] at sl dl dt ⊢
  simp only [rt_ap, bad_ap, mC_ap, mG_ap, mV_ap, mMv_ap, mBv_ap, mSh_ap, mFr_ap, mBin_ap, mBinV_ap, m1_ap, mTest_ap, mIsN_ap, mIxQ_ap, mCons_ap, mTup_ap, mLst_ap, mIf_ap, mAnd_ap, mOr_ap, mNot_ap, mSeq_ap, mNx_ap, mAsg_ap, mDrop_ap, mRet_ap, mRetD_ap, mIfS_ap, mCall_ap, mRaise_ap, mSetV_ap, mMth_ap, mIns_ap, mSeqD_ap, mRange1_ap, mPart_ap, mSl_ap, mAsgT_ap, mFor_ap, mTry_ap, mMthP_ap, mM1_ap, mHv_ap, mHq_ap, mHe_ap, qV_ap, qC_ap, tName_ap, opt_some, opt_none, List.getElem?_cons_zero, List.getElem?_cons_succ, List.set_cons_zero, List.set_cons_succ, List.replicate, List.append_nil, List.cons_append, List.nil_append, Option.map_some, Option.map_none, Option.bind_some, Option.bind_none, data_sh, fIx_lst, fIx_tup, fIx_wl, fIx_wt, fLen_lst, fLen_tup, fLen_wl, fAdd_int, fSub_int, fLt_int, fLe_int, fGt_int, fGe_int, finA, Bool.false_eq_true, if_true, if_false, ite_true, ite_false, List.length_map, List.length_cons, List.length_nil, decide_eq_true_eq, restore, Nat.reduceAdd, Nat.reduceLT, Nat.reduceLeDiff, Int.reduceToNat, Int.reduceLE, Int.reduceLT, Int.reduceAdd, Int.reduceNeg, Nat.zero_add, reduceIte, decide_true, decide_false, Nat.reduceSub, and_self, and_true, true_and, shs, db, slBoxes, ds3, forB_nil, forB_cons, e1, e2, e3, dl3, e4, sl, dt _ _ dl]
  all_goals rfl

theorem world_more {a b : Int} (hw : GW a b) : ∃ a' b' ds looks, GW a' b' ∧ f_L_world [.lst [.sh (.int a), .sh (.int b)], .sh (.bl true)] = .ok (.sh (.tup [boxesD, .lst ds, .lst looks, beginD, goalD])) [.lst [.sh (.int a'), .sh (.int b')], .mov] ∧
    (∀ d ∈ ds, ∃ nm p ways, d = deedD nm p ways) ∧ ∃ d ∈ ds, ∃ nm p w1 w2, d = deedD nm p [w1, w2] := by
  obtain ⟨a1, b1, p1, p2, l1, g1, e1, q1⟩ := body_ok (a := a) (b := b) (m := .sh (.bl true)) (bx := .sh boxesD) (e4 := .mov) (e5 := .mov) (e6 := .mov) (e7 := .mov) (e8 := .mov) (e9 := .mov) (l := []) (x := "a") (z := 5) hw (by decide) len3.1
  have n1 : l1.length = 2 := q1.length_eq
  obtain ⟨a2, b2, p3, p4, l2, g2, e2, q2⟩ := body_ok (a := a1) (b := b1) (m := .sh (.bl true)) (bx := .sh boxesD) (e4 := .sh (.str "a")) (e5 := .sh (.int 5)) (e6 := .sh (wayA "a")) (e7 := .sh (wayB "a")) (e8 := .mov) (e9 := .mov) (l := l1) (x := "b") (z := 5) g1 (by omega) len3.2.1
  have n2 : l2.length = 4 := by rw [q2.length_eq]; simp [n1]
  obtain ⟨a3, b3, p5, p6, l3, g3, e3, q3⟩ := body_ok (a := a2) (b := b2) (m := .sh (.bl true)) (bx := .sh boxesD) (e4 := .sh (.str "b")) (e5 := .sh (.int 5)) (e6 := .sh (wayA "b")) (e7 := .sh (wayB "b")) (e8 := .mov) (e9 := .mov) (l := l2) (x := "c") (z := 4) g2 (by omega) len3.2.2
  have n3 : l3.length = 6 := by rw [q3.length_eq]; simp [n2]
  obtain ⟨r0, a5, b5, h01, h02, g5, e5⟩ := take2 6 g3 (by decide) (by decide)
  obtain ⟨r, a4, b4, h1, h2, g4, e4⟩ := take2 2 g5 (by decide) (by decide)
  have pp : l3.Perm (six p1 p2 p3 p4 p5 p6) := q3.trans (((q2.trans ((q1.cons _).cons _)).cons _).cons _)
  have hd : ∀ w ∈ l3, ∃ nm p wy, w = deedW nm p [.sh wy] := fun w hw => by
    have := pp.mem_iff.mp hw
    simp only [six, List.mem_cons, List.not_mem_nil, or_false] at this
    rcases this with rfl | rfl | rfl | rfl | rfl | rfl <;> exact ⟨_, _, _, rfl⟩
  have hr : r0.toNat < l3.length := by omega
  obtain ⟨nm, p, wy, ed⟩ := hd _ (List.getElem_mem hr)
  have ix : ixN l3.length r0 = some r0.toNat := ixN_of h01 (by omega)
  have gt : l3[r0.toNat]? = some (deedW nm p [.sh wy]) := by rw [List.getElem?_eq_getElem hr, ed]
  have hd2 : ∀ w ∈ l3.set r0.toNat (deedW nm p [.sh wy, .lst []]), ∃ d nm p ways, W.data w = some d ∧ d = deedD nm p ways := fun w hw => by
    rcases List.mem_or_eq_of_mem_set hw with h | rfl
    · obtain ⟨nm, p, wy, rfl⟩ := hd w h
      exact ⟨_, _, _, _, data_deed (ds := [wy]), rfl⟩
    · exact ⟨deedD nm p [wy, .lst []], _, _, _, rfl, rfl⟩
  refine ⟨a4, b4, (l3.set r0.toNat (deedW nm p [.sh wy, .lst []])).map φ, if r = 0 then [] else [seeD], g4, ?_, fun d hd => ?_, deedD nm p [wy, .lst []], ?_, nm, p, wy, .lst [], rfl⟩
  rotate_left
  · obtain ⟨w, hw, rfl⟩ := List.mem_map.mp hd
    obtain ⟨d, nm, p, ways, e, e'⟩ := hd2 w hw
    exact ⟨nm, p, ways, by unfold φ; rw [e, ← e']; rfl⟩
  · exact List.mem_map.mpr ⟨deedW nm p [.sh wy, .lst []], List.mem_iff_getElem?.mpr ⟨r0.toNat, by rw [List.getElem?_set_self hr]⟩, rfl⟩
  have sl : fSl (.lst [.sh seeD]) none (some r) = some (.lst ((if r = 0 then [] else [seeD]).map .sh)) := by
    have : r = 0 ∨ r = 1 := by omega
    rcases this with rfl | rfl <;> kernel_rfl
  have dl : W.data (.lst ((if r = 0 then [] else [seeD]).map W.sh)) = some (.lst (if r = 0 then [] else [seeD])) := by
    have : r = 0 ∨ r = 1 := by omega
    rcases this with rfl | rfl <;> kernel_rfl
  unfold f_L_world runF m_L_world
  have db : W.data (.lst [.sh (.tup [.str "h", .int 2]), .sh (.tup [.str "a", .int 5]), .sh (.tup [.str "b", .int 5]), .sh (.tup [.str "c", .int 4])]) = some boxesD := by kernel_rfl
  have ds3 : W.data (.lst [.sh (.tup [.str "a", .int 5]), .sh (.tup [.str "b", .int 5]), .sh (.tup [.str "c", .int 4])]) = some (.lst [.tup [.str "a", .int 5], .tup [.str "b", .int 5], .tup [.str "c", .int 4]]) := by kernel_rfl
  have dl3 : W.data (.lst (l3.set r0.toNat (deedW nm p [.sh wy, .lst []]))) = some (.lst ((l3.set r0.toNat (deedW nm p [.sh wy, .lst []])).map φ)) := by
    show (W.datas _).map D.lst = _
    rw [datas_of fun w hw => (hd2 w hw).imp fun d ⟨_, _, _, e, _⟩ => e]; rfl
  have dt : ∀ (x : List D) (lk : W) (d : D), W.data lk = some d → W.data (.tup [.sh boxesD, .sh (.lst x), lk, .sh beginD, .sh goalD]) = some (.tup [boxesD, .lst x, d, beginD, goalD]) := fun x lk d e => by
    show (W.datas _).map D.tup = _
    simp [W.datas, data_sh, e]
  have at1 : atP [r0.toNat] (.lst l3) = some (deedW nm p [.sh wy]) := by
    show l3[r0.toNat]?.bind (atP []) = _
    rw [gt]; rfl
  have at2 : atP [r0.toNat, 3] (.lst l3) = some (.lst [.sh wy]) := by
    show l3[r0.toNat]?.bind (atP [3]) = _
    rw [gt]; rfl
  have at0 : atP [] (.lst l3) = some (.lst l3) := rfl
  have rs1 : res1 (.lst l3) (.int r0) = some r0.toNat := ix
  have rs2 : res1 (deedW nm p [.sh wy]) (.int 3) = some 3 := rfl
  have pt : putP [r0.toNat, 3] (.lst l3) (.lst [.sh wy, .lst []]) = .lst (l3.set r0.toNat (deedW nm p [.sh wy, .lst []])) := by
    show W.lst (l3.set r0.toNat (putP [3] (l3[r0.toNat]?.getD .mov) _)) = _
    rw [gt]; rfl
  have fa : fAppend [.sh wy] (.lst []) = some (.sh .non, [.sh wy, .lst []]) := by
    unfold fAppend
    exact if_pos (Nat.lt_of_lt_of_le (by decide : 1 < 1000) sz)
  simp only [seeD, beginD, goalD, sameD] at sl dl dt ⊢
  simp only [rt_ap, bad_ap, mC_ap, mG_ap, mV_ap, mMv_ap, mBv_ap, mSh_ap, mFr_ap, mBin_ap, mBinV_ap, m1_ap, mTest_ap, mIsN_ap, mIxQ_ap, mCons_ap, mTup_ap, mLst_ap, mIf_ap, mAnd_ap, mOr_ap, mNot_ap, mSeq_ap, mNx_ap, mAsg_ap, mDrop_ap, mRet_ap, mRetD_ap, mIfS_ap, mCall_ap, mRaise_ap, mSetV_ap, mMth_ap, mIns_ap, mSeqD_ap, mRange1_ap, mPart_ap, mSl_ap, mAsgT_ap, mFor_ap, mTry_ap, mMthP_ap, mM1_ap, mHv_ap, mHq_ap, mHe_ap, qV_ap, qC_ap, tName_ap, opt_some, opt_none, List.getElem?_cons_zero, List.getElem?_cons_succ, List.set_cons_zero, List.set_cons_succ, List.replicate, List.append_nil, List.cons_append, List.nil_append, Option.map_some, Option.map_none, Option.bind_some, Option.bind_none, data_sh, fIx_lst, fIx_tup, fIx_wl, fIx_wt, fLen_lst, fLen_tup, fLen_wl, fAdd_int, fSub_int, fLt_int, fLe_int, fGt_int, fGe_int, finA, Bool.false_eq_true, if_true, if_false, ite_true, ite_false, List.length_map, List.length_cons, List.length_nil, decide_eq_true_eq, restore, Nat.reduceAdd, Nat.reduceLT, Nat.reduceLeDiff, Int.reduceToNat, Int.reduceLE, Int.reduceLT, Int.reduceAdd, Int.reduceNeg, Nat.zero_add, reduceIte, decide_true, decide_false, Nat.reduceSub, and_self, and_true, true_and, shs, db, slBoxes, ds3, forB_nil, forB_cons, e1, e2, e3, e5, at0, at1, at2, rs1, rs2, pt, fa, dl3, e4, sl, dt _ _ _ dl]
  all_goals rfl
end K96

set_option Elab.async false
set_option linter.all false
set_option maxRecDepth 100000
set_option maxHeartbeats 4000000
namespace K96
open PySem PySem.Spec L2 Fp
open PyProof.Rows hiding St
def nmD : D → Option Str
  | .tup (.str s :: _) => some s
  | _ => none
theorem nmD_eq {d : D} {s : Str} (h : nmD d = some s) : ∃ r, d = .tup (.str s :: r) := by
  unfold nmD at h
  split at h
  · cases h; exact ⟨_, rfl⟩
  · cases h
theorem nk_turn {A e : W} {x s : Str} {r : List D} : mTurn (Fp.tName 2) b_named_known_1 (.tup (.str s :: r)) [A, .sh (.str x), e] = if s = x then .ok (.rt (.sh (.tup (.str s :: r)))) [A, .sh (.str x), .sh (.tup (.str s :: r))] else .ok .nx [A, .sh (.str x), .sh (.tup (.str s :: r))] := by
  unfold b_named_known_1
  simp only [rt_ap, bad_ap, mC_ap, mG_ap, mV_ap, mMv_ap, mBv_ap, mSh_ap, mFr_ap, mBin_ap, mBinV_ap, m1_ap, mTest_ap, mIsN_ap, mIxQ_ap, mCons_ap, mTup_ap, mLst_ap, mIf_ap, mAnd_ap, mOr_ap, mNot_ap, mSeq_ap, mNx_ap, mAsg_ap, mDrop_ap, mRet_ap, mRetD_ap, mIfS_ap, mCall_ap, mRaise_ap, mSetV_ap, mMth_ap, mIns_ap, mSeqD_ap, mRange1_ap, mPart_ap, mSl_ap, mAsgT_ap, mFor_ap, mTry_ap, mMthP_ap, mM1_ap, mHv_ap, mHq_ap, mHe_ap, qV_ap, qC_ap, tName_ap, opt_some, opt_none, List.getElem?_cons_zero, List.getElem?_cons_succ, List.set_cons_zero, List.set_cons_succ, List.replicate, List.append_nil, List.cons_append, List.nil_append, Option.map_some, Option.map_none, Option.bind_some, Option.bind_none, data_sh, fIx_lst, fIx_tup, fIx_wl, fIx_wt, fLen_lst, fLen_tup, fLen_wl, fAdd_int, fSub_int, fLt_int, fLe_int, fGt_int, fGe_int, finA, Bool.false_eq_true, if_true, if_false, ite_true, ite_false, List.length_map, List.length_cons, List.length_nil, decide_eq_true_eq, restore, Nat.reduceAdd, Nat.reduceLT, Nat.reduceLeDiff, Int.reduceToNat, Int.reduceLE, Int.reduceLT, Int.reduceAdd, Int.reduceNeg, Nat.zero_add, reduceIte, decide_true, decide_false, Nat.reduceSub, and_self, and_true, true_and, mTurn_ap, tName_ap, atI_cons0, fEq_str]

theorem nk_none {A : W} {x : Str} : ∀ (ds : List D) (e : W), (∀ d ∈ ds, ∃ s, nmD d = some s ∧ s ≠ x) → ∃ e', forB (mTurn (Fp.tName 2) b_named_known_1) ds [A, .sh (.str x), e] = .ok .nx [A, .sh (.str x), e']
  | [], e, _ => ⟨e, rfl⟩
  | d :: ds, e, h => by
    obtain ⟨s, h1, h2⟩ := h d List.mem_cons_self
    obtain ⟨r, rfl⟩ := nmD_eq h1
    obtain ⟨e', ih⟩ := nk_none (A := A) ds (.sh (.tup (.str s :: r))) fun d hd => h d (List.mem_cons_of_mem _ hd)
    refine ⟨e', ?_⟩
    rw [forB_cons, nk_turn, if_neg h2]
    exact ih
theorem nk_some {A : W} {x : Str} : ∀ (ds : List D) (e : W), (∀ d ∈ ds, ∃ s, nmD d = some s) → (∃ d ∈ ds, nmD d = some x) → ∃ d e', forB (mTurn (Fp.tName 2) b_named_known_1) ds [A, .sh (.str x), e] = .ok (.rt (.sh d)) [A, .sh (.str x), e']
  | [], e, _, ⟨d, hd, _⟩ => by cases hd
  | d :: ds, e, h, k => by
    obtain ⟨s, h1⟩ := h d List.mem_cons_self
    obtain ⟨r, rfl⟩ := nmD_eq h1
    by_cases c : s = x
    · exact ⟨_, _, by rw [forB_cons, nk_turn, if_pos c]⟩
    · obtain ⟨d', e', ih⟩ := nk_some (A := A) ds (.sh (.tup (.str s :: r))) (fun d hd => h d (List.mem_cons_of_mem _ hd)) (by
        obtain ⟨d, hd, e1⟩ := k
        rcases List.mem_cons.mp hd with rfl | hd
        · exact absurd (Option.some.inj (h1.symm.trans e1)) c
        · exact ⟨d, hd, e1⟩)
      exact ⟨d', e', by rw [forB_cons, nk_turn, if_neg c]; exact ih⟩
theorem named_no {ds : List D} {x : Str} (h : ∀ d ∈ ds, ∃ s, nmD d = some s ∧ s ≠ x) : f_named_known [.sh (.lst ds), .sh (.str x)] = .exc "NoName" [.mov, .mov] := by
  obtain ⟨e', e1⟩ := nk_none (A := .sh (.lst ds)) ds .mov h
  unfold f_named_known runF m_named_known
  simp only [rt_ap, bad_ap, mC_ap, mG_ap, mV_ap, mMv_ap, mBv_ap, mSh_ap, mFr_ap, mBin_ap, mBinV_ap, m1_ap, mTest_ap, mIsN_ap, mIxQ_ap, mCons_ap, mTup_ap, mLst_ap, mIf_ap, mAnd_ap, mOr_ap, mNot_ap, mSeq_ap, mNx_ap, mAsg_ap, mDrop_ap, mRet_ap, mRetD_ap, mIfS_ap, mCall_ap, mRaise_ap, mSetV_ap, mMth_ap, mIns_ap, mSeqD_ap, mRange1_ap, mPart_ap, mSl_ap, mAsgT_ap, mFor_ap, mTry_ap, mMthP_ap, mM1_ap, mHv_ap, mHq_ap, mHe_ap, qV_ap, qC_ap, tName_ap, opt_some, opt_none, List.getElem?_cons_zero, List.getElem?_cons_succ, List.set_cons_zero, List.set_cons_succ, List.replicate, List.append_nil, List.cons_append, List.nil_append, Option.map_some, Option.map_none, Option.bind_some, Option.bind_none, data_sh, fIx_lst, fIx_tup, fIx_wl, fIx_wt, fLen_lst, fLen_tup, fLen_wl, fAdd_int, fSub_int, fLt_int, fLe_int, fGt_int, fGe_int, finA, Bool.false_eq_true, if_true, if_false, ite_true, ite_false, List.length_map, List.length_cons, List.length_nil, decide_eq_true_eq, restore, Nat.reduceAdd, Nat.reduceLT, Nat.reduceLeDiff, Int.reduceToNat, Int.reduceLE, Int.reduceLT, Int.reduceAdd, Int.reduceNeg, Nat.zero_add, reduceIte, decide_true, decide_false, Nat.reduceSub, and_self, and_true, true_and, e1]
  all_goals rfl
theorem named_yes {ds : List D} {x : Str} (h : ∀ d ∈ ds, ∃ s, nmD d = some s) (k : ∃ d ∈ ds, nmD d = some x) : ∃ d, f_named_known [.sh (.lst ds), .sh (.str x)] = .ok (.sh d) [.mov, .mov] := by
  obtain ⟨d, e', e1⟩ := nk_some (A := .sh (.lst ds)) ds .mov h k
  refine ⟨d, ?_⟩
  unfold f_named_known runF m_named_known
  simp only [rt_ap, bad_ap, mC_ap, mG_ap, mV_ap, mMv_ap, mBv_ap, mSh_ap, mFr_ap, mBin_ap, mBinV_ap, m1_ap, mTest_ap, mIsN_ap, mIxQ_ap, mCons_ap, mTup_ap, mLst_ap, mIf_ap, mAnd_ap, mOr_ap, mNot_ap, mSeq_ap, mNx_ap, mAsg_ap, mDrop_ap, mRet_ap, mRetD_ap, mIfS_ap, mCall_ap, mRaise_ap, mSetV_ap, mMth_ap, mIns_ap, mSeqD_ap, mRange1_ap, mPart_ap, mSl_ap, mAsgT_ap, mFor_ap, mTry_ap, mMthP_ap, mM1_ap, mHv_ap, mHq_ap, mHe_ap, qV_ap, qC_ap, tName_ap, opt_some, opt_none, List.getElem?_cons_zero, List.getElem?_cons_succ, List.set_cons_zero, List.set_cons_succ, List.replicate, List.append_nil, List.cons_append, List.nil_append, Option.map_some, Option.map_none, Option.bind_some, Option.bind_none, data_sh, fIx_lst, fIx_tup, fIx_wl, fIx_wt, fLen_lst, fLen_tup, fLen_wl, fAdd_int, fSub_int, fLt_int, fLe_int, fGt_int, fGe_int, finA, Bool.false_eq_true, if_true, if_false, ite_true, ite_false, List.length_map, List.length_cons, List.length_nil, decide_eq_true_eq, restore, Nat.reduceAdd, Nat.reduceLT, Nat.reduceLeDiff, Int.reduceToNat, Int.reduceLE, Int.reduceLT, Int.reduceAdd, Int.reduceNeg, Nat.zero_add, reduceIte, decide_true, decide_false, Nat.reduceSub, and_self, and_true, true_and, e1]
  all_goals rfl
/-! row_works -/
def wld (ds : List D) (looks : List D) : D := .tup [boxesD, .lst ds, .lst looks, beginD, goalD]
theorem at1 {a b : D} {l : List D} : atI (a :: b :: l) 1 = some b := by rw [atI_of (by decide)]; rfl
theorem rw_loop {ds looks : List D} {B e3 : W} (hn : ∀ d ∈ ds, ∃ s, nmD d = some s) {x : Str} (hx : ∀ d ∈ ds, ∀ s, nmD d = some s → s ≠ x) : ∀ (pre post : List D) (e : W), (∀ y ∈ pre, ∃ s, y = .str s ∧ ∃ d ∈ ds, nmD d = some s) →
    ∃ ρ, forB (mTurn (Fp.tName 2) b_row_works_1) (pre ++ .str x :: post) [.sh (wld ds looks), B, e, e3] = .exc "NoName" ρ
  | [], post, e, _ => by
    have e1 : f_named_known [.sh (.lst ds), .sh (.str x)] = .exc "NoName" [.mov, .mov] := named_no fun d hd => by
      obtain ⟨s, h⟩ := hn d hd
      exact ⟨s, h, hx d hd s h⟩
    refine ⟨[.sh (wld ds looks), B, .sh (.str x), e3], ?_⟩
    unfold b_row_works_1 wld
    simp only [List.nil_append, forB_cons, rt_ap, bad_ap, mC_ap, mG_ap, mV_ap, mMv_ap, mBv_ap, mSh_ap, mFr_ap, mBin_ap, mBinV_ap, m1_ap, mTest_ap, mIsN_ap, mIxQ_ap, mCons_ap, mTup_ap, mLst_ap, mIf_ap, mAnd_ap, mOr_ap, mNot_ap, mSeq_ap, mNx_ap, mAsg_ap, mDrop_ap, mRet_ap, mRetD_ap, mIfS_ap, mCall_ap, mRaise_ap, mSetV_ap, mMth_ap, mIns_ap, mSeqD_ap, mRange1_ap, mPart_ap, mSl_ap, mAsgT_ap, mFor_ap, mTry_ap, mMthP_ap, mM1_ap, mHv_ap, mHq_ap, mHe_ap, qV_ap, qC_ap, tName_ap, opt_some, opt_none, List.getElem?_cons_zero, List.getElem?_cons_succ, List.set_cons_zero, List.set_cons_succ, List.replicate, List.append_nil, List.cons_append, List.nil_append, Option.map_some, Option.map_none, Option.bind_some, Option.bind_none, data_sh, fIx_lst, fIx_tup, fIx_wl, fIx_wt, fLen_lst, fLen_tup, fLen_wl, fAdd_int, fSub_int, fLt_int, fLe_int, fGt_int, fGe_int, finA, Bool.false_eq_true, if_true, if_false, ite_true, ite_false, List.length_map, List.length_cons, List.length_nil, decide_eq_true_eq, restore, Nat.reduceAdd, Nat.reduceLT, Nat.reduceLeDiff, Int.reduceToNat, Int.reduceLE, Int.reduceLT, Int.reduceAdd, Int.reduceNeg, Nat.zero_add, reduceIte, decide_true, decide_false, Nat.reduceSub, and_self, and_true, true_and, mTurn_ap, tName_ap, at1, e1]
  | y :: pre, post, e, h => by
    obtain ⟨s, rfl, k⟩ := h y List.mem_cons_self
    obtain ⟨d, e1⟩ := named_yes hn k
    obtain ⟨ρ, ih⟩ := rw_loop hn hx (B := B) (e3 := e3) (looks := looks) pre post (.sh (.str s)) fun y hy => h y (List.mem_cons_of_mem _ hy)
    refine ⟨ρ, ?_⟩
    have t : mTurn (Fp.tName 2) b_row_works_1 (.str s) [.sh (wld ds looks), B, e, e3] = .ok .nx [.sh (wld ds looks), B, .sh (.str s), e3] := by
      unfold b_row_works_1 wld
      simp only [rt_ap, bad_ap, mC_ap, mG_ap, mV_ap, mMv_ap, mBv_ap, mSh_ap, mFr_ap, mBin_ap, mBinV_ap, m1_ap, mTest_ap, mIsN_ap, mIxQ_ap, mCons_ap, mTup_ap, mLst_ap, mIf_ap, mAnd_ap, mOr_ap, mNot_ap, mSeq_ap, mNx_ap, mAsg_ap, mDrop_ap, mRet_ap, mRetD_ap, mIfS_ap, mCall_ap, mRaise_ap, mSetV_ap, mMth_ap, mIns_ap, mSeqD_ap, mRange1_ap, mPart_ap, mSl_ap, mAsgT_ap, mFor_ap, mTry_ap, mMthP_ap, mM1_ap, mHv_ap, mHq_ap, mHe_ap, qV_ap, qC_ap, tName_ap, opt_some, opt_none, List.getElem?_cons_zero, List.getElem?_cons_succ, List.set_cons_zero, List.set_cons_succ, List.replicate, List.append_nil, List.cons_append, List.nil_append, Option.map_some, Option.map_none, Option.bind_some, Option.bind_none, data_sh, fIx_lst, fIx_tup, fIx_wl, fIx_wt, fLen_lst, fLen_tup, fLen_wl, fAdd_int, fSub_int, fLt_int, fLe_int, fGt_int, fGe_int, finA, Bool.false_eq_true, if_true, if_false, ite_true, ite_false, List.length_map, List.length_cons, List.length_nil, decide_eq_true_eq, restore, Nat.reduceAdd, Nat.reduceLT, Nat.reduceLeDiff, Int.reduceToNat, Int.reduceLE, Int.reduceLT, Int.reduceAdd, Int.reduceNeg, Nat.zero_add, reduceIte, decide_true, decide_false, Nat.reduceSub, and_self, and_true, true_and, mTurn_ap, tName_ap, at1, e1]
    rw [List.cons_append, forB_cons, t]
    exact ih
theorem row_no {ds looks : List D} (hn : ∀ d ∈ ds, ∃ s, nmD d = some s) {x : Str} (hx : ∀ d ∈ ds, ∀ s, nmD d = some s → s ≠ x) {pre post : List D} (h : ∀ y ∈ pre, ∃ s, y = .str s ∧ ∃ d ∈ ds, nmD d = some s) :
    f_row_works [.sh (wld ds looks), .sh (.lst (pre ++ .str x :: post))] = .exc "NoName" [.mov, .mov] := by
  obtain ⟨ρ, e⟩ := rw_loop (B := .sh (.lst (pre ++ .str x :: post))) (e3 := .mov) (looks := looks) hn hx pre post .mov h
  unfold f_row_works runF m_row_works
  simp only [rt_ap, bad_ap, mC_ap, mG_ap, mV_ap, mMv_ap, mBv_ap, mSh_ap, mFr_ap, mBin_ap, mBinV_ap, m1_ap, mTest_ap, mIsN_ap, mIxQ_ap, mCons_ap, mTup_ap, mLst_ap, mIf_ap, mAnd_ap, mOr_ap, mNot_ap, mSeq_ap, mNx_ap, mAsg_ap, mDrop_ap, mRet_ap, mRetD_ap, mIfS_ap, mCall_ap, mRaise_ap, mSetV_ap, mMth_ap, mIns_ap, mSeqD_ap, mRange1_ap, mPart_ap, mSl_ap, mAsgT_ap, mFor_ap, mTry_ap, mMthP_ap, mM1_ap, mHv_ap, mHq_ap, mHe_ap, qV_ap, qC_ap, tName_ap, opt_some, opt_none, List.getElem?_cons_zero, List.getElem?_cons_succ, List.set_cons_zero, List.set_cons_succ, List.replicate, List.append_nil, List.cons_append, List.nil_append, Option.map_some, Option.map_none, Option.bind_some, Option.bind_none, data_sh, fIx_lst, fIx_tup, fIx_wl, fIx_wt, fLen_lst, fLen_tup, fLen_wl, fAdd_int, fSub_int, fLt_int, fLe_int, fGt_int, fGe_int, finA, Bool.false_eq_true, if_true, if_false, ite_true, ite_false, List.length_map, List.length_cons, List.length_nil, decide_eq_true_eq, restore, Nat.reduceAdd, Nat.reduceLT, Nat.reduceLeDiff, Int.reduceToNat, Int.reduceLE, Int.reduceLT, Int.reduceAdd, Int.reduceNeg, Nat.zero_add, reduceIte, decide_true, decide_false, Nat.reduceSub, and_self, and_true, true_and, e, finA_no (k := 0)]
/-! checked -/
theorem fk {ds : List D} {looks goal : D} : f_first_known [.sh (.tup [boxesD, .lst ds, looks, beginD, goal])] = .ok (.sh (.lst [.tup [.int 0, .int 0, .int 0, .int 0], .tup [.int 1, .int 0, .int 0, .int 0]])) [.mov] := by kernel_rfl
def s2 : D := .lst [.tup [.int 0, .int 0, .int 0, .int 0], .tup [.int 1, .int 0, .int 0, .int 0]]
theorem ck_turn {A B e2 e3 e4 e5 e6 e7 : W} {nm : Str} {p : Int} {ways : List D} : mTurn (Fp.tTup [2, 3, 4, 5]) b_checked_1 (deedD nm p ways) [A, B, e2, e3, e4, e5, e6, e7] =
    if 1 < ways.length then .exc "NotPlain" [A, B, .sh (.str nm), .sh (.int p), .sh (.tup [.str "yes"]), .sh (.lst ways), e6, e7] else .ok .nx [A, B, .sh (.str nm), .sh (.int p), .sh (.tup [.str "yes"]), .sh (.lst ways), e6, e7] := by
  unfold b_checked_1 deedD
  simp only [rt_ap, bad_ap, mC_ap, mG_ap, mV_ap, mMv_ap, mBv_ap, mSh_ap, mFr_ap, mBin_ap, mBinV_ap, m1_ap, mTest_ap, mIsN_ap, mIxQ_ap, mCons_ap, mTup_ap, mLst_ap, mIf_ap, mAnd_ap, mOr_ap, mNot_ap, mSeq_ap, mNx_ap, mAsg_ap, mDrop_ap, mRet_ap, mRetD_ap, mIfS_ap, mCall_ap, mRaise_ap, mSetV_ap, mMth_ap, mIns_ap, mSeqD_ap, mRange1_ap, mPart_ap, mSl_ap, mAsgT_ap, mFor_ap, mTry_ap, mMthP_ap, mM1_ap, mHv_ap, mHq_ap, mHe_ap, qV_ap, qC_ap, tName_ap, opt_some, opt_none, List.getElem?_cons_zero, List.getElem?_cons_succ, List.set_cons_zero, List.set_cons_succ, List.replicate, List.append_nil, List.cons_append, List.nil_append, Option.map_some, Option.map_none, Option.bind_some, Option.bind_none, data_sh, fIx_lst, fIx_tup, fIx_wl, fIx_wt, fLen_lst, fLen_tup, fLen_wl, fAdd_int, fSub_int, fLt_int, fLe_int, fGt_int, fGe_int, finA, Bool.false_eq_true, if_true, if_false, ite_true, ite_false, List.length_map, List.length_cons, List.length_nil, decide_eq_true_eq, restore, Nat.reduceAdd, Nat.reduceLT, Nat.reduceLeDiff, Int.reduceToNat, Int.reduceLE, Int.reduceLT, Int.reduceAdd, Int.reduceNeg, Nat.zero_add, reduceIte, decide_true, decide_false, Nat.reduceSub, and_self, and_true, true_and, mTurn_ap, Fp.tTup, Fp.tNames]
  by_cases h : 1 < ways.length
  · have h' : (1 : Int) < ways.length := by omega
    simp only [h, h', rt_ap, bad_ap, mC_ap, mG_ap, mV_ap, mMv_ap, mBv_ap, mSh_ap, mFr_ap, mBin_ap, mBinV_ap, m1_ap, mTest_ap, mIsN_ap, mIxQ_ap, mCons_ap, mTup_ap, mLst_ap, mIf_ap, mAnd_ap, mOr_ap, mNot_ap, mSeq_ap, mNx_ap, mAsg_ap, mDrop_ap, mRet_ap, mRetD_ap, mIfS_ap, mCall_ap, mRaise_ap, mSetV_ap, mMth_ap, mIns_ap, mSeqD_ap, mRange1_ap, mPart_ap, mSl_ap, mAsgT_ap, mFor_ap, mTry_ap, mMthP_ap, mM1_ap, mHv_ap, mHq_ap, mHe_ap, qV_ap, qC_ap, tName_ap, opt_some, opt_none, List.getElem?_cons_zero, List.getElem?_cons_succ, List.set_cons_zero, List.set_cons_succ, List.replicate, List.append_nil, List.cons_append, List.nil_append, Option.map_some, Option.map_none, Option.bind_some, Option.bind_none, data_sh, fIx_lst, fIx_tup, fIx_wl, fIx_wt, fLen_lst, fLen_tup, fLen_wl, fAdd_int, fSub_int, fLt_int, fLe_int, fGt_int, fGe_int, finA, Bool.false_eq_true, if_true, if_false, ite_true, ite_false, List.length_map, List.length_cons, List.length_nil, decide_eq_true_eq, restore, Nat.reduceAdd, Nat.reduceLT, Nat.reduceLeDiff, Int.reduceToNat, Int.reduceLE, Int.reduceLT, Int.reduceAdd, Int.reduceNeg, Nat.zero_add, reduceIte, decide_true, decide_false, Nat.reduceSub, and_self, and_true, true_and]
  · have h' : ¬ (1 : Int) < ways.length := by omega
    simp only [h, h', rt_ap, bad_ap, mC_ap, mG_ap, mV_ap, mMv_ap, mBv_ap, mSh_ap, mFr_ap, mBin_ap, mBinV_ap, m1_ap, mTest_ap, mIsN_ap, mIxQ_ap, mCons_ap, mTup_ap, mLst_ap, mIf_ap, mAnd_ap, mOr_ap, mNot_ap, mSeq_ap, mNx_ap, mAsg_ap, mDrop_ap, mRet_ap, mRetD_ap, mIfS_ap, mCall_ap, mRaise_ap, mSetV_ap, mMth_ap, mIns_ap, mSeqD_ap, mRange1_ap, mPart_ap, mSl_ap, mAsgT_ap, mFor_ap, mTry_ap, mMthP_ap, mM1_ap, mHv_ap, mHq_ap, mHe_ap, qV_ap, qC_ap, tName_ap, opt_some, opt_none, List.getElem?_cons_zero, List.getElem?_cons_succ, List.set_cons_zero, List.set_cons_succ, List.replicate, List.append_nil, List.cons_append, List.nil_append, Option.map_some, Option.map_none, Option.bind_some, Option.bind_none, data_sh, fIx_lst, fIx_tup, fIx_wl, fIx_wt, fLen_lst, fLen_tup, fLen_wl, fAdd_int, fSub_int, fLt_int, fLe_int, fGt_int, fGe_int, finA, Bool.false_eq_true, if_true, if_false, ite_true, ite_false, List.length_map, List.length_cons, List.length_nil, decide_eq_true_eq, restore, Nat.reduceAdd, Nat.reduceLT, Nat.reduceLeDiff, Int.reduceToNat, Int.reduceLE, Int.reduceLT, Int.reduceAdd, Int.reduceNeg, Nat.zero_add, reduceIte, decide_true, decide_false, Nat.reduceSub, and_self, and_true, true_and]
theorem ck_ok {A B e6 e7 : W} : ∀ (ds : List D) (e2 e3 e4 e5 : W), (∀ d ∈ ds, ∃ nm p w1, d = deedD nm p [w1]) → ∃ e2' e3' e4' e5', forB (mTurn (Fp.tTup [2, 3, 4, 5]) b_checked_1) ds [A, B, e2, e3, e4, e5, e6, e7] = .ok .nx [A, B, e2', e3', e4', e5', e6, e7]
  | [], _, _, _, _, _ => ⟨_, _, _, _, rfl⟩
  | d :: ds, _, _, _, _, h => by
    obtain ⟨nm, p, w1, rfl⟩ := h d List.mem_cons_self
    obtain ⟨a1, a2, a3, a4, ih⟩ := ck_ok (A := A) (B := B) (e6 := e6) (e7 := e7) ds (.sh (.str nm)) (.sh (.int p)) (.sh (.tup [.str "yes"])) (.sh (.lst [w1])) fun d hd => h d (List.mem_cons_of_mem _ hd)
    refine ⟨a1, a2, a3, a4, ?_⟩
    rw [forB_cons, ck_turn, if_neg (by simp)]
    exact ih
theorem ck_no {A B e6 e7 : W} : ∀ (ds : List D) (e2 e3 e4 e5 : W), (∀ d ∈ ds, ∃ nm p ways, d = deedD nm p ways) → (∃ d ∈ ds, ∃ nm p w1 w2, d = deedD nm p [w1, w2]) → ∃ ρ, forB (mTurn (Fp.tTup [2, 3, 4, 5]) b_checked_1) ds [A, B, e2, e3, e4, e5, e6, e7] = .exc "NotPlain" ρ
  | [], _, _, _, _, _, ⟨_, hd, _⟩ => by cases hd
  | d :: ds, _, _, _, _, h, k => by
    obtain ⟨nm, p, ways, rfl⟩ := h d List.mem_cons_self
    by_cases c : 1 < ways.length
    · exact ⟨_, by rw [forB_cons, ck_turn, if_pos c]⟩
    · obtain ⟨ρ, ih⟩ := ck_no (A := A) (B := B) (e6 := e6) (e7 := e7) ds (.sh (.str nm)) (.sh (.int p)) (.sh (.tup [.str "yes"])) (.sh (.lst ways)) (fun d hd => h d (List.mem_cons_of_mem _ hd)) (by
        obtain ⟨d, hd, nm', p', w1, w2, e⟩ := k
        rcases List.mem_cons.mp hd with rfl | hd
        · exfalso
          unfold deedD at e
          injection e with e
          injection e with _ e
          injection e with _ e
          injection e with _ e
          injection e with e _
          injection e with e
          subst e
          exact c (by simp)
        · exact ⟨d, hd, nm', p', w1, w2, e⟩)
      exact ⟨ρ, by rw [forB_cons, ck_turn, if_neg c]; exact ih⟩
theorem checked_more {ds looks : List D} {ws : D} (h : ∀ d ∈ ds, ∃ nm p ways, d = deedD nm p ways) (k : ∃ d ∈ ds, ∃ nm p w1 w2, d = deedD nm p [w1, w2]) : f_checked [.sh (wld ds looks), .sh ws] = .exc "NotPlain" [.mov, .mov] := by
  obtain ⟨ρ, e⟩ := ck_no (A := .sh (wld ds looks)) (B := .sh ws) (e6 := .mov) (e7 := .mov) ds .mov .mov .mov .mov h k
  unfold f_checked runF m_checked
  unfold wld at e ⊢
  simp only [rt_ap, bad_ap, mC_ap, mG_ap, mV_ap, mMv_ap, mBv_ap, mSh_ap, mFr_ap, mBin_ap, mBinV_ap, m1_ap, mTest_ap, mIsN_ap, mIxQ_ap, mCons_ap, mTup_ap, mLst_ap, mIf_ap, mAnd_ap, mOr_ap, mNot_ap, mSeq_ap, mNx_ap, mAsg_ap, mDrop_ap, mRet_ap, mRetD_ap, mIfS_ap, mCall_ap, mRaise_ap, mSetV_ap, mMth_ap, mIns_ap, mSeqD_ap, mRange1_ap, mPart_ap, mSl_ap, mAsgT_ap, mFor_ap, mTry_ap, mMthP_ap, mM1_ap, mHv_ap, mHq_ap, mHe_ap, qV_ap, qC_ap, tName_ap, opt_some, opt_none, List.getElem?_cons_zero, List.getElem?_cons_succ, List.set_cons_zero, List.set_cons_succ, List.replicate, List.append_nil, List.cons_append, List.nil_append, Option.map_some, Option.map_none, Option.bind_some, Option.bind_none, data_sh, fIx_lst, fIx_tup, fIx_wl, fIx_wt, fLen_lst, fLen_tup, fLen_wl, fAdd_int, fSub_int, fLt_int, fLe_int, fGt_int, fGe_int, finA, Bool.false_eq_true, if_true, if_false, ite_true, ite_false, List.length_map, List.length_cons, List.length_nil, decide_eq_true_eq, restore, Nat.reduceAdd, Nat.reduceLT, Nat.reduceLeDiff, Int.reduceToNat, Int.reduceLE, Int.reduceLT, Int.reduceAdd, Int.reduceNeg, Nat.zero_add, reduceIte, decide_true, decide_false, Nat.reduceSub, and_self, and_true, true_and, at1, e, finA_no (k := 0)]
/-- weights that are refused -/
def BadW (ws : List D) : Prop := (ws.length ≠ 2 ∧ ws.length < 10) ∨ ∃ a b : Int, ws = [.int a, .int b] ∧ (a < 1 ∨ b < 1)
theorem checked_bad {ds looks ws : List D} (h : ∀ d ∈ ds, ∃ nm p w1, d = deedD nm p [w1]) (k : BadW ws) : f_checked [.sh (wld ds looks), .sh (.lst ws)] = .exc "NoWeights" [.mov, .mov] := by
  obtain ⟨e2, e3, e4, e5, e⟩ := ck_ok (A := .sh (wld ds looks)) (B := .sh (.lst ws)) (e6 := .mov) (e7 := .mov) ds .mov .mov .mov .mov h
  have f : f_first_known [.sh (.tup [boxesD, .lst ds, .lst looks, beginD, goalD])] = .ok (.sh s2) [.mov] := fk
  unfold f_checked runF m_checked
  unfold wld at e ⊢
  unfold s2 at f
  rcases k with ⟨k, _⟩ | ⟨a, b, rfl, k⟩
  · have k' : ¬ ((ws.length : Int) = ((2 : Nat) : Int)) := by omega
    simp only [rt_ap, bad_ap, mC_ap, mG_ap, mV_ap, mMv_ap, mBv_ap, mSh_ap, mFr_ap, mBin_ap, mBinV_ap, m1_ap, mTest_ap, mIsN_ap, mIxQ_ap, mCons_ap, mTup_ap, mLst_ap, mIf_ap, mAnd_ap, mOr_ap, mNot_ap, mSeq_ap, mNx_ap, mAsg_ap, mDrop_ap, mRet_ap, mRetD_ap, mIfS_ap, mCall_ap, mRaise_ap, mSetV_ap, mMth_ap, mIns_ap, mSeqD_ap, mRange1_ap, mPart_ap, mSl_ap, mAsgT_ap, mFor_ap, mTry_ap, mMthP_ap, mM1_ap, mHv_ap, mHq_ap, mHe_ap, qV_ap, qC_ap, tName_ap, opt_some, opt_none, List.getElem?_cons_zero, List.getElem?_cons_succ, List.set_cons_zero, List.set_cons_succ, List.replicate, List.append_nil, List.cons_append, List.nil_append, Option.map_some, Option.map_none, Option.bind_some, Option.bind_none, data_sh, fIx_lst, fIx_tup, fIx_wl, fIx_wt, fLen_lst, fLen_tup, fLen_wl, fAdd_int, fSub_int, fLt_int, fLe_int, fGt_int, fGe_int, finA, Bool.false_eq_true, if_true, if_false, ite_true, ite_false, List.length_map, List.length_cons, List.length_nil, decide_eq_true_eq, restore, Nat.reduceAdd, Nat.reduceLT, Nat.reduceLeDiff, Int.reduceToNat, Int.reduceLE, Int.reduceLT, Int.reduceAdd, Int.reduceNeg, Nat.zero_add, reduceIte, decide_true, decide_false, Nat.reduceSub, and_self, and_true, true_and, at1, e, f, finA_no (k := 0), fNe_int, k', Bool.not_false]
  · have tA : ∀ (x : Int) (A B e2 e3 e4 e5 e6 e7 : W), mTurn (Fp.tName 7) b_checked_2 (.int x) [A, B, e2, e3, e4, e5, e6, e7] = if x < 1 then .exc "NoWeights" [A, B, e2, e3, e4, e5, e6, .sh (.int x)] else .ok .nx [A, B, e2, e3, e4, e5, e6, .sh (.int x)] := by
      intro x A B e2 e3 e4 e5 e6 e7
      unfold b_checked_2
      simp only [rt_ap, bad_ap, mC_ap, mG_ap, mV_ap, mMv_ap, mBv_ap, mSh_ap, mFr_ap, mBin_ap, mBinV_ap, m1_ap, mTest_ap, mIsN_ap, mIxQ_ap, mCons_ap, mTup_ap, mLst_ap, mIf_ap, mAnd_ap, mOr_ap, mNot_ap, mSeq_ap, mNx_ap, mAsg_ap, mDrop_ap, mRet_ap, mRetD_ap, mIfS_ap, mCall_ap, mRaise_ap, mSetV_ap, mMth_ap, mIns_ap, mSeqD_ap, mRange1_ap, mPart_ap, mSl_ap, mAsgT_ap, mFor_ap, mTry_ap, mMthP_ap, mM1_ap, mHv_ap, mHq_ap, mHe_ap, qV_ap, qC_ap, tName_ap, opt_some, opt_none, List.getElem?_cons_zero, List.getElem?_cons_succ, List.set_cons_zero, List.set_cons_succ, List.replicate, List.append_nil, List.cons_append, List.nil_append, Option.map_some, Option.map_none, Option.bind_some, Option.bind_none, data_sh, fIx_lst, fIx_tup, fIx_wl, fIx_wt, fLen_lst, fLen_tup, fLen_wl, fAdd_int, fSub_int, fLt_int, fLe_int, fGt_int, fGe_int, finA, Bool.false_eq_true, if_true, if_false, ite_true, ite_false, List.length_map, List.length_cons, List.length_nil, decide_eq_true_eq, restore, Nat.reduceAdd, Nat.reduceLT, Nat.reduceLeDiff, Int.reduceToNat, Int.reduceLE, Int.reduceLT, Int.reduceAdd, Int.reduceNeg, Nat.zero_add, reduceIte, decide_true, decide_false, Nat.reduceSub, and_self, and_true, true_and, mTurn_ap, tName_ap]
    by_cases ha : a < 1
    · simp only [rt_ap, bad_ap, mC_ap, mG_ap, mV_ap, mMv_ap, mBv_ap, mSh_ap, mFr_ap, mBin_ap, mBinV_ap, m1_ap, mTest_ap, mIsN_ap, mIxQ_ap, mCons_ap, mTup_ap, mLst_ap, mIf_ap, mAnd_ap, mOr_ap, mNot_ap, mSeq_ap, mNx_ap, mAsg_ap, mDrop_ap, mRet_ap, mRetD_ap, mIfS_ap, mCall_ap, mRaise_ap, mSetV_ap, mMth_ap, mIns_ap, mSeqD_ap, mRange1_ap, mPart_ap, mSl_ap, mAsgT_ap, mFor_ap, mTry_ap, mMthP_ap, mM1_ap, mHv_ap, mHq_ap, mHe_ap, qV_ap, qC_ap, tName_ap, opt_some, opt_none, List.getElem?_cons_zero, List.getElem?_cons_succ, List.set_cons_zero, List.set_cons_succ, List.replicate, List.append_nil, List.cons_append, List.nil_append, Option.map_some, Option.map_none, Option.bind_some, Option.bind_none, data_sh, fIx_lst, fIx_tup, fIx_wl, fIx_wt, fLen_lst, fLen_tup, fLen_wl, fAdd_int, fSub_int, fLt_int, fLe_int, fGt_int, fGe_int, finA, Bool.false_eq_true, if_true, if_false, ite_true, ite_false, List.length_map, List.length_cons, List.length_nil, decide_eq_true_eq, restore, Nat.reduceAdd, Nat.reduceLT, Nat.reduceLeDiff, Int.reduceToNat, Int.reduceLE, Int.reduceLT, Int.reduceAdd, Int.reduceNeg, Nat.zero_add, reduceIte, decide_true, decide_false, Nat.reduceSub, and_self, and_true, true_and, at1, e, f, finA_no (k := 0), fNe_int, Bool.not_true, forB_cons, forB_nil, tA, ha]
    · have hb : b < 1 := by omega
      simp only [rt_ap, bad_ap, mC_ap, mG_ap, mV_ap, mMv_ap, mBv_ap, mSh_ap, mFr_ap, mBin_ap, mBinV_ap, m1_ap, mTest_ap, mIsN_ap, mIxQ_ap, mCons_ap, mTup_ap, mLst_ap, mIf_ap, mAnd_ap, mOr_ap, mNot_ap, mSeq_ap, mNx_ap, mAsg_ap, mDrop_ap, mRet_ap, mRetD_ap, mIfS_ap, mCall_ap, mRaise_ap, mSetV_ap, mMth_ap, mIns_ap, mSeqD_ap, mRange1_ap, mPart_ap, mSl_ap, mAsgT_ap, mFor_ap, mTry_ap, mMthP_ap, mM1_ap, mHv_ap, mHq_ap, mHe_ap, qV_ap, qC_ap, tName_ap, opt_some, opt_none, List.getElem?_cons_zero, List.getElem?_cons_succ, List.set_cons_zero, List.set_cons_succ, List.replicate, List.append_nil, List.cons_append, List.nil_append, Option.map_some, Option.map_none, Option.bind_some, Option.bind_none, data_sh, fIx_lst, fIx_tup, fIx_wl, fIx_wt, fLen_lst, fLen_tup, fLen_wl, fAdd_int, fSub_int, fLt_int, fLe_int, fGt_int, fGe_int, finA, Bool.false_eq_true, if_true, if_false, ite_true, ite_false, List.length_map, List.length_cons, List.length_nil, decide_eq_true_eq, restore, Nat.reduceAdd, Nat.reduceLT, Nat.reduceLeDiff, Int.reduceToNat, Int.reduceLE, Int.reduceLT, Int.reduceAdd, Int.reduceNeg, Nat.zero_add, reduceIte, decide_true, decide_false, Nat.reduceSub, and_self, and_true, true_and, at1, e, f, finA_no (k := 0), fNe_int, Bool.not_true, forB_cons, forB_nil, tA, ha, hb]
/-! what_it_is_worth -/
theorem lc_names {A B e2 e3 e4 e5 e6 e7 e8 : W} : ∀ (ds : List D) (acc : List W) (ns : List Str), ds.map nmD = ns.map some → acc.length + ds.length < 1000 →
    lcB (Fp.tName 9) [9] (rt true) b_what_it_is_worth_1 ds acc [A, B, e2, e3, e4, e5, e6, e7, e8, .mov] = .ok (.lst (acc ++ ns.map fun s => .sh (.str s))) [A, B, e2, e3, e4, e5, e6, e7, e8, .mov]
  | [], acc, [], _, _ => by rw [lcB_nil]; simp
  | [], _, _ :: _, h, _ => by simp at h
  | _ :: _, _, [], h, _ => by simp at h
  | d :: ds, acc, s :: ns, h, hl => by
    simp only [List.map_cons, List.cons.injEq] at h
    obtain ⟨r, rfl⟩ := nmD_eq h.1
    have ih := lc_names (A := A) (B := B) (e2 := e2) (e3 := e3) (e4 := e4) (e5 := e5) (e6 := e6) (e7 := e7) (e8 := e8) ds (acc ++ [.sh (.str s)]) ns h.2 (by simp at hl ⊢; omega)
    have c : acc.length < sizeLine := Nat.lt_of_lt_of_le (by simp at hl; omega) sz
    rw [lcB_cons]
    unfold b_what_it_is_worth_1 at ih ⊢
    simp only [rt_ap, bad_ap, mC_ap, mG_ap, mV_ap, mMv_ap, mBv_ap, mSh_ap, mFr_ap, mBin_ap, mBinV_ap, m1_ap, mTest_ap, mIsN_ap, mIxQ_ap, mCons_ap, mTup_ap, mLst_ap, mIf_ap, mAnd_ap, mOr_ap, mNot_ap, mSeq_ap, mNx_ap, mAsg_ap, mDrop_ap, mRet_ap, mRetD_ap, mIfS_ap, mCall_ap, mRaise_ap, mSetV_ap, mMth_ap, mIns_ap, mSeqD_ap, mRange1_ap, mPart_ap, mSl_ap, mAsgT_ap, mFor_ap, mTry_ap, mMthP_ap, mM1_ap, mHv_ap, mHq_ap, mHe_ap, qV_ap, qC_ap, tName_ap, opt_some, opt_none, List.getElem?_cons_zero, List.getElem?_cons_succ, List.set_cons_zero, List.set_cons_succ, List.replicate, List.append_nil, List.cons_append, List.nil_append, Option.map_some, Option.map_none, Option.bind_some, Option.bind_none, data_sh, fIx_lst, fIx_tup, fIx_wl, fIx_wt, fLen_lst, fLen_tup, fLen_wl, fAdd_int, fSub_int, fLt_int, fLe_int, fGt_int, fGe_int, finA, Bool.false_eq_true, if_true, if_false, ite_true, ite_false, List.length_map, List.length_cons, List.length_nil, decide_eq_true_eq, restore, Nat.reduceAdd, Nat.reduceLT, Nat.reduceLeDiff, Int.reduceToNat, Int.reduceLE, Int.reduceLT, Int.reduceAdd, Int.reduceNeg, Nat.zero_add, reduceIte, decide_true, decide_false, Nat.reduceSub, and_self, and_true, true_and, tName_ap, atI_cons0, c, wipeE, ih]
    simp
theorem cat_lst {a b : List D} (h : a.length + b.length < 1000) : fAdd (.sh (.lst a)) (.sh (.lst b)) = some (.lst ((a ++ b).map .sh)) := by
  unfold fAdd iop catS catL catT
  simp [W.items, W.titems, Nat.le_trans (Nat.le_of_lt h) sz]
theorem datas_sh : ∀ ds : List D, W.datas (ds.map .sh) = some ds
  | [] => rfl
  | d :: ds => by
    show (match W.data (.sh d), W.datas (ds.map .sh) with | some d, some ds => some (d :: ds) | _, _ => none) = _
    rw [datas_sh ds]; rfl
theorem shs_str : ∀ ns : List Str, shs (ns.map fun s => .sh (.str s)) = some (ns.map .str)
  | [] => rfl
  | s :: ns => by
    show (shs (ns.map fun s => .sh (.str s))).map _ = _
    rw [shs_str ns]; rfl
theorem flatDs_str : ∀ ns : List Str, flatDs (ns.map .str) = some (ns.map V.str)
  | [] => rfl
  | s :: ns => by
    simp only [List.map_cons, flatDs, flatD, flatDs_str ns]
theorem inV_str {x : Str} : ∀ ns : List Str, (∀ s ∈ ns, s ≠ x) → inV (.str x) (ns.map V.str) = false
  | [], _ => rfl
  | s :: ns, h => by
    have h1 := h s List.mem_cons_self
    have ih := inV_str ns fun s hs => h s (List.mem_cons_of_mem _ hs)
    unfold inV at ih ⊢
    rw [List.map_cons, List.any_cons, ih, Bool.or_false]
    show (s == x) = false
    simpa using h1
theorem not_in {x : Str} {ns : List Str} (h : ∀ s ∈ ns, s ≠ x) : fIn true (.sh (.str x)) (.lst (ns.map fun s => .sh (.str s))) = some (.sh (.bl true)) := by
  have e : fInSeq true (.sh (.str x)) (.lst (ns.map fun s => .sh (.str s))) = some (.sh (.bl true)) := by
    unfold fInSeq
    simp [flatD, W.any, W.items, shs_str, flatDs_str, inV_str ns h]
  unfold fIn fInStr
  rw [e]
/-- no thing of this name -/
theorem worth_no {ds looks : List D} {x : Str} {ns : List Str} (h : (ds ++ looks).map nmD = ns.map some) (hl : ds.length + looks.length < 1000) (hx : ∀ s ∈ ns, s ≠ x) : f_what_it_is_worth [.sh (wld ds looks), .sh (.str x)] = .exc "NoName" [.mov, .mov] := by
  have lc := lc_names (A := .sh (wld ds looks)) (B := .sh (.str x)) (e2 := .sh boxesD) (e3 := .sh (.lst ds)) (e4 := .sh (.lst looks)) (e5 := .sh beginD) (e6 := .sh goalD) (e7 := .mov) (e8 := .mov) (ds ++ looks) [] ns h (by simpa using hl)
  have dd : W.data (.lst ((ds ++ looks).map .sh)) = some (.lst (ds ++ looks)) := by
    show (W.datas _).map D.lst = _
    rw [datas_sh]; rfl
  unfold f_what_it_is_worth runF m_what_it_is_worth
  unfold wld at lc ⊢
  simp only [rt_ap, bad_ap, mC_ap, mG_ap, mV_ap, mMv_ap, mBv_ap, mSh_ap, mFr_ap, mBin_ap, mBinV_ap, m1_ap, mTest_ap, mIsN_ap, mIxQ_ap, mCons_ap, mTup_ap, mLst_ap, mIf_ap, mAnd_ap, mOr_ap, mNot_ap, mSeq_ap, mNx_ap, mAsg_ap, mDrop_ap, mRet_ap, mRetD_ap, mIfS_ap, mCall_ap, mRaise_ap, mSetV_ap, mMth_ap, mIns_ap, mSeqD_ap, mRange1_ap, mPart_ap, mSl_ap, mAsgT_ap, mFor_ap, mTry_ap, mMthP_ap, mM1_ap, mHv_ap, mHq_ap, mHe_ap, qV_ap, qC_ap, tName_ap, opt_some, opt_none, List.getElem?_cons_zero, List.getElem?_cons_succ, List.set_cons_zero, List.set_cons_succ, List.replicate, List.append_nil, List.cons_append, List.nil_append, Option.map_some, Option.map_none, Option.bind_some, Option.bind_none, data_sh, fIx_lst, fIx_tup, fIx_wl, fIx_wt, fLen_lst, fLen_tup, fLen_wl, fAdd_int, fSub_int, fLt_int, fLe_int, fGt_int, fGe_int, finA, Bool.false_eq_true, if_true, if_false, ite_true, ite_false, List.length_map, List.length_cons, List.length_nil, decide_eq_true_eq, restore, Nat.reduceAdd, Nat.reduceLT, Nat.reduceLeDiff, Int.reduceToNat, Int.reduceLE, Int.reduceLT, Int.reduceAdd, Int.reduceNeg, Nat.zero_add, reduceIte, decide_true, decide_false, Nat.reduceSub, and_self, and_true, true_and, mLc_ap, Fp.tTup, Fp.tNames, cat_lst hl, dd, wipeE, lc, unwipe, shOnly, not_in hx, finA_no (k := 0)]
/-! asked -/
def kindsD (c : Str) : D := .lst [.bl (decide (("NoText" : Str) = c)), .bl (decide (("NoWorld" : Str) = c)), .bl (decide (("NoPlan" : Str) = c)), .bl (decide (("NoName" : Str) = c)), .bl (decide (("NotSure" : Str) = c)), .bl (decide (("NotPlain" : Str) = c)), .bl (decide (("NoWeights" : Str) = c)),
  .bl (decide (("TooMany" : Str) = c)), .bl (decide (("NoOrder" : Str) = c)), .bl false]
theorem asked0 {world : D} {x : D} (h : f_what_it_is_worth [.sh world, .sh x] = .exc "NoName" [.mov, .mov]) : f_L_asked [.sh (.int 0), .sh world, .sh x] = .ok (.sh (kindsD "NoName")) [.mov, .mov, .mov] := by
  have b : b_L_asked_2 [.sh (.int 0), .sh world, .sh x, .lst [], .mov] = .exc "NoName" [.sh (.int 0), .sh world, .sh x, .lst [], .mov] := by
    unfold b_L_asked_2
    simp only [rt_ap, bad_ap, mC_ap, mG_ap, mV_ap, mMv_ap, mBv_ap, mSh_ap, mFr_ap, mBin_ap, mBinV_ap, m1_ap, mTest_ap, mIsN_ap, mIxQ_ap, mCons_ap, mTup_ap, mLst_ap, mIf_ap, mAnd_ap, mOr_ap, mNot_ap, mSeq_ap, mNx_ap, mAsg_ap, mDrop_ap, mRet_ap, mRetD_ap, mIfS_ap, mCall_ap, mRaise_ap, mSetV_ap, mMth_ap, mIns_ap, mSeqD_ap, mRange1_ap, mPart_ap, mSl_ap, mAsgT_ap, mFor_ap, mTry_ap, mMthP_ap, mM1_ap, mHv_ap, mHq_ap, mHe_ap, qV_ap, qC_ap, tName_ap, opt_some, opt_none, List.getElem?_cons_zero, List.getElem?_cons_succ, List.set_cons_zero, List.set_cons_succ, List.replicate, List.append_nil, List.cons_append, List.nil_append, Option.map_some, Option.map_none, Option.bind_some, Option.bind_none, data_sh, fIx_lst, fIx_tup, fIx_wl, fIx_wt, fLen_lst, fLen_tup, fLen_wl, fAdd_int, fSub_int, fLt_int, fLe_int, fGt_int, fGe_int, finA, Bool.false_eq_true, if_true, if_false, ite_true, ite_false, List.length_map, List.length_cons, List.length_nil, decide_eq_true_eq, restore, Nat.reduceAdd, Nat.reduceLT, Nat.reduceLeDiff, Int.reduceToNat, Int.reduceLE, Int.reduceLT, Int.reduceAdd, Int.reduceNeg, Nat.zero_add, reduceIte, decide_true, decide_false, Nat.reduceSub, and_self, and_true, true_and, fEq_int, h]
  unfold f_L_asked runF m_L_asked
  simp only [rt_ap, bad_ap, mC_ap, mG_ap, mV_ap, mMv_ap, mBv_ap, mSh_ap, mFr_ap, mBin_ap, mBinV_ap, m1_ap, mTest_ap, mIsN_ap, mIxQ_ap, mCons_ap, mTup_ap, mLst_ap, mIf_ap, mAnd_ap, mOr_ap, mNot_ap, mSeq_ap, mNx_ap, mAsg_ap, mDrop_ap, mRet_ap, mRetD_ap, mIfS_ap, mCall_ap, mRaise_ap, mSetV_ap, mMth_ap, mIns_ap, mSeqD_ap, mRange1_ap, mPart_ap, mSl_ap, mAsgT_ap, mFor_ap, mTry_ap, mMthP_ap, mM1_ap, mHv_ap, mHq_ap, mHe_ap, qV_ap, qC_ap, tName_ap, opt_some, opt_none, List.getElem?_cons_zero, List.getElem?_cons_succ, List.set_cons_zero, List.set_cons_succ, List.replicate, List.append_nil, List.cons_append, List.nil_append, Option.map_some, Option.map_none, Option.bind_some, Option.bind_none, data_sh, fIx_lst, fIx_tup, fIx_wl, fIx_wt, fLen_lst, fLen_tup, fLen_wl, fAdd_int, fSub_int, fLt_int, fLe_int, fGt_int, fGe_int, finA, Bool.false_eq_true, if_true, if_false, ite_true, ite_false, List.length_map, List.length_cons, List.length_nil, decide_eq_true_eq, restore, Nat.reduceAdd, Nat.reduceLT, Nat.reduceLeDiff, Int.reduceToNat, Int.reduceLE, Int.reduceLT, Int.reduceAdd, Int.reduceNeg, Nat.zero_add, reduceIte, decide_true, decide_false, Nat.reduceSub, and_self, and_true, true_and, b, finA_no (k := 0)]
  kernel_rfl
theorem asked1 {world : D} {x : D} (h : f_row_works [.sh world, .sh x] = .exc "NoName" [.mov, .mov]) : f_L_asked [.sh (.int 1), .sh world, .sh x] = .ok (.sh (kindsD "NoName")) [.mov, .mov, .mov] := by
  have b : b_L_asked_2 [.sh (.int 1), .sh world, .sh x, .lst [], .mov] = .exc "NoName" [.sh (.int 1), .sh world, .sh x, .lst [], .mov] := by
    unfold b_L_asked_2
    simp only [rt_ap, bad_ap, mC_ap, mG_ap, mV_ap, mMv_ap, mBv_ap, mSh_ap, mFr_ap, mBin_ap, mBinV_ap, m1_ap, mTest_ap, mIsN_ap, mIxQ_ap, mCons_ap, mTup_ap, mLst_ap, mIf_ap, mAnd_ap, mOr_ap, mNot_ap, mSeq_ap, mNx_ap, mAsg_ap, mDrop_ap, mRet_ap, mRetD_ap, mIfS_ap, mCall_ap, mRaise_ap, mSetV_ap, mMth_ap, mIns_ap, mSeqD_ap, mRange1_ap, mPart_ap, mSl_ap, mAsgT_ap, mFor_ap, mTry_ap, mMthP_ap, mM1_ap, mHv_ap, mHq_ap, mHe_ap, qV_ap, qC_ap, tName_ap, opt_some, opt_none, List.getElem?_cons_zero, List.getElem?_cons_succ, List.set_cons_zero, List.set_cons_succ, List.replicate, List.append_nil, List.cons_append, List.nil_append, Option.map_some, Option.map_none, Option.bind_some, Option.bind_none, data_sh, fIx_lst, fIx_tup, fIx_wl, fIx_wt, fLen_lst, fLen_tup, fLen_wl, fAdd_int, fSub_int, fLt_int, fLe_int, fGt_int, fGe_int, finA, Bool.false_eq_true, if_true, if_false, ite_true, ite_false, List.length_map, List.length_cons, List.length_nil, decide_eq_true_eq, restore, Nat.reduceAdd, Nat.reduceLT, Nat.reduceLeDiff, Int.reduceToNat, Int.reduceLE, Int.reduceLT, Int.reduceAdd, Int.reduceNeg, Nat.zero_add, reduceIte, decide_true, decide_false, Nat.reduceSub, and_self, and_true, true_and, fEq_int, h, show ¬ ((1 : Int) = 0) by decide]
  unfold f_L_asked runF m_L_asked
  simp only [rt_ap, bad_ap, mC_ap, mG_ap, mV_ap, mMv_ap, mBv_ap, mSh_ap, mFr_ap, mBin_ap, mBinV_ap, m1_ap, mTest_ap, mIsN_ap, mIxQ_ap, mCons_ap, mTup_ap, mLst_ap, mIf_ap, mAnd_ap, mOr_ap, mNot_ap, mSeq_ap, mNx_ap, mAsg_ap, mDrop_ap, mRet_ap, mRetD_ap, mIfS_ap, mCall_ap, mRaise_ap, mSetV_ap, mMth_ap, mIns_ap, mSeqD_ap, mRange1_ap, mPart_ap, mSl_ap, mAsgT_ap, mFor_ap, mTry_ap, mMthP_ap, mM1_ap, mHv_ap, mHq_ap, mHe_ap, qV_ap, qC_ap, tName_ap, opt_some, opt_none, List.getElem?_cons_zero, List.getElem?_cons_succ, List.set_cons_zero, List.set_cons_succ, List.replicate, List.append_nil, List.cons_append, List.nil_append, Option.map_some, Option.map_none, Option.bind_some, Option.bind_none, data_sh, fIx_lst, fIx_tup, fIx_wl, fIx_wt, fLen_lst, fLen_tup, fLen_wl, fAdd_int, fSub_int, fLt_int, fLe_int, fGt_int, fGe_int, finA, Bool.false_eq_true, if_true, if_false, ite_true, ite_false, List.length_map, List.length_cons, List.length_nil, decide_eq_true_eq, restore, Nat.reduceAdd, Nat.reduceLT, Nat.reduceLeDiff, Int.reduceToNat, Int.reduceLE, Int.reduceLT, Int.reduceAdd, Int.reduceNeg, Nat.zero_add, reduceIte, decide_true, decide_false, Nat.reduceSub, and_self, and_true, true_and, b, finA_no (k := 0)]
  kernel_rfl
theorem asked23 {world : D} {x : D} {c : Str} {door : Int} (hd : door = 2 ∨ door = 3) (hc : c = "NotPlain" ∨ c = "NoWeights") (h : f_checked [.sh world, .sh x] = .exc c [.mov, .mov]) : f_L_asked [.sh (.int door), .sh world, .sh x] = .ok (.sh (kindsD c)) [.mov, .mov, .mov] := by
  have h2 : f_least_mean [.sh world, .sh x] = .exc c [.mov, .mov] := by
    unfold f_least_mean runF m_least_mean
    simp only [rt_ap, bad_ap, mC_ap, mG_ap, mV_ap, mMv_ap, mBv_ap, mSh_ap, mFr_ap, mBin_ap, mBinV_ap, m1_ap, mTest_ap, mIsN_ap, mIxQ_ap, mCons_ap, mTup_ap, mLst_ap, mIf_ap, mAnd_ap, mOr_ap, mNot_ap, mSeq_ap, mNx_ap, mAsg_ap, mDrop_ap, mRet_ap, mRetD_ap, mIfS_ap, mCall_ap, mRaise_ap, mSetV_ap, mMth_ap, mIns_ap, mSeqD_ap, mRange1_ap, mPart_ap, mSl_ap, mAsgT_ap, mFor_ap, mTry_ap, mMthP_ap, mM1_ap, mHv_ap, mHq_ap, mHe_ap, qV_ap, qC_ap, tName_ap, opt_some, opt_none, List.getElem?_cons_zero, List.getElem?_cons_succ, List.set_cons_zero, List.set_cons_succ, List.replicate, List.append_nil, List.cons_append, List.nil_append, Option.map_some, Option.map_none, Option.bind_some, Option.bind_none, data_sh, fIx_lst, fIx_tup, fIx_wl, fIx_wt, fLen_lst, fLen_tup, fLen_wl, fAdd_int, fSub_int, fLt_int, fLe_int, fGt_int, fGe_int, finA, Bool.false_eq_true, if_true, if_false, ite_true, ite_false, List.length_map, List.length_cons, List.length_nil, decide_eq_true_eq, restore, Nat.reduceAdd, Nat.reduceLT, Nat.reduceLeDiff, Int.reduceToNat, Int.reduceLE, Int.reduceLT, Int.reduceAdd, Int.reduceNeg, Nat.zero_add, reduceIte, decide_true, decide_false, Nat.reduceSub, and_self, and_true, true_and, h, finA_no (k := 0)]
  have dn : W.data (.lst [.sh (.tup [.str "end"])]) = some (.lst [.tup [.str "end"]]) := rfl
  have h3 : f_mean_price [.sh world, .sh (.lst [.tup [.str "end"]]), .sh x] = .exc c [.mov, .mov, .mov] := by
    unfold f_mean_price runF m_mean_price
    simp only [rt_ap, bad_ap, mC_ap, mG_ap, mV_ap, mMv_ap, mBv_ap, mSh_ap, mFr_ap, mBin_ap, mBinV_ap, m1_ap, mTest_ap, mIsN_ap, mIxQ_ap, mCons_ap, mTup_ap, mLst_ap, mIf_ap, mAnd_ap, mOr_ap, mNot_ap, mSeq_ap, mNx_ap, mAsg_ap, mDrop_ap, mRet_ap, mRetD_ap, mIfS_ap, mCall_ap, mRaise_ap, mSetV_ap, mMth_ap, mIns_ap, mSeqD_ap, mRange1_ap, mPart_ap, mSl_ap, mAsgT_ap, mFor_ap, mTry_ap, mMthP_ap, mM1_ap, mHv_ap, mHq_ap, mHe_ap, qV_ap, qC_ap, tName_ap, opt_some, opt_none, List.getElem?_cons_zero, List.getElem?_cons_succ, List.set_cons_zero, List.set_cons_succ, List.replicate, List.append_nil, List.cons_append, List.nil_append, Option.map_some, Option.map_none, Option.bind_some, Option.bind_none, data_sh, fIx_lst, fIx_tup, fIx_wl, fIx_wt, fLen_lst, fLen_tup, fLen_wl, fAdd_int, fSub_int, fLt_int, fLe_int, fGt_int, fGe_int, finA, Bool.false_eq_true, if_true, if_false, ite_true, ite_false, List.length_map, List.length_cons, List.length_nil, decide_eq_true_eq, restore, Nat.reduceAdd, Nat.reduceLT, Nat.reduceLeDiff, Int.reduceToNat, Int.reduceLE, Int.reduceLT, Int.reduceAdd, Int.reduceNeg, Nat.zero_add, reduceIte, decide_true, decide_false, Nat.reduceSub, and_self, and_true, true_and, h, finA_no (k := 0)]
  have b : b_L_asked_2 [.sh (.int door), .sh world, .sh x, .lst [], .mov] = .exc c [.sh (.int door), .sh world, .sh x, .lst [], .mov] := by
    unfold b_L_asked_2
    rcases hd with rfl | rfl
    · simp only [rt_ap, bad_ap, mC_ap, mG_ap, mV_ap, mMv_ap, mBv_ap, mSh_ap, mFr_ap, mBin_ap, mBinV_ap, m1_ap, mTest_ap, mIsN_ap, mIxQ_ap, mCons_ap, mTup_ap, mLst_ap, mIf_ap, mAnd_ap, mOr_ap, mNot_ap, mSeq_ap, mNx_ap, mAsg_ap, mDrop_ap, mRet_ap, mRetD_ap, mIfS_ap, mCall_ap, mRaise_ap, mSetV_ap, mMth_ap, mIns_ap, mSeqD_ap, mRange1_ap, mPart_ap, mSl_ap, mAsgT_ap, mFor_ap, mTry_ap, mMthP_ap, mM1_ap, mHv_ap, mHq_ap, mHe_ap, qV_ap, qC_ap, tName_ap, opt_some, opt_none, List.getElem?_cons_zero, List.getElem?_cons_succ, List.set_cons_zero, List.set_cons_succ, List.replicate, List.append_nil, List.cons_append, List.nil_append, Option.map_some, Option.map_none, Option.bind_some, Option.bind_none, data_sh, fIx_lst, fIx_tup, fIx_wl, fIx_wt, fLen_lst, fLen_tup, fLen_wl, fAdd_int, fSub_int, fLt_int, fLe_int, fGt_int, fGe_int, finA, Bool.false_eq_true, if_true, if_false, ite_true, ite_false, List.length_map, List.length_cons, List.length_nil, decide_eq_true_eq, restore, Nat.reduceAdd, Nat.reduceLT, Nat.reduceLeDiff, Int.reduceToNat, Int.reduceLE, Int.reduceLT, Int.reduceAdd, Int.reduceNeg, Nat.zero_add, reduceIte, decide_true, decide_false, Nat.reduceSub, and_self, and_true, true_and, fEq_int, h2, show ¬ ((2 : Int) = 0) by decide, show ¬ ((2 : Int) = 1) by decide]
    · simp only [rt_ap, bad_ap, mC_ap, mG_ap, mV_ap, mMv_ap, mBv_ap, mSh_ap, mFr_ap, mBin_ap, mBinV_ap, m1_ap, mTest_ap, mIsN_ap, mIxQ_ap, mCons_ap, mTup_ap, mLst_ap, mIf_ap, mAnd_ap, mOr_ap, mNot_ap, mSeq_ap, mNx_ap, mAsg_ap, mDrop_ap, mRet_ap, mRetD_ap, mIfS_ap, mCall_ap, mRaise_ap, mSetV_ap, mMth_ap, mIns_ap, mSeqD_ap, mRange1_ap, mPart_ap, mSl_ap, mAsgT_ap, mFor_ap, mTry_ap, mMthP_ap, mM1_ap, mHv_ap, mHq_ap, mHe_ap, qV_ap, qC_ap, tName_ap, opt_some, opt_none, List.getElem?_cons_zero, List.getElem?_cons_succ, List.set_cons_zero, List.set_cons_succ, List.replicate, List.append_nil, List.cons_append, List.nil_append, Option.map_some, Option.map_none, Option.bind_some, Option.bind_none, data_sh, fIx_lst, fIx_tup, fIx_wl, fIx_wt, fLen_lst, fLen_tup, fLen_wl, fAdd_int, fSub_int, fLt_int, fLe_int, fGt_int, fGe_int, finA, Bool.false_eq_true, if_true, if_false, ite_true, ite_false, List.length_map, List.length_cons, List.length_nil, decide_eq_true_eq, restore, Nat.reduceAdd, Nat.reduceLT, Nat.reduceLeDiff, Int.reduceToNat, Int.reduceLE, Int.reduceLT, Int.reduceAdd, Int.reduceNeg, Nat.zero_add, reduceIte, decide_true, decide_false, Nat.reduceSub, and_self, and_true, true_and, fEq_int, h3, shs, dn, show ¬ ((3 : Int) = 0) by decide, show ¬ ((3 : Int) = 1) by decide, show ¬ ((3 : Int) = 2) by decide]
  unfold f_L_asked runF m_L_asked
  simp only [rt_ap, bad_ap, mC_ap, mG_ap, mV_ap, mMv_ap, mBv_ap, mSh_ap, mFr_ap, mBin_ap, mBinV_ap, m1_ap, mTest_ap, mIsN_ap, mIxQ_ap, mCons_ap, mTup_ap, mLst_ap, mIf_ap, mAnd_ap, mOr_ap, mNot_ap, mSeq_ap, mNx_ap, mAsg_ap, mDrop_ap, mRet_ap, mRetD_ap, mIfS_ap, mCall_ap, mRaise_ap, mSetV_ap, mMth_ap, mIns_ap, mSeqD_ap, mRange1_ap, mPart_ap, mSl_ap, mAsgT_ap, mFor_ap, mTry_ap, mMthP_ap, mM1_ap, mHv_ap, mHq_ap, mHe_ap, qV_ap, qC_ap, tName_ap, opt_some, opt_none, List.getElem?_cons_zero, List.getElem?_cons_succ, List.set_cons_zero, List.set_cons_succ, List.replicate, List.append_nil, List.cons_append, List.nil_append, Option.map_some, Option.map_none, Option.bind_some, Option.bind_none, data_sh, fIx_lst, fIx_tup, fIx_wl, fIx_wt, fLen_lst, fLen_tup, fLen_wl, fAdd_int, fSub_int, fLt_int, fLe_int, fGt_int, fGe_int, finA, Bool.false_eq_true, if_true, if_false, ite_true, ite_false, List.length_map, List.length_cons, List.length_nil, decide_eq_true_eq, restore, Nat.reduceAdd, Nat.reduceLT, Nat.reduceLeDiff, Int.reduceToNat, Int.reduceLE, Int.reduceLT, Int.reduceAdd, Int.reduceNeg, Nat.zero_add, reduceIte, decide_true, decide_false, Nat.reduceSub, and_self, and_true, true_and, b, finA_no (k := 0)]
  rcases hc with rfl | rfl <;> kernel_rfl
end K96

set_option Elab.async false
set_option linter.all false
set_option maxRecDepth 100000
set_option maxHeartbeats 4000000
namespace K96
open PySem PySem.Spec L2 Fp
open PyProof.Rows hiding St
def NM : List Str := ["two" ++ "c", "one" ++ "c", "two" ++ "b", "one" ++ "b", "two" ++ "a", "one" ++ "a"]
def BadN (x : Str) : Prop := ∀ s ∈ (("see" : Str) :: NM), s ≠ x
instance (x : Str) : Decidable (BadN x) := by unfold BadN; infer_instance
theorem φ_deed {nm : Str} {p : Int} {w : D} : φ (deedW nm p [.sh w]) = deedD nm p [w] := by
  have := data_deed (nm := nm) (p := p) (ds := [w])
  unfold φ
  rw [show W.data (deedW nm p [.sh w]) = some (deedD nm p [w]) from this]
  rfl
section
variable {ds : List D} {p1 p2 p3 p4 p5 p6 : Int} (h : ds.Perm ((six p1 p2 p3 p4 p5 p6).map φ))
include h
theorem ds_shape : ∀ d ∈ ds, ∃ nm p w1, d = deedD nm p [w1] ∧ nm ∈ NM := fun d hd => by
  have := h.mem_iff.mp hd
  simp only [six, List.map_cons, List.map_nil, φ_deed, List.mem_cons, List.not_mem_nil, or_false] at this
  rcases this with rfl | rfl | rfl | rfl | rfl | rfl <;> exact ⟨_, _, _, rfl, by simp [NM]⟩
theorem ds_names : ∀ nm ∈ NM, ∃ d ∈ ds, nmD d = some nm := fun nm hn => by
  have key : ∀ d ∈ (six p1 p2 p3 p4 p5 p6).map φ, d ∈ ds := fun d hd => h.mem_iff.mpr hd
  simp only [six, List.map_cons, List.map_nil, φ_deed] at key
  simp only [NM, List.mem_cons, List.not_mem_nil, or_false] at hn
  rcases hn with rfl | rfl | rfl | rfl | rfl | rfl
  · exact ⟨_, key _ List.mem_cons_self, rfl⟩
  · exact ⟨_, key _ (List.mem_cons_of_mem _ List.mem_cons_self), rfl⟩
  · exact ⟨_, key _ (List.mem_cons_of_mem _ (List.mem_cons_of_mem _ List.mem_cons_self)), rfl⟩
  · exact ⟨_, key _ (List.mem_cons_of_mem _ (List.mem_cons_of_mem _ (List.mem_cons_of_mem _ List.mem_cons_self))), rfl⟩
  · exact ⟨_, key _ (List.mem_cons_of_mem _ (List.mem_cons_of_mem _ (List.mem_cons_of_mem _ (List.mem_cons_of_mem _ List.mem_cons_self)))), rfl⟩
  · exact ⟨_, key _ (List.mem_cons_of_mem _ (List.mem_cons_of_mem _ (List.mem_cons_of_mem _ (List.mem_cons_of_mem _ (List.mem_cons_of_mem _ List.mem_cons_self))))), rfl⟩
theorem ask0 {looks : List D} (hl : looks = [] ∨ looks = [seeD]) {x : Str} (hx : BadN x) : f_L_asked [.sh (.int 0), .sh (wld ds looks), .sh (.str x)] = .ok (.sh (kindsD "NoName")) [.mov, .mov, .mov] := by
  have n6 : ds.length = 6 := h.length_eq
  have nm : ∀ d ∈ ds ++ looks, ∃ s, nmD d = some s ∧ s ∈ (("see" : Str) :: NM) := fun d hd => by
    rcases List.mem_append.mp hd with hd | hd
    · obtain ⟨nm, p, w1, rfl, hn⟩ := ds_shape h d hd
      exact ⟨nm, rfl, List.mem_cons_of_mem _ hn⟩
    · rcases hl with rfl | rfl
      · cases hd
      · rcases List.mem_cons.mp hd with rfl | hd
        · exact ⟨"see", rfl, List.mem_cons_self⟩
        · cases hd
  refine asked0 (worth_no (ns := (ds ++ looks).map fun d => (nmD d).getD "see") ?_ ?_ fun s hs => ?_)
  · rw [List.map_map]
    refine List.map_congr_left fun d hd => ?_
    obtain ⟨s, e, _⟩ := nm d hd
    simp [e]
  · rcases hl with rfl | rfl <;> simp [n6]
  · obtain ⟨d, hd, rfl⟩ := List.mem_map.mp hs
    obtain ⟨s, e, hs⟩ := nm d hd
    rw [e]
    exact hx s hs
theorem ask1 {looks : List D} {x : Str} (hx : BadN x) {pre post : List D} (hp : ∀ y ∈ pre, ∃ s, y = .str s ∧ s ∈ NM) : f_L_asked [.sh (.int 1), .sh (wld ds looks), .sh (.lst (pre ++ .str x :: post))] = .ok (.sh (kindsD "NoName")) [.mov, .mov, .mov] := by
  refine asked1 (row_no (fun d hd => ?_) (fun d hd s e => ?_) fun y hy => ?_)
  · obtain ⟨nm, p, w1, rfl, hn⟩ := ds_shape h d hd
    exact ⟨nm, rfl⟩
  · obtain ⟨nm, p, w1, rfl, hn⟩ := ds_shape h d hd
    cases e
    exact hx _ (List.mem_cons_of_mem _ hn)
  · obtain ⟨s, rfl, hs⟩ := hp y hy
    exact ⟨s, rfl, ds_names h s hs⟩
theorem ask2 {looks ws : List D} {door : Int} (hd : door = 2 ∨ door = 3) (hw : BadW ws) : f_L_asked [.sh (.int door), .sh (wld ds looks), .sh (.lst ws)] = .ok (.sh (kindsD "NoWeights")) [.mov, .mov, .mov] :=
  asked23 hd (.inr rfl) (checked_bad (fun d hd => by
    obtain ⟨nm, p, w1, rfl, hn⟩ := ds_shape h d hd
    exact ⟨_, _, _, rfl⟩) hw)
end
theorem ask3 {ds looks : List D} {ws : D} {door : Int} (hd : door = 2 ∨ door = 3) (h : ∀ d ∈ ds, ∃ nm p ways, d = deedD nm p ways) (k : ∃ d ∈ ds, ∃ nm p w1 w2, d = deedD nm p [w1, w2]) : f_L_asked [.sh (.int door), .sh (wld ds looks), .sh ws] = .ok (.sh (kindsD "NotPlain")) [.mov, .mov, .mov] :=
  asked23 hd (.inl rfl) (checked_more h k)
/-! the parts of the law -/
def kW (n : Int) : W := .lst ((List.range 10).map fun (k : Nat) => .sh (.bl (decide ((k : Int) = n))))
theorem k2_ok {a0 a1 a2 a3 a4 a5 a6 a7 a8 : W} : mLc (mRange1 (mC (.int 10))) (Fp.tName 9) [9] (rt true) b_law_2 [a0, a1, a2, a3, a4, a5, a6, a7, a8, .mov] = .ok (kW 3) [a0, a1, a2, a3, a4, a5, a6, a7, a8, .mov] := by kernel_rfl
theorem k3_ok {a0 a1 a2 a3 a4 a5 a6 a7 a8 : W} : mLc (mRange1 (mC (.int 10))) (Fp.tName 9) [9] (rt true) b_law_3 [a0, a1, a2, a3, a4, a5, a6, a7, a8, .mov] = .ok (kW 3) [a0, a1, a2, a3, a4, a5, a6, a7, a8, .mov] := by kernel_rfl
theorem k4_ok {a0 a1 a2 a3 a4 a5 a6 a7 a8 : W} : mLc (mRange1 (mC (.int 10))) (Fp.tName 9) [9] (rt true) b_law_4 [a0, a1, a2, a3, a4, a5, a6, a7, a8, .mov] = .ok (kW 6) [a0, a1, a2, a3, a4, a5, a6, a7, a8, .mov] := by kernel_rfl
theorem k5_ok {a0 a1 a2 a3 a4 a5 a6 a7 a8 : W} : mLc (mRange1 (mC (.int 10))) (Fp.tName 9) [9] (rt true) b_law_5 [a0, a1, a2, a3, a4, a5, a6, a7, a8, .mov] = .ok (kW 5) [a0, a1, a2, a3, a4, a5, a6, a7, a8, .mov] := by kernel_rfl
theorem ne3 : fNe (.sh (kindsD "NoName")) (kW 3) = some (.sh (.bl false)) := by kernel_rfl
theorem ne6 : fNe (.sh (kindsD "NoWeights")) (kW 6) = some (.sh (.bl false)) := by kernel_rfl
theorem ne5 : fNe (.sh (kindsD "NotPlain")) (kW 5) = some (.sh (.bl false)) := by kernel_rfl
/-- 'onea' and some x -/
theorem xs_ok {r : Int} (h : 0 ≤ r) (h2 : r < 3) : ∃ y z, fMul (.sh (.str "x")) (.sh (.int (1 + r))) = some (.sh (.str y)) ∧ fAdd (.sh (.str "onea")) (.sh (.str y)) = some (.sh (.str z)) ∧ BadN z := by
  have : r = 0 ∨ r = 1 ∨ r = 2 := by omega
  rcases this with rfl | rfl | rfl
  · exact ⟨"x", "oneax", by kernel_rfl, by kernel_rfl, by decide +kernel⟩
  · exact ⟨"xx", "oneaxx", by kernel_rfl, by kernel_rfl, by decide +kernel⟩
  · exact ⟨"xxx", "oneaxxx", by kernel_rfl, by kernel_rfl, by decide +kernel⟩
theorem name_ok {r : Int} {z : Str} (hz : BadN z) (h : 0 ≤ r) (h2 : r < 7) : ∃ x, fIxS (.sh (.lst [.str z, .str "one", .str "nobody", .str "h", .str "a", .str "seen", .str "twod"])) (.sh (.int r)) = some (.sh (.str x)) ∧ BadN x := by
  have : r = 0 ∨ r = 1 ∨ r = 2 ∨ r = 3 ∨ r = 4 ∨ r = 5 ∨ r = 6 := by omega
  rcases this with rfl | rfl | rfl | rfl | rfl | rfl | rfl
  · exact ⟨z, by kernel_rfl, hz⟩
  · exact ⟨"one", by kernel_rfl, by decide +kernel⟩
  · exact ⟨"nobody", by kernel_rfl, by decide +kernel⟩
  · exact ⟨"h", by kernel_rfl, by decide +kernel⟩
  · exact ⟨"a", by kernel_rfl, by decide +kernel⟩
  · exact ⟨"seen", by kernel_rfl, by decide +kernel⟩
  · exact ⟨"twod", by kernel_rfl, by decide +kernel⟩
theorem pick_ok {r : Int} (h : 0 ≤ r) (h2 : r < 3) : ∃ s, fIxS (.sh (.lst [.str "onea", .str "twob", .str "onec"])) (.sh (.int r)) = some (.sh (.str s)) ∧ s ∈ NM := by
  have : r = 0 ∨ r = 1 ∨ r = 2 := by omega
  rcases this with rfl | rfl | rfl
  · exact ⟨"onea", by kernel_rfl, by decide +kernel⟩
  · exact ⟨"twob", by kernel_rfl, by decide +kernel⟩
  · exact ⟨"onec", by kernel_rfl, by decide +kernel⟩
theorem row_lc {S Wl Wd N e5 e6 e7 e9 : W} : ∀ (ds : List D) (acc : List D) (a b : Int), GW a b → (∀ y ∈ acc, ∃ s, y = .str s ∧ s ∈ NM) → acc.length + ds.length < 900 → ∃ (a' b' : Int) (acc' : List D), GW a' b' ∧ (∀ y ∈ acc', ∃ s, y = .str s ∧ s ∈ NM) ∧ acc'.length = acc.length + ds.length ∧
    lcB (Fp.tName 8) [8] (rt true) b_law_1 ds (acc.map .sh) [S, Wl, Wd, .lst [.sh (.int a), .sh (.int b)], N, e5, e6, e7, .mov, e9] = .ok (.lst (acc'.map .sh)) [S, Wl, Wd, .lst [.sh (.int a'), .sh (.int b')], N, e5, e6, e7, .mov, e9]
  | [], acc, a, b, g, ha, _ => ⟨a, b, acc, g, ha, rfl, by rw [lcB_nil]⟩
  | d :: ds, acc, a, b, g, ha, hl => by
    obtain ⟨r, a1, b1, h1, h2, g1, e1⟩ := take2 3 g (by decide) (by decide)
    obtain ⟨s, es, hs⟩ := pick_ok h1 h2
    obtain ⟨a', b', acc', g', ha', hl', ih⟩ := row_lc (S := S) (Wl := Wl) (Wd := Wd) (N := N) (e5 := e5) (e6 := e6) (e7 := e7) (e9 := e9) ds (acc ++ [.str s]) a1 b1 g1 (fun y hy => by
      rcases List.mem_append.mp hy with hy | hy
      · exact ha y hy
      · rcases List.mem_cons.mp hy with rfl | hy
        · exact ⟨s, rfl, hs⟩
        · cases hy) (by simp at hl ⊢; omega)
    refine ⟨a', b', acc', g', ha', by rw [hl']; simp; omega, ?_⟩
    have c : (acc.map W.sh).length < sizeLine := Nat.lt_of_lt_of_le (by simp at hl ⊢; omega) sz
    have da : W.data (.lst [.sh (.str "onea"), .sh (.str "twob"), .sh (.str "onec")]) = some (.lst [.str "onea", .str "twob", .str "onec"]) := rfl
    rw [lcB_cons]
    rw [List.map_append] at ih
    unfold b_law_1 at ih ⊢
    have c' : acc.length < sizeLine := by simpa using c
    simp only [rt_ap, bad_ap, mC_ap, mG_ap, mV_ap, mMv_ap, mBv_ap, mSh_ap, mFr_ap, mBin_ap, mBinV_ap, m1_ap, mTest_ap, mIsN_ap, mIxQ_ap, mCons_ap, mTup_ap, mLst_ap, mIf_ap, mAnd_ap, mOr_ap, mNot_ap, mSeq_ap, mNx_ap, mAsg_ap, mDrop_ap, mRet_ap, mRetD_ap, mIfS_ap, mCall_ap, mRaise_ap, mSetV_ap, mMth_ap, mIns_ap, mSeqD_ap, mRange1_ap, mPart_ap, mSl_ap, mAsgT_ap, mFor_ap, mTry_ap, mMthP_ap, mM1_ap, mHv_ap, mHq_ap, mHe_ap, qV_ap, qC_ap, tName_ap, opt_some, opt_none, List.getElem?_cons_zero, List.getElem?_cons_succ, List.set_cons_zero, List.set_cons_succ, List.replicate, List.append_nil, List.cons_append, List.nil_append, Option.map_some, Option.map_none, Option.bind_some, Option.bind_none, data_sh, fIx_lst, fIx_tup, fIx_wl, fIx_wt, fLen_lst, fLen_tup, fLen_wl, fAdd_int, fSub_int, fLt_int, fLe_int, fGt_int, fGe_int, finA, Bool.false_eq_true, if_true, if_false, ite_true, ite_false, List.length_map, List.length_cons, List.length_nil, decide_eq_true_eq, restore, Nat.reduceAdd, Nat.reduceLT, Nat.reduceLeDiff, Int.reduceToNat, Int.reduceLE, Int.reduceLT, Int.reduceAdd, Int.reduceNeg, Nat.zero_add, reduceIte, decide_true, decide_false, Nat.reduceSub, and_self, and_true, true_and, tName_ap, e1, da, es, c', wipeE, List.map_cons, List.map_nil] at ih ⊢
    exact ih
end K96

set_option Elab.async false
set_option linter.all false
set_option maxRecDepth 100000
set_option maxHeartbeats 4000000
namespace K96
open PySem PySem.Spec L2 Fp
open PyProof.Rows hiding St
theorem w_inner {r : Int} (h : 0 ≤ r) (h2 : r < 3) : ∃ ws, fIxS (.sh (.lst [.lst [.int 3], .lst [.int 3, .int 4, .int 5], .lst []])) (.sh (.int r)) = some (.sh (.lst ws)) ∧ ws.length ≠ 2 ∧ ws.length < 10 := by
  have : r = 0 ∨ r = 1 ∨ r = 2 := by omega
  rcases this with rfl | rfl | rfl
  · exact ⟨[.int 3], by kernel_rfl, by decide, by decide⟩
  · exact ⟨[.int 3, .int 4, .int 5], by kernel_rfl, by decide, by decide⟩
  · exact ⟨[], by kernel_rfl, by decide, by decide⟩
theorem w_outer {ws : List D} (h0 : ws.length ≠ 2) (h1 : ws.length < 10) {x r : Int} (hx : x < 1) (h : 0 ≤ r) (h2 : r < 2) : ∃ ws', fIxS (.sh (.lst [.lst ws, .lst [.int 1, .int x]])) (.sh (.int r)) = some (.sh (.lst ws')) ∧ BadW ws' := by
  have : r = 0 ∨ r = 1 := by omega
  rcases this with rfl | rfl
  · exact ⟨ws, by kernel_rfl, .inl ⟨h0, h1⟩⟩
  · exact ⟨_, by kernel_rfl, .inr ⟨1, x, rfl, .inr hx⟩⟩
theorem BadW.rev {ws : List D} (h : BadW ws) : BadW ws.reverse := by
  rcases h with ⟨h1, h2⟩ | ⟨a, b, rfl, h⟩
  · exact .inl ⟨by simpa using h1, by simpa using h2⟩
  · exact .inr ⟨b, a, rfl, h.symm⟩
theorem loop_turn {S own N row e7 W6 : W} {ds looks ws : List D} {p1 p2 p3 p4 p5 p6 : Int} (hp : ds.Perm ((six p1 p2 p3 p4 p5 p6).map φ)) (hw : BadW ws) (h6 : W.data W6 = some (.lst ws)) {a b door : Int} (g : GW a b) (hd : door = 2 ∨ door = 3) :
    ∃ a' b', GW a' b' ∧ mTurn (Fp.tName 7) b_law_6 (.int door) [S, .lst [.sh (.int a), .sh (.int b)], .sh (wld ds looks), own, N, row, W6, e7, .mov, .mov] = .ok .nx [S, .lst [.sh (.int a'), .sh (.int b')], .sh (wld ds looks), own, N, row, .sh (.lst ws), .sh (.int door), .mov, .mov] := by
  obtain ⟨a', b', ds2, looks2, g', e, s1, s2⟩ := world_more g
  have e : f_L_world [.lst [.sh (.int a), .sh (.int b)], .sh (.bl true)] = .ok (.sh (wld ds2 looks2)) [.lst [.sh (.int a'), .sh (.int b')], .mov] := e
  have q1 := ask2 hp (looks := looks) hd hw
  have q2 := ask3 (looks := looks2) (ws := .lst ws) hd s1 s2
  refine ⟨a', b', g', ?_⟩
  unfold b_law_6
  simp only [rt_ap, bad_ap, mC_ap, mG_ap, mV_ap, mMv_ap, mBv_ap, mSh_ap, mFr_ap, mBin_ap, mBinV_ap, m1_ap, mTest_ap, mIsN_ap, mIxQ_ap, mCons_ap, mTup_ap, mLst_ap, mIf_ap, mAnd_ap, mOr_ap, mNot_ap, mSeq_ap, mNx_ap, mAsg_ap, mDrop_ap, mRet_ap, mRetD_ap, mIfS_ap, mCall_ap, mRaise_ap, mSetV_ap, mMth_ap, mIns_ap, mSeqD_ap, mRange1_ap, mPart_ap, mSl_ap, mAsgT_ap, mFor_ap, mTry_ap, mMthP_ap, mM1_ap, mHv_ap, mHq_ap, mHe_ap, qV_ap, qC_ap, tName_ap, opt_some, opt_none, List.getElem?_cons_zero, List.getElem?_cons_succ, List.set_cons_zero, List.set_cons_succ, List.replicate, List.append_nil, List.cons_append, List.nil_append, Option.map_some, Option.map_none, Option.bind_some, Option.bind_none, data_sh, fIx_lst, fIx_tup, fIx_wl, fIx_wt, fLen_lst, fLen_tup, fLen_wl, fAdd_int, fSub_int, fLt_int, fLe_int, fGt_int, fGe_int, finA, Bool.false_eq_true, if_true, if_false, ite_true, ite_false, List.length_map, List.length_cons, List.length_nil, decide_eq_true_eq, restore, Nat.reduceAdd, Nat.reduceLT, Nat.reduceLeDiff, Int.reduceToNat, Int.reduceLE, Int.reduceLT, Int.reduceAdd, Int.reduceNeg, Nat.zero_add, reduceIte, decide_true, decide_false, Nat.reduceSub, and_self, and_true, true_and, mTurn_ap, tName_ap, h6, q1, q2, k4_ok, k5_ok, ne6, ne5, e]
theorem plain (ns : List Int) (_ : ns.length ≤ 63) : ∃ ws', f_law [.sh (intsD ns)] = .ok (.sh (.bl true)) ws' := by
  obtain ⟨c0, ec0⟩ := cell_ok ns 0
  obtain ⟨c1, ec1⟩ := cell_ok ns 1
  have ec0 : f_L_cell [.sh (intsD ns), .sh (.int 0)] = .ok (.sh (.int c0)) [.mov, .mov] := ec0
  have ec1 : f_L_cell [.sh (intsD ns), .sh (.int 1)] = .ok (.sh (.int c1)) [.mov, .mov] := ec1
  obtain ⟨_, ew0, a0, b0, rfl, g0⟩ := well_ok c0
  obtain ⟨_, ew1, x0, y0, rfl, h0⟩ := well_ok c1
  obtain ⟨a1, b1, ds, looks, p1, p2, p3, p4, p5, p6, g1, eW, hl, hp⟩ := world_ok (a := a0) (b := b0) g0
  have eW : f_L_world [.lst [.sh (.int a0), .sh (.int b0)], .sh (.bl false)] = .ok (.sh (wld ds looks)) [.lst [.sh (.int a1), .sh (.int b1)], .mov] := eW
  -- the name
  obtain ⟨r1, x1, y1, r1a, r1b, h1, t1⟩ := take2 (a := x0) (b := y0) 3 h0 (by decide) (by decide)
  obtain ⟨r2, x2, y2, r2a, r2b, h2, t2⟩ := take2 7 h1 (by decide) (by decide)
  obtain ⟨xs, z, m1, m2, bz⟩ := xs_ok r1a r1b
  obtain ⟨nm, m3, bn⟩ := name_ok bz r2a r2b
  have d7 : W.data (.lst [.sh (.str z), .sh (.str "one"), .sh (.str "nobody"), .sh (.str "h"), .sh (.str "a"), .sh (.str "seen"), .sh (.str "twod")]) = some (.lst [.str z, .str "one", .str "nobody", .str "h", .str "a", .str "seen", .str "twod"]) := rfl
  -- the row
  obtain ⟨r3, x3, y3, r3a, r3b, h3, t3⟩ := take2 9 h2 (by decide) (by decide)
  have rl : (rangeD 0 r3.toNat).length = r3.toNat := rangeD_len
  obtain ⟨x4, y4, row, h4, hrow, lrow, t4⟩ := row_lc (S := .sh (intsD ns)) (Wl := .lst [.sh (.int a1), .sh (.int b1)]) (Wd := .sh (wld ds looks)) (N := .sh (.str nm)) (e5 := .mov) (e6 := .mov) (e7 := .mov) (e9 := .mov) (rangeD 0 r3.toNat) [] x3 y3 h3 (fun y hy => by cases hy) (by simp only [List.length_nil]; omega)
  simp only [List.map_nil] at t4
  have e_row : mLc (mRange1 (mCall f_L_take [some 3, none] (mCons (mMv 3) (mCons (mFr (mC (.int 9))) (rt []))))) (Fp.tName 8) [8] (rt true) b_law_1 [.sh (intsD ns), .lst [.sh (.int a1), .sh (.int b1)], .sh (wld ds looks), .lst [.sh (.int x2), .sh (.int y2)], .sh (.str nm), .mov, .mov, .mov, .mov, .mov] =
      .ok (.lst (row.map W.sh)) [.sh (intsD ns), .lst [.sh (.int a1), .sh (.int b1)], .sh (wld ds looks), .lst [.sh (.int x4), .sh (.int y4)], .sh (.str nm), .mov, .mov, .mov, .mov, .mov] := by
    simp only [rt_ap, bad_ap, mC_ap, mG_ap, mV_ap, mMv_ap, mBv_ap, mSh_ap, mFr_ap, mBin_ap, mBinV_ap, m1_ap, mTest_ap, mIsN_ap, mIxQ_ap, mCons_ap, mTup_ap, mLst_ap, mIf_ap, mAnd_ap, mOr_ap, mNot_ap, mSeq_ap, mNx_ap, mAsg_ap, mDrop_ap, mRet_ap, mRetD_ap, mIfS_ap, mCall_ap, mRaise_ap, mSetV_ap, mMth_ap, mIns_ap, mSeqD_ap, mRange1_ap, mPart_ap, mSl_ap, mAsgT_ap, mFor_ap, mTry_ap, mMthP_ap, mM1_ap, mHv_ap, mHq_ap, mHe_ap, qV_ap, qC_ap, tName_ap, opt_some, opt_none, List.getElem?_cons_zero, List.getElem?_cons_succ, List.set_cons_zero, List.set_cons_succ, List.replicate, List.append_nil, List.cons_append, List.nil_append, Option.map_some, Option.map_none, Option.bind_some, Option.bind_none, data_sh, fIx_lst, fIx_tup, fIx_wl, fIx_wt, fLen_lst, fLen_tup, fLen_wl, fAdd_int, fSub_int, fLt_int, fLe_int, fGt_int, fGe_int, finA, Bool.false_eq_true, if_true, if_false, ite_true, ite_false, List.length_map, List.length_cons, List.length_nil, decide_eq_true_eq, restore, Nat.reduceAdd, Nat.reduceLT, Nat.reduceLeDiff, Int.reduceToNat, Int.reduceLE, Int.reduceLT, Int.reduceAdd, Int.reduceNeg, Nat.zero_add, reduceIte, decide_true, decide_false, Nat.reduceSub, and_self, and_true, true_and, mLc_ap, t3, wipeE, unwipe, shOnly, t4, show (-(2 ^ 62) ≤ r3 ∧ r3 < 2 ^ 62) from ⟨by omega, by omega⟩]
  have lrow' : row.length < 900 := by rw [lrow, rl]; simp only [List.length_nil]; omega
  obtain ⟨r5, x5, y5, r5a, r5b, h5, t5⟩ := take2 ((row.length : Int) + 1) h4 (by omega) (by omega)
  have c5 : row.length < sizeLine ∧ 0 ≤ r5 ∧ r5 < 2 ^ 63 := ⟨Nat.lt_of_lt_of_le (by omega) sz, r5a, by omega⟩
  have drow : W.data (.lst (List.take r5.toNat (row.map W.sh) ++ .sh (.str nm) :: List.drop r5.toNat (row.map W.sh))) = some (.lst (row.take r5.toNat ++ .str nm :: row.drop r5.toNat)) := by
    rw [← List.map_take, ← List.map_drop]
    show (W.datas _).map D.lst = _
    have : (row.take r5.toNat).map W.sh ++ W.sh (.str nm) :: (row.drop r5.toNat).map W.sh = (row.take r5.toNat ++ .str nm :: row.drop r5.toNat).map W.sh := by simp
    rw [this, datas_sh]; rfl
  -- the weights
  obtain ⟨r6, x6, y6, r6a, r6b, h6, t6⟩ := take2 3 h5 (by decide) (by decide)
  obtain ⟨ws0, m6, w0a, w0b⟩ := w_inner r6a r6b
  obtain ⟨r7, x7, y7, r7a, r7b, h7, t7⟩ := take2 9 h6 (by decide) (by decide)
  obtain ⟨r8, x8, y8, r8a, r8b, h8, t8⟩ := take2 2 h7 (by decide) (by decide)
  obtain ⟨ws, m8, bw⟩ := w_outer w0a w0b (x := 0 - r7) (by omega) r8a r8b
  obtain ⟨r9, x9, y9, r9a, r9b, h9, t9⟩ := take2 2 h8 (by decide) (by decide)
  have d3 : W.data (.lst [.lst [.sh (.int 3)], .lst [.sh (.int 3), .sh (.int 4), .sh (.int 5)], .lst []]) = some (.lst [.lst [.int 3], .lst [.int 3, .int 4, .int 5], .lst []]) := rfl
  have d2 : W.data (.lst [.sh (.lst ws0), .lst [.sh (.int 1), .sh (.int (0 - r7))]]) = some (.lst [.lst ws0, .lst [.int 1, .int (0 - r7)]]) := rfl
  have drev : W.data (.lst (ws.reverse.map W.sh)) = some (.lst ws.reverse) := by
    show (W.datas _).map D.lst = _
    rw [datas_sh]; rfl
  have q0 := ask0 hp hl bn
  have q1 := ask1 hp (looks := looks) bn (pre := row.take r5.toNat) (post := row.drop r5.toNat) fun y hy => hrow y (List.mem_of_mem_take hy)
  have dl : W.data (.lst [.sh (.int 2), .sh (.int 3)]) = some (.lst [.int 2, .int 3]) := rfl
  have itm : W.items (.sh (.lst ws)) = some ws := rfl
  unfold f_law runF m_law
  by_cases c9 : r9 = 1
  · obtain ⟨a2, b2, g2, l1⟩ := loop_turn (S := .sh (intsD ns)) (own := .lst [.sh (.int x9), .sh (.int y9)]) (N := .sh (.str nm)) (row := .sh (.lst (row.take r5.toNat ++ .str nm :: row.drop r5.toNat))) (e7 := .mov) (looks := looks) hp bw.rev drev (door := 2) g1 (.inl rfl)
    obtain ⟨a3, b3, g3, l2⟩ := loop_turn (S := .sh (intsD ns)) (own := .lst [.sh (.int x9), .sh (.int y9)]) (N := .sh (.str nm)) (row := .sh (.lst (row.take r5.toNat ++ .str nm :: row.drop r5.toNat))) (e7 := .sh (.int 2)) (looks := looks) hp bw.rev (data_sh (d := .lst ws.reverse)) (door := 3) g2 (.inr rfl)
    refine ⟨[.mov], ?_⟩
    simp only [rt_ap, bad_ap, mC_ap, mG_ap, mV_ap, mMv_ap, mBv_ap, mSh_ap, mFr_ap, mBin_ap, mBinV_ap, m1_ap, mTest_ap, mIsN_ap, mIxQ_ap, mCons_ap, mTup_ap, mLst_ap, mIf_ap, mAnd_ap, mOr_ap, mNot_ap, mSeq_ap, mNx_ap, mAsg_ap, mDrop_ap, mRet_ap, mRetD_ap, mIfS_ap, mCall_ap, mRaise_ap, mSetV_ap, mMth_ap, mIns_ap, mSeqD_ap, mRange1_ap, mPart_ap, mSl_ap, mAsgT_ap, mFor_ap, mTry_ap, mMthP_ap, mM1_ap, mHv_ap, mHq_ap, mHe_ap, qV_ap, qC_ap, tName_ap, opt_some, opt_none, List.getElem?_cons_zero, List.getElem?_cons_succ, List.set_cons_zero, List.set_cons_succ, List.replicate, List.append_nil, List.cons_append, List.nil_append, Option.map_some, Option.map_none, Option.bind_some, Option.bind_none, data_sh, fIx_lst, fIx_tup, fIx_wl, fIx_wt, fLen_lst, fLen_tup, fLen_wl, fAdd_int, fSub_int, fLt_int, fLe_int, fGt_int, fGe_int, finA, Bool.false_eq_true, if_true, if_false, ite_true, ite_false, List.length_map, List.length_cons, List.length_nil, decide_eq_true_eq, restore, Nat.reduceAdd, Nat.reduceLT, Nat.reduceLeDiff, Int.reduceToNat, Int.reduceLE, Int.reduceLT, Int.reduceAdd, Int.reduceNeg, Nat.zero_add, reduceIte, decide_true, decide_false, Nat.reduceSub, and_self, and_true, true_and, e_row, ec0, ec1, ew0, ew1, eW, t1, t2, t3, t4, t5, t6, t7, t8, t9, m1, m2, m3, m6, m8, d7, d3, d2, dl, wipeE, unwipe, shOnly, drow, c5, fEq_int, c9, mRev, itm, q0, q1, k2_ok, k3_ok, ne3, forB_nil, forB_cons, l1, l2, show (-(2 ^ 62) ≤ r3 ∧ r3 < 2 ^ 62) from ⟨by omega, by omega⟩, List.append_assoc, finA_no (k := 0)]
  · obtain ⟨a2, b2, g2, l1⟩ := loop_turn (S := .sh (intsD ns)) (own := .lst [.sh (.int x9), .sh (.int y9)]) (N := .sh (.str nm)) (row := .sh (.lst (row.take r5.toNat ++ .str nm :: row.drop r5.toNat))) (e7 := .mov) (looks := looks) hp bw (data_sh (d := .lst ws)) (door := 2) g1 (.inl rfl)
    obtain ⟨a3, b3, g3, l2⟩ := loop_turn (S := .sh (intsD ns)) (own := .lst [.sh (.int x9), .sh (.int y9)]) (N := .sh (.str nm)) (row := .sh (.lst (row.take r5.toNat ++ .str nm :: row.drop r5.toNat))) (e7 := .sh (.int 2)) (looks := looks) hp bw (data_sh (d := .lst ws)) (door := 3) g2 (.inr rfl)
    refine ⟨[.mov], ?_⟩
    simp only [rt_ap, bad_ap, mC_ap, mG_ap, mV_ap, mMv_ap, mBv_ap, mSh_ap, mFr_ap, mBin_ap, mBinV_ap, m1_ap, mTest_ap, mIsN_ap, mIxQ_ap, mCons_ap, mTup_ap, mLst_ap, mIf_ap, mAnd_ap, mOr_ap, mNot_ap, mSeq_ap, mNx_ap, mAsg_ap, mDrop_ap, mRet_ap, mRetD_ap, mIfS_ap, mCall_ap, mRaise_ap, mSetV_ap, mMth_ap, mIns_ap, mSeqD_ap, mRange1_ap, mPart_ap, mSl_ap, mAsgT_ap, mFor_ap, mTry_ap, mMthP_ap, mM1_ap, mHv_ap, mHq_ap, mHe_ap, qV_ap, qC_ap, tName_ap, opt_some, opt_none, List.getElem?_cons_zero, List.getElem?_cons_succ, List.set_cons_zero, List.set_cons_succ, List.replicate, List.append_nil, List.cons_append, List.nil_append, Option.map_some, Option.map_none, Option.bind_some, Option.bind_none, data_sh, fIx_lst, fIx_tup, fIx_wl, fIx_wt, fLen_lst, fLen_tup, fLen_wl, fAdd_int, fSub_int, fLt_int, fLe_int, fGt_int, fGe_int, finA, Bool.false_eq_true, if_true, if_false, ite_true, ite_false, List.length_map, List.length_cons, List.length_nil, decide_eq_true_eq, restore, Nat.reduceAdd, Nat.reduceLT, Nat.reduceLeDiff, Int.reduceToNat, Int.reduceLE, Int.reduceLT, Int.reduceAdd, Int.reduceNeg, Nat.zero_add, reduceIte, decide_true, decide_false, Nat.reduceSub, and_self, and_true, true_and, e_row, ec0, ec1, ew0, ew1, eW, t1, t2, t3, t4, t5, t6, t7, t8, t9, m1, m2, m3, m6, m8, d7, d3, d2, dl, wipeE, unwipe, shOnly, drow, c5, fEq_int, c9, mRev, itm, q0, q1, k2_ok, k3_ok, ne3, forB_nil, forB_cons, l1, l2, show (-(2 ^ 62) ≤ r3 ∧ r3 < 2 ^ 62) from ⟨by omega, by omega⟩, List.append_assoc, finA_no (k := 0)]
end K96

set_option Elab.async false
set_option linter.all false
set_option maxRecDepth 100000
set_option maxHeartbeats 4000000
namespace K96
open PySem PySem.Spec L2 Fp
open PyProof.Rows hiding St
structure TxF (K : PySem.W.Frag) : Prop where
  n_isinstance : PySem.W.nsIn K mainGlobals "isinstance" = some none
  n_len : PySem.W.nsIn K mainGlobals "len" = some none
  n_range : PySem.W.nsIn K mainGlobals "range" = some none
  n_tuple : PySem.W.nsIn K mainGlobals "tuple" = some none
  x_NoName : excB K "NoName" = true
  x_NoWeights : excB K "NoWeights" = true
  x_NotPlain : excB K "NotPlain" = true
  c_ForkError : clsB K "ForkError" = true
  c_NoName : clsB K "NoName" = true
  c_NoOrder : clsB K "NoOrder" = true
  c_NoPlan : clsB K "NoPlan" = true
  c_NoText : clsB K "NoText" = true
  c_NoWeights : clsB K "NoWeights" = true
  c_NoWorld : clsB K "NoWorld" = true
  c_NotPlain : clsB K "NotPlain" = true
  c_NotSure : clsB K "NotSure" = true
  c_TooMany : clsB K "TooMany" = true
  c_ValueError : clsB K "ValueError" = true
  sub : stab.all (subB1 K) = true
  isa : itab.all (isaB1 K) = true
section
variable {P : Program} {w : World} {K : PySem.W.Frag} {mg : Str → Option Value} {h : Heap}
theorem tx_of (X : K.In h) (G : h.Ns mainGlobals mg) (T : TxF K) : TxT K mg where
  n_isinstance := PySem.W.mg_none_of X G T.n_isinstance
  n_len := PySem.W.mg_none_of X G T.n_len
  n_range := PySem.W.mg_none_of X G T.n_range
  n_tuple := PySem.W.mg_none_of X G T.n_tuple
  x_NoName := excT_of X G T.x_NoName
  x_NoWeights := excT_of X G T.x_NoWeights
  x_NotPlain := excT_of X G T.x_NotPlain
  c_ForkError := clsN_of X G T.c_ForkError
  c_NoName := clsN_of X G T.c_NoName
  c_NoOrder := clsN_of X G T.c_NoOrder
  c_NoPlan := clsN_of X G T.c_NoPlan
  c_NoText := clsN_of X G T.c_NoText
  c_NoWeights := clsN_of X G T.c_NoWeights
  c_NoWorld := clsN_of X G T.c_NoWorld
  c_NotPlain := clsN_of X G T.c_NotPlain
  c_NotSure := clsN_of X G T.c_NotSure
  c_TooMany := clsN_of X G T.c_TooMany
  c_ValueError := clsN_of X G T.c_ValueError
  sub := subTab_of X G T.sub
  isa := isaTab_of X G T.isa
theorem all_mk {fa : Addr} (pl : ∀ ns : List Int, ns.length ≤ 63 → ∃ ws', f_law [.sh (intsD ns)] = .ok (.sh (.bl true)) ws') (X : K.In h) (G : h.Ns mainGlobals mg) (hfa : mg "law" = some (.ref fa)) (T : TxF K) (D_reckoned : DefF K "reckoned" "reckoned" s_reckoned) (D_value_of : DefF K "value_of" "value_of" s_value_of) (D_worth : DefF K "worth" "worth" s_worth) (D_bare_holds : DefF K "bare_holds" "bare_holds" s_bare_holds) (D_holds : DefF K "holds" "holds" s_holds) (D_all_standings : DefF K "all_standings" "all_standings" s_all_standings) (D_standings : DefF K "standings" "standings" s_standings) (D_first_known : DefF K "first_known" "first_known" s_first_known) (D_checked : DefF K "checked" "checked" s_checked) (D_least_mean : DefF K "least_mean" "least_mean" s_least_mean) (D_mean_price : DefF K "mean_price" "mean_price" s_mean_price) (D_named_known : DefF K "named_known" "named" s_named_known) (D_row_works : DefF K "row_works" "row_works" s_row_works) (D_what_it_is_worth : DefF K "what_it_is_worth" "what_it_is_worth" s_what_it_is_worth) (D_L_asked : DefF K "_law_asked" "_law_asked" s_L_asked) (D_L_cell : DefF K "_law_cell" "_law_cell" s_L_cell) (D_L_take : DefF K "_law_take" "_law_take" s_L_take) (D_L_well : DefF K "_law_well" "_law_well" s_L_well) (D_L_world : DefF K "_law_world" "_law_world" s_L_world) (D_law : DefF K "law" "law" s_law) :
    ∃ fd : FuncData, (∀ (s : Shared) (v : Value), BindsTo s fd ⟨[v], []⟩ [("script", v)]) ∧ ∀ base : Heap, K.In base → base.Ns mainGlobals mg → FnOk P w K mg base (L2.CX P w) 9 fa fd ["script"] (spLaw 63) := by
  have Tx := tx_of X G T
  have T_reckoned := defT_of (ps := ["kind", "one", "other"]) X G D_reckoned (fun _ _ _ _ _ _ us hl => match us, hl with | [_, _, _], _ => rfl)
  have T_value_of := defT_of (ps := ["name", "boxes", "standing"]) X G D_value_of (fun _ _ _ _ _ _ us hl => match us, hl with | [_, _, _], _ => rfl)
  have T_worth := defT_of (ps := ["expression", "boxes", "standing"]) X G D_worth (fun _ _ _ _ _ _ us hl => match us, hl with | [_, _, _], _ => rfl)
  have T_bare_holds := defT_of (ps := ["condition", "boxes", "standing"]) X G D_bare_holds (fun _ _ _ _ _ _ us hl => match us, hl with | [_, _, _], _ => rfl)
  have T_holds := defT_of (ps := ["condition", "boxes", "standing"]) X G D_holds (fun _ _ _ _ _ _ us hl => match us, hl with | [_, _, _], _ => rfl)
  have T_all_standings := defT_of (ps := ["boxes"]) X G D_all_standings (fun _ _ _ _ _ _ us hl => match us, hl with | [_], _ => rfl)
  have T_standings := defT_of (ps := ["world"]) X G D_standings (fun _ _ _ _ _ _ us hl => match us, hl with | [_], _ => rfl)
  have T_first_known := defT_of (ps := ["world"]) X G D_first_known (fun _ _ _ _ _ _ us hl => match us, hl with | [_], _ => rfl)
  have T_checked := defT_of (ps := ["world", "weights"]) X G D_checked (fun _ _ _ _ _ _ us hl => match us, hl with | [_, _], _ => rfl)
  have T_least_mean := defT_of (ps := ["world", "weights"]) X G D_least_mean (fun _ _ _ _ _ _ us hl => match us, hl with | [_, _], _ => rfl)
  have T_mean_price := defT_of (ps := ["world", "plan", "weights"]) X G D_mean_price (fun _ _ _ _ _ _ us hl => match us, hl with | [_, _, _], _ => rfl)
  have T_named_known := defT_of (ps := ["things", "name"]) X G D_named_known (fun _ _ _ _ _ _ us hl => match us, hl with | [_, _], _ => rfl)
  have T_row_works := defT_of (ps := ["world", "row"]) X G D_row_works (fun _ _ _ _ _ _ us hl => match us, hl with | [_, _], _ => rfl)
  have T_what_it_is_worth := defT_of (ps := ["world", "name"]) X G D_what_it_is_worth (fun _ _ _ _ _ _ us hl => match us, hl with | [_, _], _ => rfl)
  have T_L_asked := defT_of (ps := ["door", "world", "thing"]) X G D_L_asked (fun _ _ _ _ _ _ us hl => match us, hl with | [_, _, _], _ => rfl)
  have T_L_cell := defT_of (ps := ["script", "k"]) X G D_L_cell (fun _ _ _ _ _ _ us hl => match us, hl with | [_, _], _ => rfl)
  have T_L_take := defT_of (ps := ["well", "many"]) X G D_L_take (fun _ _ _ _ _ _ us hl => match us, hl with | [_, _], _ => rfl)
  have T_L_well := defT_of (ps := ["cell"]) X G D_L_well (fun _ _ _ _ _ _ us hl => match us, hl with | [_], _ => rfl)
  have T_L_world := defT_of (ps := ["well", "more"]) X G D_L_world (fun _ _ _ _ _ _ us hl => match us, hl with | [_, _], _ => rfl)
  obtain ⟨f, oc, od, sl, kV, dc, pm, an, cd, ct, a, l, c, k⟩ := D_law
  have e := hfa.symm.trans (PySem.W.mg_of X G a)
  cases e
  have F := fun_mk (st := s_law) l c k
  refine ⟨PySem.W.fnOf "law" "law" (defArgs s_law) (defBody s_law) (defScope s_law) .none kV dc pm an cd ct, fun s v => ?_, fun base _ _ => ?_⟩
  · exact .of_eq rfl
  · have h_reckoned : DefOk P w K mg base 1 "reckoned" 3 f_reckoned := k_reckoned Tx T_reckoned 
    have h_value_of : DefOk P w K mg base 1 "value_of" 3 f_value_of := k_value_of Tx T_value_of 
    have h_worth : DefOk P w K mg base 2 "worth" 3 f_worth := k_worth Tx T_worth h_reckoned h_value_of
    have h_bare_holds : DefOk P w K mg base 3 "bare_holds" 3 f_bare_holds := k_bare_holds Tx T_bare_holds h_worth
    have h_holds : DefOk P w K mg base 4 "holds" 3 f_holds := k_holds Tx T_holds h_bare_holds
    have h_all_standings : DefOk P w K mg base 1 "all_standings" 1 f_all_standings := k_all_standings Tx T_all_standings 
    have h_standings : DefOk P w K mg base 2 "standings" 1 f_standings := k_standings Tx T_standings h_all_standings
    have h_first_known : DefOk P w K mg base 5 "first_known" 1 f_first_known := k_first_known Tx T_first_known h_holds h_standings
    have h_checked : DefOk P w K mg base 6 "checked" 2 f_checked := k_checked Tx T_checked h_first_known
    have h_least_mean : DefOk P w K mg base 7 "least_mean" 2 f_least_mean := k_least_mean Tx T_least_mean h_checked
    have h_mean_price : DefOk P w K mg base 7 "mean_price" 3 f_mean_price := k_mean_price Tx T_mean_price h_checked
    have h_named_known : DefOk P w K mg base 1 "named_known" 2 f_named_known := k_named_known Tx T_named_known 
    have h_row_works : DefOk P w K mg base 2 "row_works" 2 f_row_works := k_row_works Tx T_row_works h_named_known
    have h_what_it_is_worth : DefOk P w K mg base 1 "what_it_is_worth" 2 f_what_it_is_worth := k_what_it_is_worth Tx T_what_it_is_worth 
    have h_L_asked : DefOk P w K mg base 8 "_law_asked" 3 f_L_asked := k_L_asked Tx T_L_asked h_least_mean h_mean_price h_row_works h_what_it_is_worth
    have h_L_cell : DefOk P w K mg base 1 "_law_cell" 2 f_L_cell := k_L_cell Tx T_L_cell 
    have h_L_take : DefOk P w K mg base 1 "_law_take" 2 f_L_take := k_L_take Tx T_L_take 
    have h_L_well : DefOk P w K mg base 1 "_law_well" 1 f_L_well := k_L_well Tx T_L_well 
    have h_L_world : DefOk P w K mg base 2 "_law_world" 2 f_L_world := k_L_world Tx T_L_world h_L_take
    exact law_imp (k_law Tx F h_L_asked h_L_cell h_L_take h_L_well h_L_world) pl
theorem all_mk2 {fa : Addr} (pl : ∀ ns : List Int, ns.length ≤ 63 → ∃ ws', f_law [.sh (intsD ns)] = .ok (.sh (.bl true)) ws') (X : K.In h) (G : h.Ns mainGlobals mg) (hfa : mg "law" = some (.ref fa)) (T : TxF K) 
    {f0 : Addr} {oc0 kV0 dc0 pm0 cd0 ct0 : Value} {od0 an0 : Option Addr} {sl0 : Array (Option Value)} (a0 : PySem.W.nsIn K mainGlobals "reckoned" = some (some (.ref f0))) (l0 : K.lookup f0 = some ⟨oc0, od0, .func (PySem.W.fnOf "reckoned" "reckoned" (defArgs s_reckoned) (defBody s_reckoned) (defScope s_reckoned) .none kV0 dc0 pm0 an0 cd0 ct0), sl0⟩) (c0 : PySem.W.codeIn K cd0 "reckoned" = true) (k0 : PySem.W.keepIn K (.ref f0) = true)
    {f1 : Addr} {oc1 kV1 dc1 pm1 cd1 ct1 : Value} {od1 an1 : Option Addr} {sl1 : Array (Option Value)} (a1 : PySem.W.nsIn K mainGlobals "value_of" = some (some (.ref f1))) (l1 : K.lookup f1 = some ⟨oc1, od1, .func (PySem.W.fnOf "value_of" "value_of" (defArgs s_value_of) (defBody s_value_of) (defScope s_value_of) .none kV1 dc1 pm1 an1 cd1 ct1), sl1⟩) (c1 : PySem.W.codeIn K cd1 "value_of" = true) (k1 : PySem.W.keepIn K (.ref f1) = true)
    {f2 : Addr} {oc2 kV2 dc2 pm2 cd2 ct2 : Value} {od2 an2 : Option Addr} {sl2 : Array (Option Value)} (a2 : PySem.W.nsIn K mainGlobals "worth" = some (some (.ref f2))) (l2 : K.lookup f2 = some ⟨oc2, od2, .func (PySem.W.fnOf "worth" "worth" (defArgs s_worth) (defBody s_worth) (defScope s_worth) .none kV2 dc2 pm2 an2 cd2 ct2), sl2⟩) (c2 : PySem.W.codeIn K cd2 "worth" = true) (k2 : PySem.W.keepIn K (.ref f2) = true)
    {f3 : Addr} {oc3 kV3 dc3 pm3 cd3 ct3 : Value} {od3 an3 : Option Addr} {sl3 : Array (Option Value)} (a3 : PySem.W.nsIn K mainGlobals "bare_holds" = some (some (.ref f3))) (l3 : K.lookup f3 = some ⟨oc3, od3, .func (PySem.W.fnOf "bare_holds" "bare_holds" (defArgs s_bare_holds) (defBody s_bare_holds) (defScope s_bare_holds) .none kV3 dc3 pm3 an3 cd3 ct3), sl3⟩) (c3 : PySem.W.codeIn K cd3 "bare_holds" = true) (k3 : PySem.W.keepIn K (.ref f3) = true)
    {f4 : Addr} {oc4 kV4 dc4 pm4 cd4 ct4 : Value} {od4 an4 : Option Addr} {sl4 : Array (Option Value)} (a4 : PySem.W.nsIn K mainGlobals "holds" = some (some (.ref f4))) (l4 : K.lookup f4 = some ⟨oc4, od4, .func (PySem.W.fnOf "holds" "holds" (defArgs s_holds) (defBody s_holds) (defScope s_holds) .none kV4 dc4 pm4 an4 cd4 ct4), sl4⟩) (c4 : PySem.W.codeIn K cd4 "holds" = true) (k4 : PySem.W.keepIn K (.ref f4) = true)
    {f5 : Addr} {oc5 kV5 dc5 pm5 cd5 ct5 : Value} {od5 an5 : Option Addr} {sl5 : Array (Option Value)} (a5 : PySem.W.nsIn K mainGlobals "all_standings" = some (some (.ref f5))) (l5 : K.lookup f5 = some ⟨oc5, od5, .func (PySem.W.fnOf "all_standings" "all_standings" (defArgs s_all_standings) (defBody s_all_standings) (defScope s_all_standings) .none kV5 dc5 pm5 an5 cd5 ct5), sl5⟩) (c5 : PySem.W.codeIn K cd5 "all_standings" = true) (k5 : PySem.W.keepIn K (.ref f5) = true)
    {f6 : Addr} {oc6 kV6 dc6 pm6 cd6 ct6 : Value} {od6 an6 : Option Addr} {sl6 : Array (Option Value)} (a6 : PySem.W.nsIn K mainGlobals "standings" = some (some (.ref f6))) (l6 : K.lookup f6 = some ⟨oc6, od6, .func (PySem.W.fnOf "standings" "standings" (defArgs s_standings) (defBody s_standings) (defScope s_standings) .none kV6 dc6 pm6 an6 cd6 ct6), sl6⟩) (c6 : PySem.W.codeIn K cd6 "standings" = true) (k6 : PySem.W.keepIn K (.ref f6) = true)
    {f7 : Addr} {oc7 kV7 dc7 pm7 cd7 ct7 : Value} {od7 an7 : Option Addr} {sl7 : Array (Option Value)} (a7 : PySem.W.nsIn K mainGlobals "first_known" = some (some (.ref f7))) (l7 : K.lookup f7 = some ⟨oc7, od7, .func (PySem.W.fnOf "first_known" "first_known" (defArgs s_first_known) (defBody s_first_known) (defScope s_first_known) .none kV7 dc7 pm7 an7 cd7 ct7), sl7⟩) (c7 : PySem.W.codeIn K cd7 "first_known" = true) (k7 : PySem.W.keepIn K (.ref f7) = true)
    {f8 : Addr} {oc8 kV8 dc8 pm8 cd8 ct8 : Value} {od8 an8 : Option Addr} {sl8 : Array (Option Value)} (a8 : PySem.W.nsIn K mainGlobals "checked" = some (some (.ref f8))) (l8 : K.lookup f8 = some ⟨oc8, od8, .func (PySem.W.fnOf "checked" "checked" (defArgs s_checked) (defBody s_checked) (defScope s_checked) .none kV8 dc8 pm8 an8 cd8 ct8), sl8⟩) (c8 : PySem.W.codeIn K cd8 "checked" = true) (k8 : PySem.W.keepIn K (.ref f8) = true)
    {f9 : Addr} {oc9 kV9 dc9 pm9 cd9 ct9 : Value} {od9 an9 : Option Addr} {sl9 : Array (Option Value)} (a9 : PySem.W.nsIn K mainGlobals "least_mean" = some (some (.ref f9))) (l9 : K.lookup f9 = some ⟨oc9, od9, .func (PySem.W.fnOf "least_mean" "least_mean" (defArgs s_least_mean) (defBody s_least_mean) (defScope s_least_mean) .none kV9 dc9 pm9 an9 cd9 ct9), sl9⟩) (c9 : PySem.W.codeIn K cd9 "least_mean" = true) (k9 : PySem.W.keepIn K (.ref f9) = true)
    {f10 : Addr} {oc10 kV10 dc10 pm10 cd10 ct10 : Value} {od10 an10 : Option Addr} {sl10 : Array (Option Value)} (a10 : PySem.W.nsIn K mainGlobals "mean_price" = some (some (.ref f10))) (l10 : K.lookup f10 = some ⟨oc10, od10, .func (PySem.W.fnOf "mean_price" "mean_price" (defArgs s_mean_price) (defBody s_mean_price) (defScope s_mean_price) .none kV10 dc10 pm10 an10 cd10 ct10), sl10⟩) (c10 : PySem.W.codeIn K cd10 "mean_price" = true) (k10 : PySem.W.keepIn K (.ref f10) = true)
    {f11 : Addr} {oc11 kV11 dc11 pm11 cd11 ct11 : Value} {od11 an11 : Option Addr} {sl11 : Array (Option Value)} (a11 : PySem.W.nsIn K mainGlobals "named_known" = some (some (.ref f11))) (l11 : K.lookup f11 = some ⟨oc11, od11, .func (PySem.W.fnOf "named" "named" (defArgs s_named_known) (defBody s_named_known) (defScope s_named_known) .none kV11 dc11 pm11 an11 cd11 ct11), sl11⟩) (c11 : PySem.W.codeIn K cd11 "named" = true) (k11 : PySem.W.keepIn K (.ref f11) = true)
    {f12 : Addr} {oc12 kV12 dc12 pm12 cd12 ct12 : Value} {od12 an12 : Option Addr} {sl12 : Array (Option Value)} (a12 : PySem.W.nsIn K mainGlobals "row_works" = some (some (.ref f12))) (l12 : K.lookup f12 = some ⟨oc12, od12, .func (PySem.W.fnOf "row_works" "row_works" (defArgs s_row_works) (defBody s_row_works) (defScope s_row_works) .none kV12 dc12 pm12 an12 cd12 ct12), sl12⟩) (c12 : PySem.W.codeIn K cd12 "row_works" = true) (k12 : PySem.W.keepIn K (.ref f12) = true)
    {f13 : Addr} {oc13 kV13 dc13 pm13 cd13 ct13 : Value} {od13 an13 : Option Addr} {sl13 : Array (Option Value)} (a13 : PySem.W.nsIn K mainGlobals "what_it_is_worth" = some (some (.ref f13))) (l13 : K.lookup f13 = some ⟨oc13, od13, .func (PySem.W.fnOf "what_it_is_worth" "what_it_is_worth" (defArgs s_what_it_is_worth) (defBody s_what_it_is_worth) (defScope s_what_it_is_worth) .none kV13 dc13 pm13 an13 cd13 ct13), sl13⟩) (c13 : PySem.W.codeIn K cd13 "what_it_is_worth" = true) (k13 : PySem.W.keepIn K (.ref f13) = true)
    {f14 : Addr} {oc14 kV14 dc14 pm14 cd14 ct14 : Value} {od14 an14 : Option Addr} {sl14 : Array (Option Value)} (a14 : PySem.W.nsIn K mainGlobals "_law_asked" = some (some (.ref f14))) (l14 : K.lookup f14 = some ⟨oc14, od14, .func (PySem.W.fnOf "_law_asked" "_law_asked" (defArgs s_L_asked) (defBody s_L_asked) (defScope s_L_asked) .none kV14 dc14 pm14 an14 cd14 ct14), sl14⟩) (c14 : PySem.W.codeIn K cd14 "_law_asked" = true) (k14 : PySem.W.keepIn K (.ref f14) = true)
    {f15 : Addr} {oc15 kV15 dc15 pm15 cd15 ct15 : Value} {od15 an15 : Option Addr} {sl15 : Array (Option Value)} (a15 : PySem.W.nsIn K mainGlobals "_law_cell" = some (some (.ref f15))) (l15 : K.lookup f15 = some ⟨oc15, od15, .func (PySem.W.fnOf "_law_cell" "_law_cell" (defArgs s_L_cell) (defBody s_L_cell) (defScope s_L_cell) .none kV15 dc15 pm15 an15 cd15 ct15), sl15⟩) (c15 : PySem.W.codeIn K cd15 "_law_cell" = true) (k15 : PySem.W.keepIn K (.ref f15) = true)
    {f16 : Addr} {oc16 kV16 dc16 pm16 cd16 ct16 : Value} {od16 an16 : Option Addr} {sl16 : Array (Option Value)} (a16 : PySem.W.nsIn K mainGlobals "_law_take" = some (some (.ref f16))) (l16 : K.lookup f16 = some ⟨oc16, od16, .func (PySem.W.fnOf "_law_take" "_law_take" (defArgs s_L_take) (defBody s_L_take) (defScope s_L_take) .none kV16 dc16 pm16 an16 cd16 ct16), sl16⟩) (c16 : PySem.W.codeIn K cd16 "_law_take" = true) (k16 : PySem.W.keepIn K (.ref f16) = true)
    {f17 : Addr} {oc17 kV17 dc17 pm17 cd17 ct17 : Value} {od17 an17 : Option Addr} {sl17 : Array (Option Value)} (a17 : PySem.W.nsIn K mainGlobals "_law_well" = some (some (.ref f17))) (l17 : K.lookup f17 = some ⟨oc17, od17, .func (PySem.W.fnOf "_law_well" "_law_well" (defArgs s_L_well) (defBody s_L_well) (defScope s_L_well) .none kV17 dc17 pm17 an17 cd17 ct17), sl17⟩) (c17 : PySem.W.codeIn K cd17 "_law_well" = true) (k17 : PySem.W.keepIn K (.ref f17) = true)
    {f18 : Addr} {oc18 kV18 dc18 pm18 cd18 ct18 : Value} {od18 an18 : Option Addr} {sl18 : Array (Option Value)} (a18 : PySem.W.nsIn K mainGlobals "_law_world" = some (some (.ref f18))) (l18 : K.lookup f18 = some ⟨oc18, od18, .func (PySem.W.fnOf "_law_world" "_law_world" (defArgs s_L_world) (defBody s_L_world) (defScope s_L_world) .none kV18 dc18 pm18 an18 cd18 ct18), sl18⟩) (c18 : PySem.W.codeIn K cd18 "_law_world" = true) (k18 : PySem.W.keepIn K (.ref f18) = true)
    {f19 : Addr} {oc19 kV19 dc19 pm19 cd19 ct19 : Value} {od19 an19 : Option Addr} {sl19 : Array (Option Value)} (a19 : PySem.W.nsIn K mainGlobals "law" = some (some (.ref f19))) (l19 : K.lookup f19 = some ⟨oc19, od19, .func (PySem.W.fnOf "law" "law" (defArgs s_law) (defBody s_law) (defScope s_law) .none kV19 dc19 pm19 an19 cd19 ct19), sl19⟩) (c19 : PySem.W.codeIn K cd19 "law" = true) (k19 : PySem.W.keepIn K (.ref f19) = true) :
    ∃ fd : FuncData, (∀ (s : Shared) (v : Value), BindsTo s fd ⟨[v], []⟩ [("script", v)]) ∧ ∀ base : Heap, K.In base → base.Ns mainGlobals mg → FnOk P w K mg base (L2.CX P w) 9 fa fd ["script"] (spLaw 63) :=
  all_mk pl X G hfa T ⟨f0, oc0, od0, sl0, kV0, dc0, pm0, an0, cd0, ct0, a0, l0, c0, k0⟩ ⟨f1, oc1, od1, sl1, kV1, dc1, pm1, an1, cd1, ct1, a1, l1, c1, k1⟩ ⟨f2, oc2, od2, sl2, kV2, dc2, pm2, an2, cd2, ct2, a2, l2, c2, k2⟩ ⟨f3, oc3, od3, sl3, kV3, dc3, pm3, an3, cd3, ct3, a3, l3, c3, k3⟩ ⟨f4, oc4, od4, sl4, kV4, dc4, pm4, an4, cd4, ct4, a4, l4, c4, k4⟩ ⟨f5, oc5, od5, sl5, kV5, dc5, pm5, an5, cd5, ct5, a5, l5, c5, k5⟩ ⟨f6, oc6, od6, sl6, kV6, dc6, pm6, an6, cd6, ct6, a6, l6, c6, k6⟩ ⟨f7, oc7, od7, sl7, kV7, dc7, pm7, an7, cd7, ct7, a7, l7, c7, k7⟩ ⟨f8, oc8, od8, sl8, kV8, dc8, pm8, an8, cd8, ct8, a8, l8, c8, k8⟩ ⟨f9, oc9, od9, sl9, kV9, dc9, pm9, an9, cd9, ct9, a9, l9, c9, k9⟩ ⟨f10, oc10, od10, sl10, kV10, dc10, pm10, an10, cd10, ct10, a10, l10, c10, k10⟩ ⟨f11, oc11, od11, sl11, kV11, dc11, pm11, an11, cd11, ct11, a11, l11, c11, k11⟩ ⟨f12, oc12, od12, sl12, kV12, dc12, pm12, an12, cd12, ct12, a12, l12, c12, k12⟩ ⟨f13, oc13, od13, sl13, kV13, dc13, pm13, an13, cd13, ct13, a13, l13, c13, k13⟩ ⟨f14, oc14, od14, sl14, kV14, dc14, pm14, an14, cd14, ct14, a14, l14, c14, k14⟩ ⟨f15, oc15, od15, sl15, kV15, dc15, pm15, an15, cd15, ct15, a15, l15, c15, k15⟩ ⟨f16, oc16, od16, sl16, kV16, dc16, pm16, an16, cd16, ct16, a16, l16, c16, k16⟩ ⟨f17, oc17, od17, sl17, kV17, dc17, pm17, an17, cd17, ct17, a17, l17, c17, k17⟩ ⟨f18, oc18, od18, sl18, kV18, dc18, pm18, an18, cd18, ct18, a18, l18, c18, k18⟩ ⟨f19, oc19, od19, sl19, kV19, dc19, pm19, an19, cd19, ct19, a19, l19, c19, k19⟩
end
end K96


set_option pp.maxSteps 100
set_option Elab.async false
set_option linter.all false
set_option maxRecDepth 100000
set_option maxHeartbeats 4000000
open PySem PySem.W PyProof.Rows
set_option maxHeartbeats 0 in
set_option maxRecDepth 100000 in
theorem PySem.Challenge.cw_forkplan_k96_refusals_ahead_holds : PySem.Challenge.rw_forkplan_k96_refusals_ahead.Holds := by
  w_on; o_law; k_head; (case hw => w_witness2)
  k_fill
  refine L2.walk_of (l := PySem.Challenge.rw_forkplan_k96_refusals_ahead) (n := 63) (k := 9) (x := "script") (CX := fun w => L2.CX PySem.Challenge.rw_forkplan_k96_refusals_ahead.prog w) (sp := fun _ => Fp.spLaw 63) rfl (by decide) rfl ⟨rfl, by decide, by decide⟩ (fun w h Y => PySem.W.kIn_of Y) ?F (fun w H a ns hl _ hS => Fp.law_sp ?nl H a ns hl hS) ?cx
  case nl => kernel_rfl
  case cx => exact fun _ _ _ _ _ h => Fp.law_cx h
  case F =>
    intro w mg fa h KX G hmg
    refine' K96.all_mk2 K96.plain KX G hmg ⟨?t0, ?t1, ?t2, ?t3, ?t4, ?t5, ?t6, ?t7, ?t8, ?t9, ?t10, ?t11, ?t12, ?t13, ?t14, ?t15, ?t16, ?t17, ?t18, ?t19⟩ ?a0 ?l0 ?c0 ?k0 ?a1 ?l1 ?c1 ?k1 ?a2 ?l2 ?c2 ?k2 ?a3 ?l3 ?c3 ?k3 ?a4 ?l4 ?c4 ?k4 ?a5 ?l5 ?c5 ?k5 ?a6 ?l6 ?c6 ?k6 ?a7 ?l7 ?c7 ?k7 ?a8 ?l8 ?c8 ?k8 ?a9 ?l9 ?c9 ?k9 ?a10 ?l10 ?c10 ?k10 ?a11 ?l11 ?c11 ?k11 ?a12 ?l12 ?c12 ?k12 ?a13 ?l13 ?c13 ?k13 ?a14 ?l14 ?c14 ?k14 ?a15 ?l15 ?c15 ?k15 ?a16 ?l16 ?c16 ?k16 ?a17 ?l17 ?c17 ?k17 ?a18 ?l18 ?c18 ?k18 ?a19 ?l19 ?c19 ?k19
    (case a0 => k_is); (case l0 => k_is); (case c0 => k_is); (case k0 => k_is)
    (case a1 => k_is); (case l1 => k_is); (case c1 => k_is); (case k1 => k_is)
    (case a2 => k_is); (case l2 => k_is); (case c2 => k_is); (case k2 => k_is)
    (case a3 => k_is); (case l3 => k_is); (case c3 => k_is); (case k3 => k_is)
    (case a4 => k_is); (case l4 => k_is); (case c4 => k_is); (case k4 => k_is)
    (case a5 => k_is); (case l5 => k_is); (case c5 => k_is); (case k5 => k_is)
    (case a6 => k_is); (case l6 => k_is); (case c6 => k_is); (case k6 => k_is)
    (case a7 => k_is); (case l7 => k_is); (case c7 => k_is); (case k7 => k_is)
    (case a8 => k_is); (case l8 => k_is); (case c8 => k_is); (case k8 => k_is)
    (case a9 => k_is); (case l9 => k_is); (case c9 => k_is); (case k9 => k_is)
    (case a10 => k_is); (case l10 => k_is); (case c10 => k_is); (case k10 => k_is)
    (case a11 => k_is); (case l11 => k_is); (case c11 => k_is); (case k11 => k_is)
    (case a12 => k_is); (case l12 => k_is); (case c12 => k_is); (case k12 => k_is)
    (case a13 => k_is); (case l13 => k_is); (case c13 => k_is); (case k13 => k_is)
    (case a14 => k_is); (case l14 => k_is); (case c14 => k_is); (case k14 => k_is)
    (case a15 => k_is); (case l15 => k_is); (case c15 => k_is); (case k15 => k_is)
    (case a16 => k_is); (case l16 => k_is); (case c16 => k_is); (case k16 => k_is)
    (case a17 => k_is); (case l17 => k_is); (case c17 => k_is); (case k17 => k_is)
    (case a18 => k_is); (case l18 => k_is); (case c18 => k_is); (case k18 => k_is)
    (case a19 => k_is); (case l19 => k_is); (case c19 => k_is); (case k19 => k_is)
    (case t0 => k_is)
    (case t1 => k_is)
    (case t2 => k_is)
    (case t3 => k_is)
    (case t4 => kernel_rfl)
    (case t5 => kernel_rfl)
    (case t6 => kernel_rfl)
    (case t7 => kernel_rfl)
    (case t8 => kernel_rfl)
    (case t9 => kernel_rfl)
    (case t10 => kernel_rfl)
    (case t11 => kernel_rfl)
    (case t12 => kernel_rfl)
    (case t13 => kernel_rfl)
    (case t14 => kernel_rfl)
    (case t15 => kernel_rfl)
    (case t16 => kernel_rfl)
    (case t17 => kernel_rfl)
    (case t18 => kernel_rfl)
    (case t19 => kernel_rfl)


