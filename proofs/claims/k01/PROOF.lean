import PyProof.Rows.All
import Wide.All
import OpenK.AllK
import Wide.FinOn
import HandS.ForMost
import HandS.Exc
import HandS.TryOnly
import HandS.ExcOwn
import HandS.WordsExc
import HandS.Wide
import HandS.WideBits
import HandS.TupAny
import HandS.Style
import KE.DataEq
import KE.LtData
import KE.DataMinMax
import KE.SortData
import HandS.TupMul
import HandS.Conv
import HandS.RaiseMore
import PyProof.ReprRoads
import HandS.Small
import HandS.More
import HandS.Zip
import KE.KExcSuper
import HandS.ExcSuper
import HandS.ExcInit
import HandS.ExcField
import HandS.ListItems
import HandS.CallLocal
import HandS.Codes
import HandS.SortInts
import HandS.Ends
import HandS.Star
import KE.KRevSl
import HandS.IsInst
import PyProof.ListStr
import HandS.Text
import PySem.Challenge.RW_codeddeals_k01_lexemes_and_names
import PyProof.StrLawsIn
import PyProof.StrLawsRepr
set_option Elab.async false
set_option linter.all false
set_option maxRecDepth 100000
namespace Pw
open PySem PySem.Spec PyProof.Rows L2

abbrev D := PyData
/-- the drawn source's numbers -/
structure Src where
  cells : List Int
  left : Int
  mixed : Int
  turn : Int
/-- what a slot, an argument, a result holds -/
inductive SV where
  | sh (d : D)
  | own (d : D)
  | fn (a : Addr)
  | src
  | exd (fs : List (Str × D))
  | fns (as : List Addr)
  | exn (fs : List (Str × D))
  | scr (ns : List Int)
structure S where
  sl : List (Option SV)
  src : Option Src
structure Ex where
  cls : Addr
  fs : List (Str × D)
inductive Res (α : Type) where
  | ok (a : α) (s : S)
  | exc (e : Ex) (s : S)
  | err
def Res.bind {α β : Type} (r : Res α) (k : α → S → Res β) : Res β :=
  match r with
  | .ok a s => k a s
  | .exc e s => .exc e s
  | .err => .err
def Res.sat {α : Type} (r : Res α) (Q : α → S → Prop) (E : Ex → S → Prop) : Prop :=
  match r with
  | .ok a s => Q a s
  | .exc e s => E e s
  | .err => False
theorem Res.sat_bind {α β : Type} {r : Res α} {k : α → S → Res β} {Q : β → S → Prop} {E : Ex → S → Prop} : (r.bind k).sat Q E ↔ r.sat (fun a s => (k a s).sat Q E) E := by
  cases r <;> exact Iff.rfl
theorem Res.sat_mono {α : Type} {r : Res α} {Q Q' : α → S → Prop} {E E' : Ex → S → Prop} (h : r.sat Q E) (hq : ∀ a s, Q a s → Q' a s) (he : ∀ a s, E a s → E' a s) : r.sat Q' E' := by
  cases r with
  | ok a s => exact hq _ _ h
  | exc e s => exact he _ _ h
  | err => exact h

/-! ### what a value holds -/
def keyD : Key → D
  | .inl i => .int i
  | .inr s => .str s
mutual
inductive Rp (K : PySem.W.Frag) (H : Hp) (O : Addr → Prop) : V → D → Prop
  | non : Rp K H O .non .none
  | bl (b : Bool) : Rp K H O (.bl b) (.bool b)
  | int (i : Int) : Rp K H O (.int i) (.int i)
  | str (x : Str) : Rp K H O (.str x) (.str x)
  | lst {a : Addr} {xs : List V} {ds : List D} : H a = some (.lst xs) → ¬ O a → RpA K H O xs ds → Rp K H O (.ref a) (.list ds)
  | tup {a : Addr} {xs : List V} {ds : List D} : H a = some (.tup xs) → ¬ O a → RpA K H O xs ds → Rp K H O (.ref a) (.tuple ds)
  | tupK {a : Addr} {xs : List V} {ds : List D} {o : Obj} {its : Array Value} {n : Nat} : K.lookup a = some o → o.cls = .type "tuple" → o.data = .seq its n → its.size ≤ sizeLine → Vals xs its.toList → RpA K H O xs ds → Rp K H O (.ref a) (.tuple ds)
  | dic {a : Addr} {kvs : List (Key × V)} {ds : List (D × D)} : H a = some (.dK kvs) → ¬ O a → RpD K H O kvs ds → Rp K H O (.ref a) (.dict ds)
inductive RpA (K : PySem.W.Frag) (H : Hp) (O : Addr → Prop) : List V → List D → Prop
  | nil : RpA K H O [] []
  | cons {v : V} {vs : List V} {d : D} {ds : List D} : Rp K H O v d → RpA K H O vs ds → RpA K H O (v :: vs) (d :: ds)
inductive RpD (K : PySem.W.Frag) (H : Hp) (O : Addr → Prop) : List (Key × V) → List (D × D) → Prop
  | nil : RpD K H O [] []
  | cons {k : Key} {v : V} {vs : List (Key × V)} {d : D} {ds : List (D × D)} : Rp K H O v d → RpD K H O vs ds → RpD K H O ((k, v) :: vs) ((keyD k, d) :: ds)
end
section
variable {K : PySem.W.Frag} {H H' : Hp} {O O' : Addr → Prop}
mutual
theorem Rp.keep (hk : ∀ b x, H b = some x → ¬ O b → H' b = some x) (ho : ∀ b, O' b → O b ∨ H b = none) : ∀ {v : V} {d : D}, Rp K H O v d → Rp K H' O' v d
  | _, _, .non => .non
  | _, _, .bl b => .bl b
  | _, _, .int i => .int i
  | _, _, .str x => .str x
  | _, _, .lst e n r => .lst (hk _ _ e n) (fun z => (ho _ z).elim n fun q => by rw [e] at q; cases q) (RpA.keep hk ho r)
  | _, _, .tup e n r => .tup (hk _ _ e n) (fun z => (ho _ z).elim n fun q => by rw [e] at q; cases q) (RpA.keep hk ho r)
  | _, _, .tupK e1 e2 e3 e4 e5 r => .tupK e1 e2 e3 e4 e5 (RpA.keep hk ho r)
  | _, _, .dic e n r => .dic (hk _ _ e n) (fun z => (ho _ z).elim n fun q => by rw [e] at q; cases q) (RpD.keep hk ho r)
theorem RpA.keep (hk : ∀ b x, H b = some x → ¬ O b → H' b = some x) (ho : ∀ b, O' b → O b ∨ H b = none) : ∀ {v : List V} {d : List D}, RpA K H O v d → RpA K H' O' v d
  | _, _, .nil => .nil
  | _, _, .cons r s => .cons (Rp.keep hk ho r) (RpA.keep hk ho s)
theorem RpD.keep (hk : ∀ b x, H b = some x → ¬ O b → H' b = some x) (ho : ∀ b, O' b → O b ∨ H b = none) : ∀ {v : List (Key × V)} {d : List (D × D)}, RpD K H O v d → RpD K H' O' v d
  | _, _, .nil => .nil
  | _, _, .cons r s => .cons (Rp.keep hk ho r) (RpD.keep hk ho s)
end
theorem Rp.less (h : Rp K H O v d) (ho : ∀ b, O' b → O b) : Rp K H O' v d := h.keep (fun _ _ e _ => e) fun b z => .inl (ho b z)
theorem RpA.less (h : RpA K H O v d) (ho : ∀ b, O' b → O b) : RpA K H O' v d := h.keep (fun _ _ e _ => e) fun b z => .inl (ho b z)
theorem RpD.less (h : RpD K H O v d) (ho : ∀ b, O' b → O b) : RpD K H O' v d := h.keep (fun _ _ e _ => e) fun b z => .inl (ho b z)
theorem RpA.length : ∀ {v : List V} {d : List D}, RpA K H O v d → v.length = d.length
  | _, _, .nil => rfl
  | _, _, .cons _ s => congrArg (· + 1) (RpA.length s)
theorem RpD.length : ∀ {v : List (Key × V)} {d : List (D × D)}, RpD K H O v d → v.length = d.length
  | _, _, .nil => rfl
  | _, _, .cons _ s => congrArg (· + 1) (RpD.length s)
theorem RpA.append : ∀ {v w : List V} {d e : List D}, RpA K H O v d → RpA K H O w e → RpA K H O (v ++ w) (d ++ e)
  | _, _, _, _, .nil, s => s
  | _, _, _, _, .cons r t, s => .cons r (RpA.append t s)
theorem RpA.get : ∀ {v : List V} {ds : List D} {i : Nat} {d : D}, RpA K H O v ds → ds[i]? = some d → ∃ x, v[i]? = some x ∧ Rp K H O x d
  | _, _, _, _, .nil, e => by simp at e
  | _, _, 0, _, .cons r _, e => by simp at e; subst e; exact ⟨_, rfl, r⟩
  | _, _, i + 1, d, .cons _ t, e => by
    obtain ⟨x, h1, h2⟩ := RpA.get (i := i) (d := d) t (by simpa using e)
    exact ⟨x, by simpa using h1, h2⟩
theorem RpA.take : ∀ {v : List V} {ds : List D} (n : Nat), RpA K H O v ds → RpA K H O (v.take n) (ds.take n)
  | _, _, 0, _ => by simpa using RpA.nil
  | _, _, n + 1, .nil => by simpa using RpA.nil
  | _, _, n + 1, .cons r t => by simpa using RpA.cons r (RpA.take n t)
theorem RpA.drop : ∀ {v : List V} {ds : List D} (n : Nat), RpA K H O v ds → RpA K H O (v.drop n) (ds.drop n)
  | _, _, 0, r => by simpa using r
  | _, _, n + 1, .nil => by simpa using RpA.nil
  | _, _, n + 1, .cons r t => by simpa using RpA.drop n t
theorem RpA.eraseIdx : ∀ {v : List V} {ds : List D} (n : Nat), RpA K H O v ds → RpA K H O (v.eraseIdx n) (ds.eraseIdx n)
  | _, _, _, .nil => by simpa using RpA.nil
  | _, _, 0, .cons r t => by simpa using t
  | _, _, n + 1, .cons r t => by simpa using RpA.cons r (RpA.eraseIdx n t)
theorem RpA.set : ∀ {v : List V} {ds : List D} {x : V} {d : D} (n : Nat), Rp K H O x d → RpA K H O v ds → RpA K H O (v.set n x) (ds.set n d)
  | _, _, _, _, _, _, .nil => by simpa using RpA.nil
  | _, _, _, _, 0, q, .cons r t => by simpa using RpA.cons q t
  | _, _, _, _, n + 1, q, .cons r t => by simpa using RpA.cons r (RpA.set n q t)
theorem RpA.reverse : ∀ {v : List V} {ds : List D}, RpA K H O v ds → RpA K H O v.reverse ds.reverse
  | _, _, .nil => by simpa using RpA.nil
  | _, _, .cons r t => by simpa using (RpA.reverse t).append (.cons r .nil)
theorem RpA.rep {v : List V} {ds : List D} (h : RpA K H O v ds) : ∀ k : Nat, RpA K H O (List.replicate k v).flatten (List.replicate k ds).flatten
  | 0 => .nil
  | k + 1 => by
    rw [List.replicate_succ, List.replicate_succ, List.flatten_cons, List.flatten_cons]
    exact h.append (RpA.rep h k)
end

/-! ### the state -/
structure Zx where
  K : PySem.W.Frag
  H0 : Hp
  Oc : Addr → Prop
  A : Option (Addr × Addr)
  Xn : Option (Addr × Addr)
abbrev Ent := Option V × Option SV
/-- an owned list or dict -/
def RpO (K : PySem.W.Frag) (H : Hp) (O : Addr → Prop) (a : Addr) : D → Prop
  | .list ds => ∃ xs, H a = some (.lst xs) ∧ RpA K H O xs ds
  | .dict ds => ∃ ks, H a = some (.dK ks) ∧ RpD K H O ks ds
  | _ => False
def InA (A : Option (Addr × Addr)) (a : Addr) : Prop := match A with
  | none => False
  | some (x, y) => a = x ∨ a = y
/-- fields of an error -/
def RpF (K : PySem.W.Frag) (H : Hp) (O : Addr → Prop) (xs : List (Str × V)) (fs : List (Str × D)) : Prop :=
  Paired (fun (p : Str × V) (q : Str × D) => p.1 = q.1 ∧ Rp K H O p.2 q.2) xs fs
def ScrK (K : PySem.W.Frag) (a : Addr) (xs : List V) : Prop := ∃ (o : Obj) (its : Array Value) (n : Nat), K.lookup a = some o ∧ o.cls = .type "list" ∧ o.dict = none ∧ o.data = .seq its n ∧ its.size ≤ sizeLine ∧ Vals xs its.toList
def SvOk (Z : Zx) (H : Hp) (O : Addr → Prop) (v : V) : SV → Prop
  | .sh d => Rp Z.K H O v d
  | .own d => ∃ a, v = .ref a ∧ O a ∧ (Z.H0 a = none ∧ ¬ Z.Oc a) ∧ ¬ InA Z.A a ∧ RpO Z.K H O a d
  | .fn a => v = .ref a
  | .src => ∃ x y, Z.A = some (x, y) ∧ v = .ref x
  | .fns as => ∃ a, v = .ref a ∧ ¬ O a ∧ H a = some (.tup (as.map V.ref))
  | .scr ns => ∃ a, v = .ref a ∧ ((Rd H a (.lst (ns.map V.int)) ∧ ¬ O a) ∨ ScrK Z.K a (ns.map V.int))
  | .exn fs => ∃ a dd xs, Z.Xn = some (a, dd) ∧ v = .ref a ∧ ¬ O dd ∧ H dd = some (.xd xs) ∧ RpF Z.K H O xs fs
  | .exd fs => ∃ a xs, v = .ref a ∧ ¬ O a ∧ H a = some (.xd xs) ∧ RpF Z.K H O xs fs
def EntOk (Z : Zx) (H : Hp) (O : Addr → Prop) (e : Ent) : Prop := ∀ s, e.2 = some s → ∃ v, e.1 = some v ∧ SvOk Z H O v s
def Apart (p q : Ent) : Prop := ∀ d e a, p.2 = some (.own d) → q.2 = some (.own e) → p.1 = some (.ref a) → q.1 ≠ some (.ref a)
theorem Apart.symm {p q : Ent} (h : Apart p q) : Apart q p := fun d e a h1 h2 h3 h4 => h e d a h2 h1 h4 h3
def srcKv (y : Addr) (s : Src) : List (Key × V) := [(.inr "cells", .ref y), (.inr "left", .int s.left), (.inr "mixed", .int s.mixed), (.inr "turn", .int s.turn)]
def SrcOk (A : Option (Addr × Addr)) (H : Hp) (O : Addr → Prop) (src : Option Src) : Prop := match src, A with
  | none, none => True
  | some s, some (x, y) => x ≠ y ∧ O x ∧ O y ∧ H x = some (.dK (srcKv y s)) ∧ H y = some (.lst (s.cells.map V.int))
  | _, _ => False
structure RelO (Z : Zx) (H : Hp) (src : Option Src) (L : List Ent) (O : Addr → Prop) : Prop where
  oc : ∀ a, Z.Oc a → O a
  ent : ∀ e ∈ L, EntOk Z H O e
  ap : L.Pairwise Apart
  src : SrcOk Z.A H O src
  base : ∀ b x, Z.H0 b = some x → ¬ InA Z.A b → H b = some x
  live : ∀ b, O b → ∃ x, H b = some x
def Rel (Z : Zx) (H : Hp) (src : Option Src) (L : List Ent) : Prop := ∃ O, RelO Z H src L O
end Pw
set_option Elab.async false
set_option linter.all false
set_option maxRecDepth 100000
namespace Pw
open PySem PySem.Spec PyProof.Rows L2
section
variable {Z : Zx} {H H' : Hp} {O O' Dt : Addr → Prop} {src src' : Option Src} {L L' : List Ent} {v : V} {d : D}
theorem paired_imp {α β : Type} {F G : α → β → Prop} : ∀ {l₁ : List α} {l₂ : List β}, Paired F l₁ l₂ → (∀ a b, F a b → G a b) → Paired G l₁ l₂
  | _, _, .nil, _ => .nil
  | _, _, .cons r t, f => .cons (f _ _ r) (paired_imp t f)
/-- a step of the heap: what is dirty was forbidden -/
structure Stp (H H' : Hp) (O O' Dt : Addr → Prop) : Prop where
  hk : ∀ b x, H b = some x → ¬ Dt b → H' b = some x
  hd : ∀ b, Dt b → O b
  ho : ∀ b, O' b → O b ∨ H b = none
  hi : ∀ b, O b → ¬ Dt b → O' b
theorem Stp.rp (t : Stp H H' O O' Dt) {K} (h : Rp K H O v d) : Rp K H' O' v d := h.keep (fun b x e n => t.hk b x e fun z => n (t.hd b z)) t.ho
theorem Stp.rpA (t : Stp H H' O O' Dt) {K} {vs ds} (h : RpA K H O vs ds) : RpA K H' O' vs ds := h.keep (fun b x e n => t.hk b x e fun z => n (t.hd b z)) t.ho
theorem Stp.rpD (t : Stp H H' O O' Dt) {K} {vs ds} (h : RpD K H O vs ds) : RpD K H' O' vs ds := h.keep (fun b x e n => t.hk b x e fun z => n (t.hd b z)) t.ho
theorem Stp.rpO (t : Stp H H' O O' Dt) {K} {a : Addr} (n : ¬ Dt a) (h : RpO K H O a d) : RpO K H' O' a d := by
  cases d <;> try exact h
  · obtain ⟨xs, e, r⟩ := h; exact ⟨xs, t.hk _ _ e n, t.rpA r⟩
  · obtain ⟨xs, e, r⟩ := h; exact ⟨xs, t.hk _ _ e n, t.rpD r⟩
/-- an entry that owns no dirty thing -/
def Clear (Dt : Addr → Prop) (e : Ent) : Prop := ∀ d a, e.2 = some (.own d) → e.1 = some (.ref a) → ¬ Dt a
theorem Stp.sv (t : Stp H H' O O' Dt) {s : SV} (c : ∀ d a, s = .own d → v = .ref a → ¬ Dt a) (h : SvOk Z H O v s) : SvOk Z H' O' v s := by
  cases s with
  | sh d => exact t.rp h
  | own d => obtain ⟨a, e, o, f, n, r⟩ := h; exact ⟨a, e, t.hi a o (c d a rfl e), f, n, t.rpO (c d a rfl e) r⟩
  | fn a => exact h
  | src => exact h
  | fns as =>
    obtain ⟨a, e, n, q⟩ := h
    refine ⟨a, e, fun z => ?_, t.hk _ _ q fun z => n (t.hd _ z)⟩
    rcases t.ho _ z with y | y
    · exact n y
    · rw [q] at y; cases y
  | scr ns =>
    obtain ⟨a, e, ⟨q, n⟩ | q⟩ := h
    · have nd : ¬ Dt a := fun z => n (t.hd _ z)
      have some' : ∃ x, H a = some x := q.elim (fun q => ⟨_, q⟩) fun ⟨o, q⟩ => ⟨_, q⟩
      refine ⟨a, e, .inl ⟨?_, fun z => ?_⟩⟩
      · rcases q with q | ⟨o, q⟩
        · exact .inl (t.hk _ _ q nd)
        · exact .inr ⟨o, t.hk _ _ q nd⟩
      · obtain ⟨x, hx⟩ := some'
        rcases t.ho _ z with y | y
        · exact n y
        · rw [hx] at y; cases y
    · exact ⟨a, e, .inr q⟩
  | exn fs =>
    obtain ⟨a, dd, xs, z, e, n, q, r⟩ := h
    refine ⟨a, dd, xs, z, e, fun z => ?_, t.hk _ _ q fun z => n (t.hd _ z), paired_imp r fun p q z => ⟨z.1, t.rp z.2⟩⟩
    rcases t.ho _ z with y | y
    · exact n y
    · rw [q] at y; cases y
  | exd fs =>
    obtain ⟨a, xs, e, n, q, r⟩ := h
    refine ⟨a, xs, e, fun z => ?_, t.hk _ _ q fun z => n (t.hd _ z), paired_imp r fun p q z => ⟨z.1, t.rp z.2⟩⟩
    rcases t.ho _ z with y | y
    · exact n y
    · rw [q] at y; cases y
theorem Stp.ent (t : Stp H H' O O' Dt) {e : Ent} (c : Clear Dt e) (h : EntOk Z H O e) : EntOk Z H' O' e := fun s q => by
  obtain ⟨v, e1, r⟩ := h s q
  exact ⟨v, e1, t.sv (fun d a z y => c d a (z ▸ q) (y ▸ e1)) r⟩
theorem Stp.of_keep (hk : ∀ b x, H b = some x → H' b = some x) : Stp H H' O O (fun _ => False) := ⟨fun b x e _ => hk b x e, fun _ z => z.elim, fun _ z => .inl z, fun _ z _ => z⟩
theorem Clear.none {e : Ent} : Clear (fun _ => False) e := fun _ _ _ _ z => z

theorem Rel.perm (h : Rel Z H src L) (p : L.Perm L') : Rel Z H src L' := by
  obtain ⟨O, r⟩ := h
  exact ⟨O, r.oc, fun e he => r.ent e (p.mem_iff.mpr he), (p.pairwise_iff fun h => h.symm).mp r.ap, r.src, r.base, r.live⟩
theorem Rel.pop {e : Ent} (h : Rel Z H src (e :: L)) : Rel Z H src L := by
  obtain ⟨O, r⟩ := h
  exact ⟨O, r.oc, fun e he => r.ent e (List.mem_cons_of_mem _ he), (List.pairwise_cons.mp r.ap).2, r.src, r.base, r.live⟩
theorem Rel.popN (T : List Ent) (h : Rel Z H src (T ++ L)) : Rel Z H src L := by
  induction T with
  | nil => exact h
  | cons e T ih => exact ih h.pop
/-- an entry without an owner -/
def Mild (e : Ent) : Prop := ∀ d, e.2 ≠ some (.own d)
theorem Mild.apart {e f : Ent} (m : Mild e) : Apart e f := fun d _ _ h => absurd h (m d)
theorem RelO.push {e : Ent} (r : RelO Z H src L O) (m : Mild e) (h : EntOk Z H O e) : RelO Z H src (e :: L) O :=
  ⟨r.oc, fun f hf => (List.mem_cons.mp hf).elim (fun z => z ▸ h) (r.ent f), List.pairwise_cons.mpr ⟨fun _ _ => m.apart, r.ap⟩, r.src, r.base, r.live⟩
theorem mild_none {x} : Mild (x, none) := fun _ h => by cases h
theorem mild_sh {x d} : Mild (x, some (.sh d)) := fun _ h => by cases h
theorem mild_fn {x a} : Mild (x, some (.fn a)) := fun _ h => by cases h
theorem mild_fns {x a} : Mild (x, some (.fns a)) := fun _ h => by cases h
theorem mild_exn {x a} : Mild (x, some (.exn a)) := fun _ h => by cases h
theorem mild_scr {x a} : Mild (x, some (.scr a)) := fun _ h => by cases h
theorem mild_src {x} : Mild (x, some .src) := fun _ h => by cases h
theorem mild_exd {x f} : Mild (x, some (.exd f)) := fun _ h => by cases h
theorem Rel.triv {x} (h : Rel Z H src L) : Rel Z H src ((x, none) :: L) := by
  obtain ⟨O, r⟩ := h
  exact ⟨O, r.push mild_none fun s q => by cases q⟩
/-- data without an object -/
def flat : D → Prop
  | .none | .bool _ | .int _ | .str _ => True
  | _ => False
def vOf : D → V
  | .bool b => .bl b
  | .int i => .int i
  | .str s => .str s
  | _ => .non
theorem rp_flat {K} (f : flat d) : Rp K H O (vOf d) d := by
  cases d <;> first | exact .non | exact .bl _ | exact .int _ | exact .str _ | exact f.elim
theorem Rel.flat (h : Rel Z H src L) (f : Pw.flat d) : Rel Z H src ((some (vOf d), some (.sh d)) :: L) := by
  obtain ⟨O, r⟩ := h
  exact ⟨O, r.push mild_sh fun s q => ⟨_, rfl, by cases q; exact rp_flat f⟩⟩
theorem Rel.int (h : Rel Z H src L) (i : Int) : Rel Z H src ((some (.int i), some (.sh (.int i))) :: L) := h.flat (d := .int i) trivial
theorem Rel.bl (h : Rel Z H src L) (i : Bool) : Rel Z H src ((some (.bl i), some (.sh (.bool i))) :: L) := h.flat (d := .bool i) trivial
theorem Rel.str (h : Rel Z H src L) (i : Str) : Rel Z H src ((some (.str i), some (.sh (.str i))) :: L) := h.flat (d := .str i) trivial
theorem Rel.non (h : Rel Z H src L) : Rel Z H src ((some .non, some (.sh .none)) :: L) := h.flat (d := .none) trivial
/-- a mild entry again -/
theorem Rel.dup {e : Ent} (h : Rel Z H src L) (m : Mild e) (he : e ∈ L) : Rel Z H src (e :: L) := by
  obtain ⟨O, r⟩ := h
  exact ⟨O, r.push m (r.ent e he)⟩
theorem srcOk_step (A : Option (Addr × Addr)) (hk : ∀ b x, InA A b → H b = some x → H' b = some x) (ho : ∀ b, InA A b → O b → O' b) (h : SrcOk A H O src) : SrcOk A H' O' src := by
  cases src with
  | none => cases A <;> exact h
  | some s =>
    cases A with
    | none => exact h
    | some p =>
      obtain ⟨n, o1, o2, h1, h2⟩ := h
      exact ⟨n, ho _ (.inl rfl) o1, ho _ (.inr rfl) o2, hk _ _ (.inl rfl) h1, hk _ _ (.inr rfl) h2⟩
/-- an owned thing is owned no more -/
theorem Rel.settle {v : Option V} {d : D} (h : Rel Z H src ((v, some (.own d)) :: L)) : Rel Z H src ((v, some (.sh d)) :: L) := by
  obtain ⟨O, r⟩ := h
  obtain ⟨w, e1, a, e2, oa, fa, na, ra⟩ := r.ent _ List.mem_cons_self _ rfl
  have e1 : v = some w := e1
  subst e1 e2
  have ap := (List.pairwise_cons.mp r.ap).1
  have t : Stp H H O (fun b => O b ∧ b ≠ a) (fun b => b = a) := ⟨fun _ _ e _ => e, fun b z => z ▸ oa, fun b z => .inl z.1, fun b z n => ⟨z, n⟩⟩
  refine ⟨fun b => O b ∧ b ≠ a, fun b z => ⟨r.oc b z, fun q => fa.2 (q ▸ z)⟩, fun f hf => ?_, List.pairwise_cons.mpr ⟨fun _ _ => mild_sh.apart, (List.pairwise_cons.mp r.ap).2⟩, srcOk_step _ (fun _ _ _ e => e) (fun b i o => ⟨o, fun z => na (z ▸ i)⟩) r.src, r.base, fun b z => r.live b z.1⟩
  rcases List.mem_cons.mp hf with rfl | hf
  · intro s q
    cases q
    refine ⟨_, rfl, ?_⟩
    cases d <;> first | exact ra.elim | skip
    · obtain ⟨xs, q, x⟩ := ra; exact .lst q (fun z => z.2 rfl) (t.rpA x)
    · obtain ⟨xs, q, x⟩ := ra; exact .dic q (fun z => z.2 rfl) (t.rpD x)
  · exact t.ent (fun d' b h1 h2 z => ap f hf d d' a rfl h1 rfl (by rw [h2, z])) (r.ent f (List.mem_cons_of_mem _ hf))
/-- a new object -/
theorem RelO.new {p : Addr} {o : HO} (r : RelO Z H src L O) (hp : H p = none) : RelO Z (upd H p o) src L O := by
  have k : ∀ b x, H b = some x → upd H p o b = some x := fun b x e => by rw [upd_ne (ne_of_none e hp)]; exact e
  exact ⟨r.oc, fun e he => (Stp.of_keep k).ent .none (r.ent e he), r.ap, srcOk_step _ (fun b x _ e => k b x e) (fun _ _ o => o) r.src, fun b x e n => k b x (r.base b x e n), fun b z => let ⟨x, e⟩ := r.live b z; ⟨x, k b x e⟩⟩
theorem RelO.fresh {p : Addr} (r : RelO Z H src L O) (hp : H p = none) : ¬ O p := fun z => by
  obtain ⟨x, e⟩ := r.live p z
  rw [hp] at e; cases e
theorem RelO.fresh0 {p : Addr} (r : RelO Z H src L O) (hp : H p = none) : ¬ InA Z.A p → Z.H0 p = none := fun n => by
  cases q : Z.H0 p with
  | none => rfl
  | some x => rw [r.base p x q n] at hp; cases hp
theorem RelO.freshA {p : Addr} (r : RelO Z H src L O) (hp : H p = none) (hs : src.isSome = Z.A.isSome) : ¬ InA Z.A p := fun z => by
  have q := r.src
  cases src <;> cases e : Z.A <;> rw [e] at q z hs <;> first | exact z | exact q | (simp at hs; done) | skip
  obtain ⟨n, o1, o2, h1, h2⟩ := q
  rcases z with rfl | rfl
  · rw [hp] at h1; cases h1
  · rw [hp] at h2; cases h2
theorem srcOk_some (h : SrcOk Z.A H O src) : src.isSome = Z.A.isSome := by
  cases src <;> cases e : Z.A <;> rw [e] at h <;> first | rfl | exact h.elim
/-- a new tuple of known things -/
theorem Rel.newTup {p : Addr} {vs : List V} {ds : List D} (h : Rel Z H src L) (hp : H p = none) (hr : ∀ O, RelO Z H src L O → RpA Z.K H O vs ds) : Rel Z (upd H p (.tup vs)) src ((some (.ref p), some (.sh (.tuple ds))) :: L) := by
  obtain ⟨O, r⟩ := h
  have k : ∀ b x, H b = some x → upd H p (.tup vs) b = some x := fun b x e => by rw [upd_ne (ne_of_none e hp)]; exact e
  refine ⟨O, (r.new hp).push mild_sh fun s q => ⟨_, rfl, ?_⟩⟩
  cases q
  exact .tup upd_same (r.fresh hp) ((Stp.of_keep k).rpA (hr O r))
theorem Rel.newOwn {p : Addr} {o : HO} {d : D} (h : Rel Z H src L) (hp : H p = none) (hr : ∀ O, RelO Z H src L O → RpO Z.K (upd H p o) (fun b => O b ∨ b = p) p d) : Rel Z (upd H p o) src ((some (.ref p), some (.own d)) :: L) := by
  obtain ⟨O, r⟩ := h
  have k : ∀ b x, H b = some x → upd H p o b = some x := fun b x e => by rw [upd_ne (ne_of_none e hp)]; exact e
  have t : Stp H (upd H p o) O (fun b => O b ∨ b = p) (fun _ => False) := ⟨fun b x e _ => k b x e, fun _ z => z.elim, fun b z => z.elim .inl fun z => .inr (z ▸ hp), fun _ z _ => .inl z⟩
  have nA := r.freshA hp (srcOk_some r.src)
  refine ⟨fun b => O b ∨ b = p, fun b z => .inl (r.oc b z), fun f hf => ?_, List.pairwise_cons.mpr ⟨fun f hf => ?_, r.ap⟩, srcOk_step _ (fun b x _ e => k b x e) (fun _ _ o => .inl o) r.src, fun b x e n => k b x (r.base b x e n), fun b z => ?_⟩
  · rcases List.mem_cons.mp hf with rfl | hf
    · intro s q
      cases q
      exact ⟨_, rfl, p, rfl, .inr rfl, ⟨r.fresh0 hp nA, fun z => r.fresh hp (r.oc p z)⟩, nA, hr O r⟩
    · exact t.ent .none (r.ent f hf)
  · intro d1 d2 a h1 h2 h3 h4
    obtain ⟨w, e1, a', e2, oa, _⟩ := r.ent f hf _ h2
    rw [e1] at h4
    have h3 : some (V.ref p) = some (V.ref a) := h3
    injection h3 with h3; injection h3 with h3
    injection h4 with h4
    rw [e2] at h4; injection h4 with h4
    rw [h4, ← h3] at oa
    exact r.fresh hp oa
  · rcases z with z | rfl
    · obtain ⟨x, e⟩ := r.live b z; exact ⟨x, k b x e⟩
    · exact ⟨o, upd_same⟩
/-- an owned thing is changed -/
theorem Rel.updOwn {p : Addr} {o : HO} {d d' : D} (h : Rel Z H src ((some (.ref p), some (.own d)) :: L)) (hr : ∀ O, RelO Z H src ((some (.ref p), some (.own d)) :: L) O → RpO Z.K H O p d → O p → RpO Z.K (upd H p o) O p d') : Rel Z (upd H p o) src ((some (.ref p), some (.own d')) :: L) := by
  obtain ⟨O, r⟩ := h
  obtain ⟨w, e1, a, e2, oa, fa, na, ra⟩ := r.ent _ List.mem_cons_self _ rfl
  have e1 : some (V.ref p) = some w := e1
  injection e1 with e1
  rw [← e1] at e2
  injection e2 with e2
  subst e2
  have ap := (List.pairwise_cons.mp r.ap).1
  have k : ∀ b x, H b = some x → ¬ b = p → upd H p o b = some x := fun b x e n => by rw [upd_ne n]; exact e
  have t : Stp H (upd H p o) O O (fun b => b = p) := ⟨k, fun b z => z ▸ oa, fun b z => .inl z, fun b z _ => z⟩
  refine ⟨O, r.oc, fun f hf => ?_, List.pairwise_cons.mpr ⟨fun f hf => ?_, (List.pairwise_cons.mp r.ap).2⟩, srcOk_step _ (fun b x i e => k b x e fun z => na (z ▸ i)) (fun _ _ o => o) r.src, fun b x e n => k b x (r.base b x e n) (fun z => by rw [z, fa.1] at e; cases e), fun b z => ?_⟩
  · rcases List.mem_cons.mp hf with rfl | hf
    · intro s q
      cases q
      exact ⟨_, rfl, p, rfl, oa, fa, na, hr O r ra oa⟩
    · exact t.ent (fun d' b h1 h2 z => ap f hf d d' p rfl h1 rfl (by rw [h2, z])) (r.ent f (List.mem_cons_of_mem _ hf))
  · intro d1 d2 a h1 h2 h3 h4
    have h3 : some (V.ref p) = some (V.ref a) := h3
    exact ap f hf d d2 p rfl h2 rfl (h4.trans h3.symm)
  · obtain ⟨x, e⟩ := r.live b z
    by_cases q : b = p
    · exact ⟨o, by rw [q]; exact upd_same⟩
    · exact ⟨x, k b x e q⟩
end

/-! ### slots -/
section
variable {Z : Zx} {H : Hp} {src : Option Src} {T : List Ent} {σ : L2.St} {sl : List (Option SV)}
theorem perm_set {α : Type} : ∀ (l : List α) (i : Nat) (x y : α), l[i]? = some x → (y :: l).Perm (x :: l.set i y)
  | [], _, _, _, h => by simp at h
  | a :: l, 0, x, y, h => by
    simp at h; subst h
    exact List.Perm.swap ..
  | a :: l, i + 1, x, y, h => by
    have ih := perm_set l i x y (by simpa using h)
    rw [List.set_cons_succ]
    exact (List.Perm.swap a y l).trans ((ih.cons a).trans (List.Perm.swap x a _))
theorem zip_set {α β : Type} : ∀ (l : List α) (m : List β) (i : Nat) (x : α) (y : β), List.zip (l.set i x) (m.set i y) = (List.zip l m).set i (x, y)
  | [], m, i, x, y => by simp
  | a :: l, [], i, x, y => by simp
  | a :: l, b :: m, 0, x, y => by simp
  | a :: l, b :: m, i + 1, x, y => by simp [zip_set l m i x y]
theorem zip_get {α β : Type} : ∀ {l : List α} {m : List β} {i : Nat} {x : α} {y : β}, l[i]? = some x → m[i]? = some y → (List.zip l m)[i]? = some (x, y)
  | [], m, i, x, y, h, _ => by simp at h
  | a :: l, [], i, x, y, _, h => by simp at h
  | a :: l, b :: m, 0, x, y, h, g => by simp at h g; subst h g; rfl
  | a :: l, b :: m, i + 1, x, y, h, g => by simpa using zip_get (l := l) (m := m) (i := i) (by simpa using h) (by simpa using g)
theorem set_id {α : Type} : ∀ (l : List α) (i : Nat) (x : α), l[i]? = some x → l.set i x = l
  | [], _, _, h => by simp at h
  | a :: l, 0, x, h => by simp at h; subst h; rfl
  | a :: l, i + 1, x, h => by rw [List.set_cons_succ, set_id l i x (by simpa using h)]
/-- a slot's thing is taken out -/
theorem Rel.takeSlot {i : Nat} {ov : Option V} {os : Option SV} (h : Rel Z H src (T ++ List.zip σ sl)) (h1 : σ[i]? = some ov) (h2 : sl[i]? = some os) : Rel Z H src ((ov, os) :: (T ++ List.zip σ (sl.set i none))) := by
  have e : List.zip σ (sl.set i none) = (List.zip σ sl).set i (ov, none) := by
    rw [← zip_set, set_id σ i ov h1]
  rw [e]
  refine (h.triv (x := ov)).perm ?_
  have p := perm_set (List.zip σ sl) i (ov, os) (ov, none) (zip_get h1 h2)
  have q : ((ov, none) :: (T ++ List.zip σ sl)).Perm (T ++ (ov, none) :: List.zip σ sl) := List.perm_middle.symm
  exact q.trans ((p.append_left T).trans List.perm_middle)
/-- a thing is put into a slot -/
theorem Rel.putSlot {i : Nat} {ov : Option V} {os : Option SV} (h : Rel Z H src ((ov, os) :: (T ++ List.zip σ sl))) (hl : σ.length = sl.length) : Rel Z H src (T ++ List.zip (σ.set i ov) (sl.set i os)) := by
  by_cases hi : i < σ.length
  · have h1 : σ[i]? = some σ[i] := List.getElem?_eq_getElem hi
    have h2 : sl[i]? = some sl[i] := List.getElem?_eq_getElem (hl ▸ hi)
    rw [zip_set]
    have p := perm_set (List.zip σ sl) i _ (ov, os) (zip_get h1 h2)
    have q : ((ov, os) :: (T ++ List.zip σ sl)).Perm (T ++ (ov, os) :: List.zip σ sl) := List.perm_middle.symm
    exact (h.perm (q.trans ((p.append_left T).trans List.perm_middle))).pop
  · rw [List.set_eq_of_length_le (by omega), List.set_eq_of_length_le (by omega)]
    exact h.pop
end
end Pw
set_option Elab.async false
set_option linter.all false
set_option maxRecDepth 100000
namespace Pw
open PySem PySem.Spec PyProof.Rows L2
abbrev Ev := S → Res SV
abbrev Vw := S → Res D
abbrev Tt := S → Res Bool
abbrev Ag := S → Res (List SV)
inductive Fl where
  | nx
  | ret (r : SV)
  | bk
  | ct
abbrev Sm := S → Res Fl

def RelS (Z : Zx) (H : Hp) (σ : L2.St) (T : List Ent) (s : S) : Prop := σ.length = s.sl.length ∧ Rel Z H s.src (T ++ List.zip σ s.sl)
def ExP (Z : Zx) (σ : L2.St) (T : List Ent) (W : WX) (e : Ex) (s : S) : Prop := ∀ dd H', RelS Z H' σ ((some (.ref dd), some (.exd e.fs)) :: T) s → W (.ref e.cls) (some dd) σ H'
def LE (Z : Zx) (W : WX) (f : Ev) : TE := fun σ H Q => ∃ T s, RelS Z H σ T s ∧ (f s).sat (fun r s' => ∀ v H', RelS Z H' σ ((some v, some r) :: T) s' → Q v H') (ExP Z σ T W)
def SV.dat : SV → Option D
  | .sh d => some d
  | .own d => some d
  | _ => none
def Has (L : List Ent) (v : V) (d : D) : Prop := ∃ r, (some v, some r) ∈ L ∧ r.dat = some d
def LV (Z : Zx) (W : WX) (f : Vw) : TE := fun σ H Q => ∃ T s, RelS Z H σ T s ∧ (f s).sat (fun d s' => ∀ v H' T', RelS Z H' σ (T' ++ T) s' → Has (T' ++ T ++ List.zip σ s'.sl) v d → Q v H') (ExP Z σ T W)
def LT (Z : Zx) (W : WX) (f : Tt) : TT := fun σ H Q => ∃ T s, RelS Z H σ T s ∧ (f s).sat (fun b s' => ∀ H', RelS Z H' σ T s' → Q b H') (ExP Z σ T W)
def ents (vs : List V) (rs : List SV) : List Ent := List.zip (vs.map some) (rs.map some)
def LA (Z : Zx) (W : WX) (f : Ag) : TA := fun σ H Q => ∃ T s, RelS Z H σ T s ∧ (f s).sat (fun rs s' => ∀ vs H', vs.length = rs.length → RelS Z H' σ (ents vs rs ++ T) s' → Q vs H') (ExP Z σ T W)
def FlP (Z : Zx) (T : List Ent) (D : Ends) (f : Fl) (s : S) : Prop := match f with
  | .nx => ∀ σ H, RelS Z H σ T s → D.nx σ H
  | .ret r => ∀ v σ H, RelS Z H σ ((some v, some r) :: T) s → D.rt v H
  | .bk => ∀ σ H, RelS Z H σ T s → D.bk σ H
  | .ct => ∀ σ H, RelS Z H σ T s → D.ct σ H
def ExS (Z : Zx) (T : List Ent) (W : WX) (e : Ex) (s : S) : Prop := ∀ σ, ExP Z σ T W e s
def LS (Z : Zx) (W : WX) (f : Sm) : TS := fun D σ H => ∃ T s, RelS Z H σ T s ∧ (f s).sat (FlP Z T D) (ExS Z T W)

def SnE (X : Cx) (Z : Zx) (W : WX) (e : Expr) (f : Ev) : Prop := X.K = Z.K → PE X e (LE Z W f)
def SnV (X : Cx) (Z : Zx) (W : WX) (e : Expr) (f : Vw) : Prop := X.K = Z.K → PE X e (LV Z W f)
def SnT (X : Cx) (Z : Zx) (W : WX) (e : Expr) (f : Tt) : Prop := X.K = Z.K → PT X e (LT Z W f)
def SnA (X : Cx) (Z : Zx) (W : WX) (es : List Expr) (f : Ag) : Prop := X.K = Z.K → PA X es (LA Z W f)
def SnS (X : Cx) (Z : Zx) (W : WX) (st : Stmt) (f : Sm) : Prop := X.K = Z.K → PS X st (LS Z W f)
def SnB (X : Cx) (Z : Zx) (W : WX) (st : List Stmt) (f : Sm) : Prop := X.K = Z.K → PSs X st (LS Z W f)

theorem pe_imp {X : Cx} {e : Expr} {t t' : TE} (h : PE X e t) (i : ∀ σ H Q, t' σ H Q → t σ H Q) : PE X e t' := ⟨fun pins s σ H Q I q => h.run pins s σ H Q I (i σ H Q q)⟩
theorem pt_imp {X : Cx} {e : Expr} {t t' : TT} (h : PT X e t) (i : ∀ σ H Q, t' σ H Q → t σ H Q) : PT X e t' := ⟨fun pins s σ H Q I q => h.run pins s σ H Q I (i σ H Q q)⟩
theorem pa_imp {X : Cx} {e : List Expr} {t t' : TA} (h : PA X e t) (i : ∀ σ H Q, t' σ H Q → t σ H Q) : PA X e t' := ⟨fun pos pins s σ H Q I q => h.run pos pins s σ H Q I (i σ H Q q)⟩
theorem ps_imp {X : Cx} {e : Stmt} {t t' : TS} (h : PS X e t) (i : ∀ D σ H, t' D σ H → t D σ H) : PS X e t' := ⟨fun pins s σ H D I q => h.run pins s σ H D I (i D σ H q)⟩
theorem pss_imp {X : Cx} {e : List Stmt} {t t' : TS} (h : PSs X e t) (i : ∀ D σ H, t' D σ H → t D σ H) : PSs X e t' := ⟨fun pins s σ H D I q => h.run pins s σ H D I (i D σ H q)⟩

section
variable {X : Cx} {Z : Zx} {W : WX} {e a b : Expr} {f fa : Ev} {H : Hp} {σ : L2.St} {T T' : List Ent} {s : S}
theorem RelS.slot {i : Nat} {r : SV} (h : RelS Z H σ T s) (e : s.sl[i]? = some (some r)) : ∃ v, σ[i]? = some (some v) ∧ (some v, some r) ∈ T ++ List.zip σ s.sl := by
  obtain ⟨hl, O, R⟩ := h
  have hi : i < σ.length := by rw [hl]; exact (List.getElem?_eq_some_iff.mp e).1
  have h1 : σ[i]? = some σ[i] := List.getElem?_eq_getElem hi
  have hm : (σ[i], some r) ∈ T ++ List.zip σ s.sl := List.mem_append_right _ (List.mem_of_getElem? (zip_get h1 e))
  obtain ⟨v, e1, _⟩ := R.ent _ hm r rfl
  have e1 : σ[i] = some v := e1
  rw [e1] at h1 hm
  exact ⟨v, h1, hm⟩
theorem RelS.perm (h : RelS Z H σ T s) (p : T.Perm T') : RelS Z H σ T' s := ⟨h.1, h.2.perm (p.append_right _)⟩
theorem RelS.pop {x : Ent} (h : RelS Z H σ (x :: T) s) : RelS Z H σ T s := ⟨h.1, h.2.pop⟩
theorem RelS.popN {T' : List Ent} (h : RelS Z H σ (T' ++ T) s) : RelS Z H σ T s := ⟨h.1, Rel.popN T' (by rw [← List.append_assoc]; exact h.2)⟩
theorem RelS.dup {x : Ent} (h : RelS Z H σ T s) (m : Mild x) (hx : x ∈ T ++ List.zip σ s.sl) : RelS Z H σ (x :: T) s := ⟨h.1, h.2.dup m hx⟩
theorem RelS.settle {v : Option V} {d : D} (h : RelS Z H σ ((v, some (.own d)) :: T) s) : RelS Z H σ ((v, some (.sh d)) :: T) s := ⟨h.1, h.2.settle⟩

/-! ### constants, names -/
def cD (d : D) : Ev := fun s => .ok (.sh d) s
theorem snE_C {v : V} {d : D} (h : PE X e (tC v)) (hf : flat d) (hv : vOf d = v) : SnE X Z W e (cD d) := fun _ => pe_imp h fun σ H Q ⟨T, s, R, q⟩ => by
  subst hv
  exact q _ _ ⟨R.1, R.2.flat hf⟩
theorem snE_int {i j pos} : SnE X Z W (.Constant (.int i) j pos) (cD (.int i)) := snE_C pe_int trivial rfl
theorem snE_bl {i j pos} : SnE X Z W (.Constant (.bool i) j pos) (cD (.bool i)) := snE_C pe_bl trivial rfl
theorem snE_non {j pos} : SnE X Z W (.Constant .none j pos) (cD .none) := snE_C pe_non trivial rfl
theorem snE_str {x j pos} : SnE X Z W (.Constant (.str x) j pos) (cD (.str x)) := snE_C pe_str trivial rfl
/-- a name read: what a slot owns is shared from then on -/
def cVar (i : Nat) : Ev := fun s => match s.sl[i]? with
  | some (some (.own d)) => .ok (.sh d) { s with sl := s.sl.set i (some (.sh d)) }
  | some (some (.sh d)) => .ok (.sh d) s
  | some (some (.fn a)) => .ok (.fn a) s
  | some (some .src) => .ok .src s
  | some (some (.scr ns)) => .ok (.scr ns) s
  | _ => .err
theorem RelS.share {i : Nat} {d : D} {v : V} (R : RelS Z H σ T s) (e : s.sl[i]? = some (some (.own d))) (hv : σ[i]? = some (some v)) : RelS Z H σ T { s with sl := s.sl.set i (some (.sh d)) } := by
  have R2 := (R.2.takeSlot hv e).settle.putSlot (i := i) (by simpa using R.1)
  rw [set_id σ i _ hv, List.set_set] at R2
  exact ⟨by simpa using R.1, R2⟩
theorem snE_var {i : Nat} (h : PE X e (tVar i)) : SnE X Z W e (cVar i) := fun _ => pe_imp h fun σ H Q ⟨T, s, R, q⟩ => by
  unfold cVar at q
  split at q
  · rename_i d e
    obtain ⟨v, hv, hm⟩ := R.slot e
    refine ⟨v, hv, q _ _ ?_⟩
    have R2 := R.share e hv
    have hi : i < s.sl.length := (List.getElem?_eq_some_iff.mp e).1
    obtain ⟨v', hv', hm'⟩ := R2.slot (i := i) (r := .sh d) (by simp [hi])
    rw [hv] at hv'; cases hv'
    exact R2.dup mild_sh hm'
  · rename_i d e
    obtain ⟨v, hv, hm⟩ := R.slot e
    exact ⟨v, hv, q _ _ (R.dup mild_sh hm)⟩
  · rename_i a e
    obtain ⟨v, hv, hm⟩ := R.slot e
    exact ⟨v, hv, q _ _ (R.dup mild_fn hm)⟩
  · rename_i e
    obtain ⟨v, hv, hm⟩ := R.slot e
    exact ⟨v, hv, q _ _ (R.dup mild_src hm)⟩
  · rename_i ns e
    obtain ⟨v, hv, hm⟩ := R.slot e
    exact ⟨v, hv, q _ _ (R.dup mild_scr hm)⟩
  · exact q.elim
/-- a name moved: the slot holds nothing we know behind it -/
def cMv (i : Nat) : Ev := fun s => match s.sl[i]? with
  | some (some r) => .ok r { s with sl := s.sl.set i none }
  | _ => .err
theorem snE_mv {i : Nat} (h : PE X e (tVar i)) : SnE X Z W e (cMv i) := fun _ => pe_imp h fun σ H Q ⟨T, s, R, q⟩ => by
  unfold cMv at q
  split at q
  · rename_i r e
    obtain ⟨v, hv, hm⟩ := R.slot e
    exact ⟨v, hv, q _ _ ⟨by simpa using R.1, R.2.takeSlot hv e⟩⟩
  · exact q.elim
/-! ### views -/
def cVarV (i : Nat) : Vw := fun s => match s.sl[i]? with
  | some (some (.own d)) => .ok d s
  | some (some (.sh d)) => .ok d s
  | _ => .err
theorem snV_var {i : Nat} (h : PE X e (tVar i)) : SnV X Z W e (cVarV i) := fun _ => pe_imp h fun σ H Q ⟨T, s, R, q⟩ => by
  unfold cVarV at q
  split at q
  · rename_i d e
    obtain ⟨v, hv, hm⟩ := R.slot e
    exact ⟨v, hv, q _ _ [] R ⟨_, hm, rfl⟩⟩
  · rename_i d e
    obtain ⟨v, hv, hm⟩ := R.slot e
    exact ⟨v, hv, q _ _ [] R ⟨_, hm, rfl⟩⟩
  · exact q.elim
def vE (f : Ev) : Vw := fun s => (f s).bind fun r s' => match r.dat with
  | some d => .ok d s'
  | none => .err
theorem snV_E (h : SnE X Z W e f) : SnV X Z W e (vE f) := fun k => pe_imp (h k) fun σ H Q ⟨T, s, R, q⟩ => by
  refine ⟨T, s, R, ?_⟩
  refine Res.sat_mono (Res.sat_bind.mp q) (fun r s' q v H' R' => ?_) fun e s h => h
  cases e : r.dat with
  | none => rw [e] at q; exact q.elim
  | some d => rw [e] at q; exact q _ _ [(some v, some r)] R' ⟨r, by simp, e⟩
/-! ### argument lists -/
def SV.settle : SV → SV
  | .own d => .sh d
  | r => r
theorem RelS.settleAny {v : Option V} {r : SV} (h : RelS Z H σ ((v, some r) :: T) s) : RelS Z H σ ((v, some r.settle) :: T) s := by
  cases r <;> first | exact h | exact h.settle
def cNil : Ag := fun s => .ok [] s
def cCons (f : Ev) (g : Ag) : Ag := fun s => (f s).bind fun r s1 => (g s1).bind fun rs s2 => .ok (r.settle :: rs) s2
theorem snA_nil : SnA X Z W [] cNil := fun _ => pa_imp pa_nil fun σ H Q ⟨T, s, R, q⟩ => q [] _ rfl R
theorem snA_cons {es : List Expr} {g : Ag} (h : SnE X Z W e f) (hr : SnA X Z W es g) (hs : starEach (e :: es) X.env = (false, eval e X.env) :: starEach es X.env := by rfl) : SnA X Z W (e :: es) (cCons f g) := fun k => pa_imp (pa_cons (h k) (hr k) hs) fun σ H Q ⟨T, s, R, q⟩ => by
  refine ⟨T, s, R, ?_⟩
  refine Res.sat_mono (Res.sat_bind.mp q) (fun r s1 q v H1 R1 => ?_) fun e s h => h
  refine ⟨(some v, some r.settle) :: T, s1, R1.settleAny, ?_⟩
  refine Res.sat_mono (Res.sat_bind.mp q) (fun rs s2 q vs H2 hl R2 => ?_) fun e s h dd H' R' => h dd H' ?_
  · refine q (v :: vs) H2 (by simpa [SV.settle] using hl) (R2.perm ?_)
    exact List.perm_middle
  · exact ⟨R'.1, (R'.perm (List.Perm.swap _ _ _)).pop.2⟩
/-! ### displays -/
def datas : List SV → Option (List D)
  | [] => some []
  | .sh d :: r => (datas r).map (d :: ·)
  | _ => none
theorem rpA_ents {O : Addr → Prop} : ∀ {vs : List V} {rs : List SV} {ds : List D}, vs.length = rs.length → datas rs = some ds → (∀ e ∈ ents vs rs, EntOk Z H O e) → RpA Z.K H O vs ds
  | [], [], _, _, e, _ => by cases e; exact .nil
  | v :: vs, r :: rs, ds, hl, e, h => by
    cases r <;> first | (simp [datas] at e; done) | skip
    rename_i d
    simp only [datas, Option.map_eq_some_iff] at e
    obtain ⟨ds', e1, rfl⟩ := e
    obtain ⟨w, e2, q⟩ := h (some v, some (.sh d)) (by simp [ents]) _ rfl
    cases e2
    exact .cons q (rpA_ents (by simpa using hl) e1 fun e he => h e (by simp only [ents, List.map_cons, List.zip_cons_cons]; exact List.mem_cons_of_mem _ he))
  | [], _ :: _, _, h, _, _ => by simp at h
  | _ :: _, [], _, h, _, _ => by simp at h
def cTup (g : Ag) : Ev := fun s => (g s).bind fun rs s1 => match datas rs with
  | some ds => if ds.length ≤ sizeLine then .ok (.sh (.tuple ds)) s1 else .err
  | none => .err
def cLst (g : Ag) : Ev := fun s => (g s).bind fun rs s1 => match datas rs with
  | some ds => if ds.length ≤ sizeLine then .ok (.own (.list ds)) s1 else .err
  | none => .err
theorem snE_tup {es : List Expr} {g : Ag} {x1 pos} (h : SnA X Z W es g) : SnE X Z W (.Tuple es x1 pos) (cTup g) := fun k => pe_imp (pe_tup (h k)) fun σ H Q ⟨T, s, R, q⟩ => by
  refine ⟨T, s, R, ?_⟩
  refine Res.sat_mono (Res.sat_bind.mp q) (fun rs s1 q vs H1 hl R1 => ?_) fun e s h => h
  split at q
  · rename_i ds e
    split at q
    · rename_i hz
      have hr : ∀ O, RelO Z H1 s1.src (ents vs rs ++ T ++ List.zip σ s1.sl) O → RpA Z.K H1 O vs ds := fun O r => rpA_ents hl e fun x hx => r.ent x (by simp [hx])
      obtain ⟨O, r⟩ := R1.2
      refine ⟨by rw [(hr O r).length]; exact hz, fun p hp => q _ _ ⟨R1.1, ?_⟩⟩
      have R2 := Rel.newTup (p := p) (vs := vs) (ds := ds) ⟨O, r⟩ hp hr
      have R3 := R2.perm (L' := ents vs rs ++ ((some (.ref p), some (.sh (.tuple ds))) :: (T ++ List.zip σ s1.sl))) (by rw [List.append_assoc]; exact List.perm_middle.symm)
      exact Rel.popN _ R3
    · exact q.elim
  · exact q.elim
theorem snE_lst {es : List Expr} {g : Ag} {pos} (h : SnA X Z W es g) : SnE X Z W (.List es pos) (cLst g) := fun k => pe_imp (pe_lst (h k)) fun σ H Q ⟨T, s, R, q⟩ => by
  refine ⟨T, s, R, ?_⟩
  refine Res.sat_mono (Res.sat_bind.mp q) (fun rs s1 q vs H1 hl R1 => ?_) fun e s h => h
  split at q
  · rename_i ds e
    split at q
    · rename_i hz
      have hr : ∀ O, RelO Z H1 s1.src (ents vs rs ++ T ++ List.zip σ s1.sl) O → RpA Z.K H1 O vs ds := fun O r => rpA_ents hl e fun x hx => r.ent x (by simp [hx])
      obtain ⟨O, r⟩ := R1.2
      refine ⟨by rw [(hr O r).length]; exact hz, fun p hp => q _ _ ⟨R1.1, ?_⟩⟩
      have R2 := Rel.newOwn (p := p) (o := .lst vs) (d := .list ds) ⟨O, r⟩ hp fun O r => ⟨vs, upd_same, (hr O r).keep (fun b x e _ => by rw [upd_ne (ne_of_none e hp)]; exact e) fun b z => Or.elim z Or.inl fun z => .inr (by rw [z]; exact hp)⟩
      have R3 := R2.perm (L' := ents vs rs ++ ((some (.ref p), some (.own (.list ds))) :: (T ++ List.zip σ s1.sl))) (by rw [List.append_assoc]; exact List.perm_middle.symm)
      exact Rel.popN _ R3
    · exact q.elim
  · exact q.elim
end
end Pw
set_option Elab.async false
set_option linter.all false
set_option maxRecDepth 100000
namespace Pw
open PySem PySem.Spec PyProof.Rows L2
section
variable {X : Cx} {Z : Zx} {W : WX} {e a b : Expr} {f fa : Ev} {fb : Vw} {H : Hp} {σ : L2.St} {T T' : List Ent} {s : S} {L : List Ent} {src : Option Src} {O : Addr → Prop} {v : V}
theorem Rel.mid {e : Ent} (T' : List Ent) (h : Rel Z H src (e :: (T' ++ L))) : Rel Z H src (e :: L) := Rel.popN T' (h.perm List.perm_middle.symm)
theorem Rp.bool_inv {K} {b : Bool} (h : Rp K H O v (.bool b)) : v = .bl b := by cases h; rfl
theorem Rp.int_inv {K} {b : Int} (h : Rp K H O v (.int b)) : v = .int b := by cases h; rfl
theorem Rp.str_inv {K} {b : Str} (h : Rp K H O v (.str b)) : v = .str b := by cases h; rfl
theorem Rp.non_inv {K} (h : Rp K H O v .none) : v = .non := by cases h; rfl
theorem RelO.has (r : RelO Z H src L O) {d : D} (h : Has L v d) : Rp Z.K H O v d ∨ ∃ a, v = .ref a ∧ RpO Z.K H O a d := by
  obtain ⟨x, hm, e⟩ := h
  obtain ⟨w, e1, q⟩ := r.ent _ hm x rfl
  cases e1
  cases x <;> first | (cases e; done) | skip
  · cases e; exact .inl q
  · cases e; obtain ⟨a, e1, _, _, _, z⟩ := q; exact .inr ⟨a, e1, z⟩
theorem RelO.int (r : RelO Z H src L O) {i : Int} (h : Has L v (.int i)) : v = .int i := (r.has h).elim Rp.int_inv fun ⟨_, _, z⟩ => z.elim
theorem RelO.str (r : RelO Z H src L O) {i : Str} (h : Has L v (.str i)) : v = .str i := (r.has h).elim Rp.str_inv fun ⟨_, _, z⟩ => z.elim
theorem RelO.bl (r : RelO Z H src L O) {i : Bool} (h : Has L v (.bool i)) : v = .bl i := (r.has h).elim Rp.bool_inv fun ⟨_, _, z⟩ => z.elim
theorem RelO.non (r : RelO Z H src L O) (h : Has L v .none) : v = .non := (r.has h).elim Rp.non_inv fun ⟨_, _, z⟩ => z.elim
theorem RelO.list (r : RelO Z H src L O) {ds : List D} (h : Has L v (.list ds)) : ∃ a xs, v = .ref a ∧ H a = some (.lst xs) ∧ RpA Z.K H O xs ds := by
  rcases r.has h with z | ⟨a, e, xs, q, z⟩
  · cases z with | lst q _ z => exact ⟨_, _, rfl, q, z⟩
  · exact ⟨a, xs, e, q, z⟩
theorem RelO.tuple (r : RelO Z H src L O) {ds : List D} (h : Has L v (.tuple ds)) : ∃ a xs, v = .ref a ∧ SqT Z.K H a xs ∧ RpA Z.K H O xs ds := by
  rcases r.has h with z | ⟨a, e, z⟩
  · cases z with
    | tup q _ z => exact ⟨_, _, rfl, SqT.of q, z⟩
    | tupK e1 e2 e3 e4 e5 z => exact ⟨_, _, rfl, .inr ⟨_, _, _, e1, e2, e3, e4, e5⟩, z⟩
  · exact z.elim
theorem RelO.dict (r : RelO Z H src L O) {ds : List (D × D)} (h : Has L v (.dict ds)) : ∃ a xs, v = .ref a ∧ H a = some (.dK xs) ∧ RpD Z.K H O xs ds := by
  rcases r.has h with z | ⟨a, e, xs, q, z⟩
  · cases z with | dic q _ z => exact ⟨_, _, rfl, q, z⟩
  · exact ⟨a, xs, e, q, z⟩

/-! ### operations of two values -/
def rD (K : PySem.W.Frag) (g : D → D → Option SV) : R2 := fun x y H Q => ∃ Z src L d1 d2 r, Z.K = K ∧ Rel Z H src L ∧ Has L x d1 ∧ Has L y d2 ∧ g d1 d2 = some r ∧ ∀ v H', Rel Z H' src ((some v, some r) :: L) → Q v H'
def Res.opt {α : Type} (o : Option α) (s : S) : Res α := match o with
  | some a => .ok a s
  | none => .err
def cBinE (g : D → D → Option SV) (fa : Ev) (fb : Vw) : Ev := fun s => (fa s).bind fun r s1 => match r.dat with
  | some d1 => (fb s1).bind fun d2 s2 => Res.opt (g d1 d2) s2
  | none => .err
def datAt (s : S) (i : Nat) : Option D := match s.sl[i]? with
  | some (some r) => r.dat
  | _ => none
/-- the left one is a name: what it holds counts when the operation comes -/
def cBinV (g : D → D → Option SV) (i : Nat) (fb : Vw) : Ev := fun s => match s.sl[i]? with
  | some (some _) => (fb s).bind fun d2 s2 => match datAt s2 i with
    | some d1 => Res.opt (g d1 d2) s2
    | none => .err
  | _ => .err
theorem sat_opt {α : Type} {o : Option α} {s : S} {Q : α → S → Prop} {E : Ex → S → Prop} (h : (Res.opt o s).sat Q E) : ∃ a, o = some a ∧ Q a s := by
  cases o with
  | none => exact h.elim
  | some a => exact ⟨a, rfl, h⟩
theorem RelS.datAt {i : Nat} {d : D} (R : RelS Z H σ T s) (h : Pw.datAt s i = some d) : ∃ v, σ[i]? = some (some v) ∧ Has (T ++ List.zip σ s.sl) v d := by
  unfold Pw.datAt at h
  split at h
  · rename_i r e
    obtain ⟨v, hv, hm⟩ := R.slot e
    exact ⟨v, hv, r, hm, h⟩
  · cases h
theorem rd_binE {g : D → D → Option SV} {ta tb : TE} (ha : ∀ σ H Q, LE Z W fa σ H Q → ta σ H Q) (hb : ∀ σ H Q, LV Z W fb σ H Q → tb σ H Q) {Q : VK} (q : LE Z W (cBinE g fa fb) σ H Q) : tOp (rD Z.K g) ta tb σ H Q := by
  obtain ⟨T, s, R, q⟩ := q
  refine ha _ _ _ ⟨T, s, R, Res.sat_mono (Res.sat_bind.mp q) (fun r s1 q v H1 R1 => ?_) fun e s h => h⟩
  cases e : r.dat with
  | none => rw [e] at q; exact q.elim
  | some d1 =>
    rw [e] at q
    refine hb _ _ _ ⟨_, s1, R1, Res.sat_mono (Res.sat_bind.mp q) (fun d2 s2 q v2 H2 T' R2 hv2 => ?_) fun e s h dd H' R' => h dd H' ⟨R'.1, (R'.perm (List.Perm.swap _ _ _)).pop.2⟩⟩
    obtain ⟨r3, e3, q⟩ := sat_opt q
    refine ⟨Z, s2.src, _, d1, d2, r3, rfl, R2.2, ⟨r, by simp, e⟩, hv2, e3, fun v3 H3 R3 => q v3 H3 ⟨R2.1, ?_⟩⟩
    have R4 : Rel Z H3 s2.src ((some v3, some r3) :: ((T' ++ [(some v, some r)]) ++ (T ++ List.zip σ s2.sl))) := by simpa using R3
    exact R4.mid
theorem rd_binV {g : D → D → Option SV} {i : Nat} {tb : TE} (hb : ∀ σ H Q, LV Z W fb σ H Q → tb σ H Q) {Q : VK} (q : LE Z W (cBinV g i fb) σ H Q) : tOp (rD Z.K g) (tVar i) tb σ H Q := by
  obtain ⟨T, s, R, q⟩ := q
  unfold cBinV at q
  split at q
  · rename_i r e
    obtain ⟨v, hv, hm⟩ := R.slot e
    refine ⟨v, hv, hb _ _ _ ⟨T, s, R, Res.sat_mono (Res.sat_bind.mp q) (fun d2 s2 q v2 H2 T' R2 hv2 => ?_) fun e s h => h⟩⟩
    cases e1 : Pw.datAt s2 i with
    | none => rw [e1] at q; exact q.elim
    | some d1 =>
      rw [e1] at q
      obtain ⟨r3, e3, q⟩ := sat_opt q
      obtain ⟨v', hv', hh⟩ := R2.datAt e1
      rw [hv] at hv'; cases hv'
      refine ⟨Z, s2.src, _, d1, d2, r3, rfl, R2.2, hh, hv2, e3, fun v3 H3 R3 => q v3 H3 ⟨R2.1, ?_⟩⟩
      have R4 : Rel Z H3 s2.src ((some v3, some r3) :: (T' ++ (T ++ List.zip σ s2.sl))) := by simpa using R3
      exact R4.mid
  · exact q.elim
theorem snE_binE {op : Operator} {g : D → D → Option SV} {pos} (ho : OpR X (binaryOp op) (rD X.K g)) (ha : SnE X Z W a fa) (hb : SnV X Z W b fb) : SnE X Z W (.BinOp a op b pos) (cBinE g fa fb) := fun k => pe_imp (pe_op ho (ha k) (hb k)) fun σ H Q q => by rw [k]; exact rd_binE (fun _ _ _ q => q) (fun _ _ _ q => q) q
theorem snE_binV {op : Operator} {g : D → D → Option SV} {i : Nat} {pos} (ho : OpR X (binaryOp op) (rD X.K g)) (ha : PE X a (tVar i)) (hb : SnV X Z W b fb) : SnE X Z W (.BinOp a op b pos) (cBinV g i fb) := fun k => pe_imp (pe_op ho ha (hb k)) fun σ H Q q => by rw [k]; exact rd_binV (fun _ _ _ q => q) q
theorem snE_ixE {g : D → D → Option SV} {pos} (ho : IxR X (rD X.K g)) (ha : SnE X Z W a fa) (hb : SnV X Z W b fb) (hs : PlainIx b) : SnE X Z W (.Subscript a b pos) (cBinE g fa fb) := fun k => pe_imp (pe_ix ho (ha k) (hb k) hs) fun σ H Q q => by rw [k]; exact rd_binE (fun _ _ _ q => q) (fun _ _ _ q => q) q
theorem snE_ixV {g : D → D → Option SV} {i : Nat} {pos} (ho : IxR X (rD X.K g)) (ha : PE X a (tVar i)) (hb : SnV X Z W b fb) (hs : PlainIx b) : SnE X Z W (.Subscript a b pos) (cBinV g i fb) := fun k => pe_imp (pe_ix ho ha (hb k) hs) fun σ H Q q => by rw [k]; exact rd_binV (fun _ _ _ q => q) q
theorem snE_cmpE {op : CmpOp} {g : D → D → Option SV} {pos} (ho : OpR X (compareOp op) (rD X.K g)) (ha : SnE X Z W a fa) (hb : SnV X Z W b fb) (hm : behindInMarks op b = false) : SnE X Z W (.Compare a [op] [b] pos) (cBinE g fa fb) := fun k => pe_imp (pe_cmpR ho (ha k) (hb k) hm) fun σ H Q q => by rw [k]; exact rd_binE (fun _ _ _ q => q) (fun _ _ _ q => q) q
theorem snE_cmpV {op : CmpOp} {g : D → D → Option SV} {i : Nat} {pos} (ho : OpR X (compareOp op) (rD X.K g)) (ha : PE X a (tVar i)) (hb : SnV X Z W b fb) (hm : behindInMarks op b = false) : SnE X Z W (.Compare a [op] [b] pos) (cBinV g i fb) := fun k => pe_imp (pe_cmpR ho ha (hb k) hm) fun σ H Q q => by rw [k]; exact rd_binV (fun _ _ _ q => q) q
/-! ### tests -/
def cT (f : Ev) : Tt := fun s => (f s).bind fun r s' => match r with
  | .sh (.bool b) => .ok b s'
  | _ => .err
theorem rd_T {t : TE} (h : ∀ σ H Q, LE Z W f σ H Q → t σ H Q) {Q : Bool → Hp → Prop} (q : LT Z W (cT f) σ H Q) : t σ H fun x H' => ∃ k, x = .bl k ∧ Q k H' := by
  obtain ⟨T, s, R, q⟩ := q
  refine h _ _ _ ⟨T, s, R, Res.sat_mono (Res.sat_bind.mp q) (fun r s1 q v H1 R1 => ?_) fun e s h => h⟩
  split at q
  · rename_i b
    obtain ⟨O, r⟩ := R1.2
    have e := r.bl (v := v) (i := b) ⟨.sh (.bool b), by simp, rfl⟩
    exact ⟨b, e, q _ R1.pop⟩
  · exact q.elim
theorem snT_val (h : SnE X Z W e f) (he : ∀ whole, isTrue e X.env whole = (do let v ← whole; standAt e.pos; holding [v] (truthy v)) := by intro _; rfl) : SnT X Z W e (cT f) := fun k => pt_imp (pt_val (h k) he) fun σ H Q q => rd_T (fun _ _ _ q => q) q
theorem snT_cmpE {op : CmpOp} {g : D → D → Option SV} {pos} (ho : OpR X (compareOp op) (rD X.K g)) (ha : SnE X Z W a fa) (hb : SnV X Z W b fb) (hm : behindInMarks op b = false) : SnT X Z W (.Compare a [op] [b] pos) (cT (cBinE g fa fb)) := fun k => pt_imp (pt_cmpR ho (ha k) (hb k) hm) fun σ H Q q => rd_T (fun _ _ _ q => by rw [k]; exact rd_binE (fun _ _ _ q => q) (fun _ _ _ q => q) q) q
theorem snT_cmpV {op : CmpOp} {g : D → D → Option SV} {i : Nat} {pos} (ho : OpR X (compareOp op) (rD X.K g)) (ha : PE X a (tVar i)) (hb : SnV X Z W b fb) (hm : behindInMarks op b = false) : SnT X Z W (.Compare a [op] [b] pos) (cT (cBinV g i fb)) := fun k => pt_imp (pt_cmpR ho ha (hb k) hm) fun σ H Q q => rd_T (fun _ _ _ q => by rw [k]; exact rd_binV (fun _ _ _ q => q) q) q
def SnW (X : Cx) (Z : Zx) (W : WX) (e : Expr) (f : Tt) : Prop := X.K = Z.K → PW X e (LT Z W f)
def cAnd (f g : Tt) : Tt := fun s => (f s).bind fun b s1 => if b = true then g s1 else .ok false s1
def cOr (f g : Tt) : Tt := fun s => (f s).bind fun b s1 => if b = true then .ok true s1 else g s1
def cNot (f : Tt) : Tt := fun s => (f s).bind fun b s1 => .ok (!b) s1
theorem pw_imp {X : Cx} {e : Expr} {t t' : TT} (h : PW X e t) (i : ∀ σ H Q, t' σ H Q → t σ H Q) : PW X e t' := ⟨fun wh pins s σ H Q I q => h.run wh pins s σ H Q I (i σ H Q q)⟩
variable {g h : Tt} {rest : List Expr}
theorem snT_W (h' : SnW X Z W e g) : SnT X Z W e g := fun k => (h' k).pt
theorem snW_and1 {pos} (ha : SnT X Z W a g) : SnW X Z W (.BoolOp .And [a] pos) g := fun k => pw_and1 (ha k)
theorem snW_or1 {pos} (ha : SnT X Z W a g) : SnW X Z W (.BoolOp .Or [a] pos) g := fun k => pw_or1 (ha k)
theorem snW_and {pos} (ha : SnT X Z W a g) (hb : SnW X Z W (.BoolOp .And (b :: rest) pos) h) : SnW X Z W (.BoolOp .And (a :: b :: rest) pos) (cAnd g h) := fun k => pw_imp (pw_and (ha k) (hb k)) fun σ H Q ⟨T, s, R, q⟩ => by
  refine ⟨T, s, R, Res.sat_mono (Res.sat_bind.mp q) (fun b s1 q H1 R1 => ?_) fun e s h => h⟩
  cases b with
  | true => exact ⟨T, s1, R1, q⟩
  | false => exact q H1 R1
theorem snW_or {pos} (ha : SnT X Z W a g) (hb : SnW X Z W (.BoolOp .Or (b :: rest) pos) h) : SnW X Z W (.BoolOp .Or (a :: b :: rest) pos) (cOr g h) := fun k => pw_imp (pw_or (ha k) (hb k)) fun σ H Q ⟨T, s, R, q⟩ => by
  refine ⟨T, s, R, Res.sat_mono (Res.sat_bind.mp q) (fun b s1 q H1 R1 => ?_) fun e s h => h⟩
  cases b with
  | true => exact q H1 R1
  | false => exact ⟨T, s1, R1, q⟩
theorem snT_not {pos} (ha : SnT X Z W a g) : SnT X Z W (.UnaryOp .Not a pos) (cNot g) := fun k => pt_imp (pt_not (ha k)) fun σ H Q ⟨T, s, R, q⟩ => ⟨T, s, R, Res.sat_bind.mp q⟩
/-- a or b, a and b, not a as values -/
def cOrV (f g : Ev) : Ev := fun s => (f s).bind fun r s1 => match r with
  | .sh (.bool b) => if b = true then .ok (.sh (.bool true)) s1 else g s1
  | _ => .err
def cAndV (f g : Ev) : Ev := fun s => (f s).bind fun r s1 => match r with
  | .sh (.bool b) => if b = true then g s1 else .ok (.sh (.bool false)) s1
  | _ => .err
def cNotV (f : Ev) : Ev := fun s => (f s).bind fun r s1 => match r with
  | .sh (.bool b) => .ok (.sh (.bool (!b))) s1
  | _ => .err
variable {k1 k2 : Ev}
theorem snE_one {op pos} (h : SnE X Z W a k1) : SnE X Z W (.BoolOp op [a] pos) k1 := fun k => pe_one (h k)
theorem snE_and {pos} (ha : SnE X Z W a k1) (hb : SnE X Z W (.BoolOp .And (b :: rest) pos) k2) : SnE X Z W (.BoolOp .And (a :: b :: rest) pos) (cAndV k1 k2) := fun k => pe_imp (pe_and (ha k) (hb k)) fun σ H Q ⟨T, s, R, q⟩ => by
  refine ⟨T, s, R, Res.sat_mono (Res.sat_bind.mp q) (fun r s1 q v H1 R1 => ?_) fun e s h => h⟩
  split at q
  · rename_i c
    obtain ⟨O, r⟩ := R1.2
    have e := r.bl (v := v) (i := c) ⟨.sh (.bool c), by simp, rfl⟩
    refine ⟨c, e, ?_⟩
    cases c with
    | true => exact ⟨T, s1, R1.pop, q⟩
    | false => exact q _ _ (e ▸ R1)
  · exact q.elim
theorem snE_or {pos} (ha : SnE X Z W a k1) (hb : SnE X Z W (.BoolOp .Or (b :: rest) pos) k2) : SnE X Z W (.BoolOp .Or (a :: b :: rest) pos) (cOrV k1 k2) := fun k => pe_imp (pe_or (ha k) (hb k)) fun σ H Q ⟨T, s, R, q⟩ => by
  refine ⟨T, s, R, Res.sat_mono (Res.sat_bind.mp q) (fun r s1 q v H1 R1 => ?_) fun e s h => h⟩
  split at q
  · rename_i c
    obtain ⟨O, r⟩ := R1.2
    have e := r.bl (v := v) (i := c) ⟨.sh (.bool c), by simp, rfl⟩
    refine ⟨c, e, ?_⟩
    cases c with
    | false => exact ⟨T, s1, R1.pop, q⟩
    | true => exact q _ _ (e ▸ R1)
  · exact q.elim
theorem snE_not {pos} (ha : SnE X Z W a k1) : SnE X Z W (.UnaryOp .Not a pos) (cNotV k1) := fun k => pe_imp (pe_not (ha k)) fun σ H Q ⟨T, s, R, q⟩ => by
  refine ⟨T, s, R, Res.sat_mono (Res.sat_bind.mp q) (fun r s1 q v H1 R1 => ?_) fun e s h => h⟩
  split at q
  · rename_i c
    obtain ⟨O, r⟩ := R1.2
    have e := r.bl (v := v) (i := c) ⟨.sh (.bool c), by simp, rfl⟩
    exact ⟨c, e, q _ _ ⟨R1.1, R1.pop.2.bl _⟩⟩
  · exact q.elim
def cIf (t : Tt) (f g : Ev) : Ev := fun s => (t s).bind fun b s1 => if b = true then f s1 else g s1
theorem snE_if {c : Expr} {pos} (hc : SnT X Z W c g) (ha : SnE X Z W a k1) (hb : SnE X Z W b k2) : SnE X Z W (.IfExp c a b pos) (cIf g k1 k2) := fun k => pe_imp (pe_ifExp (hc k) (ha k) (hb k)) fun σ H Q ⟨T, s, R, q⟩ => by
  refine ⟨T, s, R, Res.sat_mono (Res.sat_bind.mp q) (fun b s1 q H1 R1 => ?_) fun e s h => h⟩
  cases b with
  | true => exact ⟨T, s1, R1, q⟩
  | false => exact ⟨T, s1, R1, q⟩
end
end Pw
set_option Elab.async false
set_option linter.all false
set_option maxRecDepth 100000
namespace Pw
open PySem PySem.Spec PyProof.Rows L2
section
variable {X : Cx} {Z : Zx} {H : Hp} {σ : L2.St} {L : List Ent} {src : Option Src} {O : Addr → Prop} {v : V} {pins : List (Addr × Obj)} {s : Shared}
/-! ### what the heap of objects reads -/
theorem vals_key {P : Program} {w : World} : ∀ {kvs : List (Key × V)} {vs : List (Key × Value)} {es : List DictEntry}, KV kvs vs → Pairs (mixKind P w) es vs →
    Paired (fun (p : Key × V) (e : DictEntry) => RelV (kV p.1) e.key ∧ RelV p.2 e.val) kvs es
  | [], _, _, .nil, .nil => .nil
  | (k, x) :: _, _, _, .cons ⟨e1, e2⟩ r, .cons h1 h2 p => by
    refine .cons ⟨?_, by rw [h2]; exact e2⟩ (vals_key r p)
    have e1 : k = _ := e1
    rw [← e1] at h1
    have h1 : keyIs k _ = true := h1
    exact relV_key h1
mutual
theorem Rp.reads (I : Inv X pins σ H s) : ∀ {v : V} {d : D} {u : Value}, Rp X.K H O v d → RelV v u → ∃ as, Reads s.heap u d as
  | _, _, _, .non, r => by cases r; exact ⟨_, .none⟩
  | _, _, _, .bl b, r => by cases r; exact ⟨_, .bool b⟩
  | _, _, _, .int i, r => by obtain ⟨t, rfl⟩ := r; exact ⟨_, .int i t⟩
  | _, _, _, .str x, r => by obtain ⟨t, rfl⟩ := r; exact ⟨_, .str x t⟩
  | _, _, _, .lst e _ q, r => by
    cases r
    obtain ⟨its, rv, ⟨o, n, ho, hc, _, hd⟩, _⟩ := I.list (SqL.of e)
    obtain ⟨as, hr⟩ := RpA.reads I q rv
    exact ⟨_, .list ho hc hd hr⟩
  | _, _, _, .tup e _ q, r => by
    cases r
    obtain ⟨its, rv, ⟨o, ho, hc, n, hd⟩, _⟩ := I.tuple (SqT.of e)
    obtain ⟨as, hr⟩ := RpA.reads I q rv
    exact ⟨_, .tuple ho hc hd hr⟩
  | _, _, _, .tupK e1 e2 e3 e4 e5 q, r => by
    cases r
    obtain ⟨its, rv, ⟨o, ho, hc, n, hd⟩, _⟩ := I.tuple (xs := _) (show SqT X.K _ _ _ from .inr ⟨_, _, _, e1, e2, e3, e4, e5⟩)
    obtain ⟨as, hr⟩ := RpA.reads I q rv
    exact ⟨_, .tuple ho hc hd hr⟩
  | _, _, _, .dic e _ q, r => by
    cases r
    obtain ⟨_, _, vs, kv, o, es, ep, ho, hx, hd, _, hp, _⟩ := dk_of I.hok e
    obtain ⟨as, bs, h1, h2⟩ := RpD.reads I q (vals_key kv hp)
    exact ⟨_, .dict ho hx.1 hd h1 h2⟩
theorem RpA.reads (I : Inv X pins σ H s) : ∀ {vs : List V} {ds : List D} {us : List Value}, RpA X.K H O vs ds → Vals vs us → ∃ as, ReadsAll s.heap us ds as
  | _, _, _, .nil, r => by cases r; exact ⟨_, .nil⟩
  | _, _, _, .cons q t, r => by
    cases r with
    | cons r1 r2 =>
      obtain ⟨as, h1⟩ := Rp.reads I q r1
      obtain ⟨bs, h2⟩ := RpA.reads I t r2
      exact ⟨_, .cons h1 h2⟩
theorem RpD.reads (I : Inv X pins σ H s) : ∀ {vs : List (Key × V)} {ds : List (D × D)} {es : List DictEntry}, RpD X.K H O vs ds → Paired (fun (p : Key × V) (e : DictEntry) => RelV (kV p.1) e.key ∧ RelV p.2 e.val) vs es →
    ∃ as bs, ReadsAll s.heap (es.map (·.key)) (ds.map (·.1)) as ∧ ReadsAll s.heap (es.map (·.val)) (ds.map (·.2)) bs
  | _, _, _, .nil, r => by cases r; exact ⟨_, _, .nil, .nil⟩
  | _, _, _, .cons (k := k) q t, r => by
    cases r with
    | cons r1 r2 =>
      obtain ⟨as, h1⟩ := Rp.reads I q r1.2
      obtain ⟨bs, cs, h2, h3⟩ := RpD.reads I t r2
      have hk : ∀ e : Value, L2.RelV (kV k) e → ∃ as, Reads s.heap e (keyD k) as := fun e r => by
        cases k with
        | inl i => obtain ⟨t, rfl⟩ := r; exact ⟨_, .int i t⟩
        | inr x => obtain ⟨t, rfl⟩ := r; exact ⟨_, .str x t⟩
      obtain ⟨ks, hk⟩ := hk _ r1.1
      exact ⟨_, _, .cons hk h2, .cons h1 h3⟩
end
theorem RelO.reads (r : RelO Z H src L O) (hK : Z.K = X.K) (I : Inv X pins σ H s) {d : D} (h : Has L v d) {u : Value} (rv : RelV v u) : ∃ as, Reads s.heap u d as := by
  rcases r.has h with z | ⟨a, e, z⟩
  · rw [hK] at z; exact z.reads I rv
  · subst e
    cases rv
    cases d <;> first | exact z.elim | skip
    · obtain ⟨xs, q, z⟩ := z
      rw [hK] at z
      obtain ⟨its, rv, ⟨o, n, ho, hc, _, hd⟩, _⟩ := I.list (SqL.of q)
      obtain ⟨as, hr⟩ := RpA.reads I z rv
      exact ⟨_, .list ho hc hd hr⟩
    · obtain ⟨xs, q, z⟩ := z
      rw [hK] at z
      obtain ⟨_, _, vs, kv, o, es, ep, ho, hx, hd, _, hp, _⟩ := dk_of I.hok q
      obtain ⟨as, bs, h1, h2⟩ := RpD.reads I z (vals_key kv hp)
      exact ⟨_, .dict ho hx.1 hd h1 h2⟩
/-! ### arithmetic -/
def dAdd : D → D → Option SV
  | .int i, .int j => some (.sh (.int (i + j)))
  | .str x, .str y => if x.length + y.length ≤ sizeLine then some (.sh (.str (x ++ y))) else none
  | .list xs, .list ys => if xs.length + ys.length ≤ sizeLine then some (.own (.list (xs ++ ys))) else none
  | .tuple xs, .tuple ys => if xs.length + ys.length ≤ sizeLine then some (.sh (.tuple (xs ++ ys))) else none
  | _, _ => none
theorem opR_add : OpR X (binaryOp .Add) (rD X.K dAdd) := by
  intro pins s σ H x y v u Q I rx ry h
  obtain ⟨Z, src, L, d1, d2, r, hK, R, h1, h2, e, q⟩ := h
  obtain ⟨O, R0⟩ := id R
  unfold dAdd at e
  split at e
  · cases e
    exact op_add pins s σ H x y v u Q I rx ry ⟨_, _, R0.int h1, R0.int h2, q _ _ (R.int _)⟩
  · split at e
    · cases e
      exact op_add_str pins s σ H x y v u Q I rx ry ⟨_, _, R0.str h1, R0.str h2, by assumption, q _ _ (R.str _)⟩
    · cases e
  · split at e
    · rename_i hz
      cases e
      obtain ⟨a, xs, e1, ha, ra⟩ := R0.list h1
      obtain ⟨b, ys, e2, hb, rb⟩ := R0.list h2
      refine op_cat pins s σ H x y v u Q I rx ry ⟨a, b, xs, ys, e1, e2, ha, hb, by rw [ra.length, rb.length]; exact hz, fun p hp => q _ _ (R.newOwn hp fun O' R' => ?_)⟩
      obtain ⟨a', xs', e1', ha', ra'⟩ := R'.list h1
      obtain ⟨b', ys', e2', hb', rb'⟩ := R'.list h2
      rw [e1] at e1'; cases e1'; rw [ha] at ha'; cases ha'
      rw [e2] at e2'; cases e2'; rw [hb] at hb'; cases hb'
      exact ⟨_, upd_same, (ra'.append rb').keep (fun b x e _ => by rw [upd_ne (ne_of_none e hp)]; exact e) fun b z => Or.elim z .inl fun z => .inr (by rw [z]; exact hp)⟩
    · cases e
  · split at e
    · rename_i hz
      cases e
      obtain ⟨a, xs, e1, ha, ra⟩ := R0.tuple h1
      obtain ⟨b, ys, e2, hb, rb⟩ := R0.tuple h2
      rw [hK] at ha hb
      refine op_catA pins s σ H x y v u Q I rx ry ⟨a, b, xs, ys, e1, e2, ha, hb, by rw [ra.length, rb.length]; exact hz, fun z => ?_, fun z z' => ?_, fun _ _ p hp => q _ _ (R.newTup hp fun O' R' => ?_)⟩
      · subst z
        cases ra
        rw [e2] at h2
        refine q _ _ ⟨O, R0.push mild_sh fun s q => ⟨_, rfl, ?_⟩⟩
        cases q
        exact (R0.has h2).elim id fun ⟨_, _, z⟩ => z.elim
      · subst z'
        cases rb
        rw [List.append_nil] at q
        rw [e1] at h1
        refine q _ _ ⟨O, R0.push mild_sh fun s q => ⟨_, rfl, ?_⟩⟩
        cases q
        exact (R0.has h1).elim id fun ⟨_, _, z⟩ => z.elim
      · obtain ⟨a', xs', e1', ha', ra'⟩ := R'.tuple h1
        obtain ⟨b', ys', e2', hb', rb'⟩ := R'.tuple h2
        rw [hK] at ha' hb'
        rw [e1] at e1'; cases e1'; cases I.tuple_inj ha ha'
        rw [e2] at e2'; cases e2'; cases I.tuple_inj hb hb'
        exact ra'.append rb'
    · cases e
  · cases e
def dSub : D → D → Option SV
  | .int i, .int j => some (.sh (.int (i - j)))
  | _, _ => none
theorem opR_sub : OpR X (binaryOp .Sub) (rD X.K dSub) := by
  intro pins s σ H x y v u Q I rx ry h
  obtain ⟨Z, src, L, d1, d2, r, hK, R, h1, h2, e, q⟩ := h
  obtain ⟨O, R0⟩ := id R
  unfold dSub at e
  split at e
  · cases e
    exact op_sub pins s σ H x y v u Q I rx ry ⟨_, _, R0.int h1, R0.int h2, q _ _ (R.int _)⟩
  · cases e
def smallI (i : Int) : Bool := decide (-(2 ^ 64) < i) && decide (i < 2 ^ 64)
def mulFits (i j : Int) : Bool := smallI j || smallI i || decide ((Builtin.Int.intBits i : Int) + (Builtin.Int.intBits j : Int) ≤ 134217728)
def dMul : D → D → Option SV
  | .int i, .int j => if mulFits i j = true then some (.sh (.int (i * j))) else none
  | .list xs, .int k => if -(2 ^ 63) ≤ k ∧ k < 2 ^ 63 ∧ xs.length * k.toNat ≤ sizeLine then some (.own (.list (List.replicate k.toNat xs).flatten)) else none
  | .tuple xs, .int k => if xs ≠ [] ∧ 2 ≤ k ∧ k ≤ 1000 ∧ xs.length ≤ 1000 then some (.sh (.tuple (List.replicate k.toNat xs).flatten)) else none
  | .str x, .int k => if 0 ≤ k ∧ k ≤ 100000 ∧ x.length ≤ 100 then some (.sh (.str (Txt.mul x k))) else none
  | _, _ => none
theorem mulOk_of {x : Str} {n : Int} (h0 : 0 ≤ n) (h1 : n ≤ 100000) (h2 : x.length ≤ 100) : MulOk x n := by
  refine ⟨by simp; omega, fun a b => ?_, fun a b => ?_⟩
  · have h3 : (x.length : Int) ≤ 100 := by exact_mod_cast h2
    have : (100 : Int) ≤ (2 ^ 63 - 1) / n := by
      rw [Int.le_ediv_iff_mul_le (by omega)]
      omega
    omega
  · have : x.length * n.toNat ≤ 100 * 100000 := Nat.mul_le_mul h2 (by omega)
    unfold Builtin.Str.tooLong
    rw [sizeLine_eq]
    simp
    omega
theorem opR_mul : OpR X (binaryOp .Mult) (rD X.K dMul) := by
  intro pins s σ H x y v u Q I rx ry h
  obtain ⟨Z, src, L, d1, d2, r, hK, R, h1, h2, e, q⟩ := h
  obtain ⟨O, R0⟩ := id R
  unfold dMul at e
  split at e
  · split at e
    · rename_i hz
      cases e
      unfold mulFits smallI at hz
      simp only [Bool.or_eq_true, Bool.and_eq_true, decide_eq_true_eq] at hz
      rcases hz with (hz | hz) | hz
      · exact op_mul pins s σ H x y v u Q I rx ry ⟨_, _, R0.int h1, R0.int h2, .inr hz, q _ _ (R.int _)⟩
      · exact op_mul pins s σ H x y v u Q I rx ry ⟨_, _, R0.int h1, R0.int h2, .inl hz, q _ _ (R.int _)⟩
      · exact op_mulX pins s σ H x y v u Q I rx ry ⟨_, _, R0.int h1, R0.int h2, hz, q _ _ (R.int _)⟩
    · cases e
  · split at e
    · rename_i hz
      cases e
      obtain ⟨a, xs, e1, ha, ra⟩ := R0.list h1
      refine op_rep pins s σ H x y v u Q I rx ry ⟨a, _, xs, e1, R0.int h2, ha, hz.1, hz.2.1, by rw [ra.length]; exact hz.2.2, fun p hp => q _ _ (R.newOwn hp fun O' R' => ?_)⟩
      obtain ⟨a', xs', e1', ha', ra'⟩ := R'.list h1
      rw [e1] at e1'; cases e1'; rw [ha] at ha'; cases ha'
      exact ⟨_, upd_same, (ra'.rep _).keep (fun b x e _ => by rw [upd_ne (ne_of_none e hp)]; exact e) fun b z => Or.elim z .inl fun z => .inr (by rw [z]; exact hp)⟩
    · cases e
  · split at e
    · rename_i hz
      cases e
      obtain ⟨a, xs, e1, ha, ra⟩ := R0.tuple h1
      have ha' := ha
      rw [hK] at ha
      refine op_repT pins s σ H x y v u Q I rx ry ⟨a, _, xs, e1, R0.int h2, ha, fun z => hz.1 ?_, hz.2.1, hz.2.2.1, by rw [ra.length]; exact hz.2.2.2, fun p hp => q _ _ (R.newTup hp fun O' R' => ?_)⟩
      · subst z; cases ra; rfl
      · obtain ⟨a', xs', e1', ha', ra'⟩ := R'.tuple h1
        rw [hK] at ha'
        rw [e1] at e1'; cases e1'; cases I.tuple_inj ha ha'
        exact ra'.rep _
    · cases e
  · split at e
    · rename_i hz
      cases e
      have e1 := R0.str h1
      have e2 := R0.int h2
      subst e1 e2
      obtain ⟨t, rfl⟩ := rx
      obtain ⟨t', rfl⟩ := ry
      exact SB.mul (mulOk_of hz.1 hz.2.1 hz.2.2) fun t k => ⟨.str _, H, I.tok _, ⟨_, rfl⟩, q _ _ (R.str _)⟩
    · cases e
  · cases e
def dFdiv : D → D → Option SV
  | .int i, .int j => if 0 < j ∧ j.natAbs.log2 < 9000 then some (.sh (.int (i / j))) else none
  | _, _ => none
theorem opR_fdiv : OpR X (binaryOp .FloorDiv) (rD X.K dFdiv) := by
  intro pins s σ H x y v u Q I rx ry h
  obtain ⟨Z, src, L, d1, d2, r, hK, R, h1, h2, e, q⟩ := h
  obtain ⟨O, R0⟩ := id R
  unfold dFdiv at e
  split at e
  · split at e
    · rename_i hz
      cases e
      exact op_fdivW pins s σ H x y v u Q I rx ry ⟨_, _, R0.int h1, R0.int h2, hz, q _ _ (R.int _)⟩
    · cases e
  · cases e
def dMod : D → D → Option SV
  | .int i, .int j => if 0 < j then some (.sh (.int (i % j))) else none
  | _, _ => none
theorem opR_mod : OpR X (binaryOp .Mod) (rD X.K dMod) := by
  intro pins s σ H x y v u Q I rx ry h
  obtain ⟨Z, src, L, d1, d2, r, hK, R, h1, h2, e, q⟩ := h
  obtain ⟨O, R0⟩ := id R
  unfold dMod at e
  split at e
  · split at e
    · rename_i hz
      cases e
      exact op_mod pins s σ H x y v u Q I rx ry ⟨_, _, R0.int h1, R0.int h2, hz, q _ _ (R.int _)⟩
    · cases e
  · cases e
def dPow : D → D → Option SV
  | .int i, .int j => if 0 ≤ j ∧ j ≤ 100000 ∧ i.natAbs < 2 ^ 64 then some (.sh (.int (i ^ j.toNat))) else none
  | _, _ => none
theorem opR_pow : OpR X (binaryOp .Pow) (rD X.K dPow) := by
  intro pins s σ H x y v u Q I rx ry h
  obtain ⟨Z, src, L, d1, d2, r, hK, R, h1, h2, e, q⟩ := h
  obtain ⟨O, R0⟩ := id R
  unfold dPow at e
  split at e
  · split at e
    · rename_i hz
      cases e
      exact op_pow pins s σ H x y v u Q I rx ry ⟨_, _, R0.int h1, R0.int h2, ⟨hz.1, by omega, hz.2.2⟩, q _ _ (R.int _)⟩
    · cases e
  · cases e
/-! ### comparisons -/
def eqOk (a b : D) : Bool := a.plain && b.plain && decide (a.depth ≤ 40)
def dEq (a b : D) : Option SV := if eqOk a b = true then some (.sh (.bool (PyData.eqv a b))) else none
def dNe (a b : D) : Option SV := if eqOk a b = true then some (.sh (.bool (!PyData.eqv a b))) else none
theorem opR_eq (hu : X.A.units + 64 < cLine) : OpR X (compareOp .Eq) (rD X.K dEq) := by
  intro pins s σ H x y v u Q I rx ry h
  obtain ⟨Z, src, L, d1, d2, r, hK, R, h1, h2, e, q⟩ := h
  obtain ⟨O, R0⟩ := id R
  unfold dEq at e
  split at e
  · rename_i hz
    cases e
    simp only [eqOk, Bool.and_eq_true, decide_eq_true_eq] at hz
    obtain ⟨as, r1⟩ := R0.reads hK I h1 rx
    obtain ⟨bs, r2⟩ := R0.reads hK I h2 ry
    have hm : min d1.depth d2.depth ≤ d1.depth := Nat.min_le_left _ _
    exact SeqAt.eq_plain r1 r2 hz.1.1 hz.1.2 (by omega) ⟨.bl _, H, I, rfl, q _ _ (R.bl _)⟩
  · cases e
theorem opR_ne (hu : X.A.units + 64 < cLine) : OpR X (compareOp .NotEq) (rD X.K dNe) := by
  intro pins s σ H x y v u Q I rx ry h
  obtain ⟨Z, src, L, d1, d2, r, hK, R, h1, h2, e, q⟩ := h
  obtain ⟨O, R0⟩ := id R
  unfold dNe at e
  split at e
  · rename_i hz
    cases e
    simp only [eqOk, Bool.and_eq_true, decide_eq_true_eq] at hz
    obtain ⟨as, r1⟩ := R0.reads hK I h1 rx
    obtain ⟨bs, r2⟩ := R0.reads hK I h2 ry
    have hm : min d1.depth d2.depth ≤ d1.depth := Nat.min_le_left _ _
    exact SeqAt.ne_plain r1 r2 hz.1.1 hz.1.2 (by omega) ⟨.bl _, H, I, rfl, q _ _ (R.bl _)⟩
  · cases e
/-- an order of ints, of texts -/
def dOrd (p : Int → Int → Bool) (t : Str → Str → Bool) : D → D → Option SV
  | .int i, .int j => some (.sh (.bool (p i j)))
  | .str i, .str j => some (.sh (.bool (t i j)))
  | _, _ => none
def strLt (a b : Str) : Bool := decide (a.cps.toList < b.cps.toList)
theorem opR_ord {op : CmpOp} {p : Int → Int → Bool} {t : Str → Str → Bool} (hi : OpR X (compareOp op) (rI0 fun i j => .bl (p i j))) (ht : OpR X (compareOp op) (fun x y H Q => ∃ i j, x = .str i ∧ y = .str j ∧ Q (.bl (t i j)) H)) : OpR X (compareOp op) (rD X.K (dOrd p t)) := by
  intro pins s σ H x y v u Q I rx ry h
  obtain ⟨Z, src, L, d1, d2, r, hK, R, h1, h2, e, q⟩ := h
  obtain ⟨O, R0⟩ := id R
  unfold dOrd at e
  split at e
  · cases e
    exact hi pins s σ H x y v u Q I rx ry ⟨_, _, R0.int h1, R0.int h2, q _ _ (R.bl _)⟩
  · cases e
    exact ht pins s σ H x y v u Q I rx ry ⟨_, _, R0.str h1, R0.str h2, q _ _ (R.bl _)⟩
  · cases e
abbrev dLt := dOrd (fun i j => decide (i < j)) strLt
theorem opR_lt : OpR X (compareOp .Lt) (rD X.K dLt) := opR_ord op_lt op_lt_str
def dOrdI (p : Int → Int → Bool) : D → D → Option SV
  | .int i, .int j => some (.sh (.bool (p i j)))
  | _, _ => none
theorem opR_ordI {op : CmpOp} {p : Int → Int → Bool} (hi : OpR X (compareOp op) (rI0 fun i j => .bl (p i j))) : OpR X (compareOp op) (rD X.K (dOrdI p)) := by
  intro pins s σ H x y v u Q I rx ry h
  obtain ⟨Z, src, L, d1, d2, r, hK, R, h1, h2, e, q⟩ := h
  obtain ⟨O, R0⟩ := id R
  unfold dOrdI at e
  split at e
  · cases e
    exact hi pins s σ H x y v u Q I rx ry ⟨_, _, R0.int h1, R0.int h2, q _ _ (R.bl _)⟩
  · cases e
abbrev dLe := dOrdI fun i j => decide (i ≤ j)
abbrev dGt := dOrdI fun i j => decide (j < i)
abbrev dGe := dOrdI fun i j => decide (j ≤ i)
theorem opR_le : OpR X (compareOp .LtE) (rD X.K dLe) := opR_ordI op_le
theorem opR_gt : OpR X (compareOp .Gt) (rD X.K dGt) := opR_ordI op_gt
theorem opR_ge : OpR X (compareOp .GtE) (rD X.K dGe) := opR_ordI op_ge
/-! ### dicts -/
def keyOf : D → Option Key
  | .int i => some (.inl i)
  | .str x => some (.inr x)
  | _ => none
theorem keyOf_keyD (k : Key) : keyOf (keyD k) = some k := by cases k <;> rfl
def dLook : List (D × D) → Key → Option D
  | [], _ => none
  | p :: r, k => if keyOf p.1 = some k then some p.2 else dLook r k
def dHas (ds : List (D × D)) (k : Key) : Bool := (dLook ds k).isSome
def dPut (ds : List (D × D)) (k : Key) (x : D) : List (D × D) := if dHas ds k = true then ds.map fun p => if keyOf p.1 = some k then (p.1, x) else p else ds ++ [(keyD k, x)]
theorem RpD.look : ∀ {kvs : List (Key × V)} {ds : List (D × D)} {K}, RpD K H O kvs ds → ∀ k, match valV kvs k, dLook ds k with
    | some v, some d => Rp K H O v d
    | none, none => True
    | _, _ => False
  | _, _, _, .nil, k => trivial
  | _, _, _, .cons (k := j) (v := v) (d := d) (vs := vs) (ds := ds) r t, k => by
    have ih := RpD.look t k
    unfold dLook
    simp only [keyOf_keyD]
    by_cases e : j = k
    · rw [valV_pos e, if_pos (by rw [e])]; exact r
    · rw [valV_neg e, if_neg (fun z => e (Option.some.inj z))]; exact ih
theorem RpD.has {kvs : List (Key × V)} {ds : List (D × D)} {K} (r : RpD K H O kvs ds) (k : Key) : (valV kvs k).isSome = dHas ds k := by
  have q := r.look k
  unfold dHas
  cases e1 : valV kvs k <;> cases e2 : dLook ds k <;> rw [e1, e2] at q <;> first | rfl | exact q.elim
theorem RpD.append : ∀ {kvs ls : List (Key × V)} {ds es : List (D × D)} {K}, RpD K H O kvs ds → RpD K H O ls es → RpD K H O (kvs ++ ls) (ds ++ es)
  | _, _, _, _, _, .nil, s => s
  | _, _, _, _, _, .cons r t, s => .cons r (RpD.append t s)
theorem RpD.repl : ∀ {kvs : List (Key × V)} {ds : List (D × D)} {K}, RpD K H O kvs ds → ∀ (k : Key) {v : V} {d : D}, Rp K H O v d → RpD K H O (kvs.map fun kv => if kv.1 = k then (kv.1, v) else kv) (ds.map fun p => if keyOf p.1 = some k then (p.1, d) else p)
  | _, _, _, .nil, _, _, _, _ => .nil
  | _, _, _, .cons (k := j) r t, k, _, _, q => by
    have ih := RpD.repl t k q
    simp only [List.map_cons, keyOf_keyD]
    by_cases z : j = k
    · rw [if_pos z, if_pos (by rw [z])]; exact .cons q ih
    · rw [if_neg z, if_neg (fun x => z (Option.some.inj x))]; exact .cons r ih
theorem RpD.put {kvs : List (Key × V)} {ds : List (D × D)} {K} (r : RpD K H O kvs ds) (k : Key) {v : V} {d : D} (q : Rp K H O v d) : RpD K H O (putK kvs k v) (dPut ds k d) := by
  unfold putK dPut
  rw [← r.has k, valV_any]
  split
  · exact r.repl k q
  · exact r.append (.cons q .nil)
/-! ### in -/
def inOk (d : D) (xs : List D) : Bool := PyData.plainAll xs && d.plain && decide (d.depth ≤ 40)
def dIn (neg : Bool) : D → D → Option SV
  | d, .list xs => if inOk d xs = true then some (.sh (.bool (xor neg (xs.any fun y => PyData.eqv y d)))) else none
  | d, .tuple xs => if inOk d xs = true then some (.sh (.bool (xor neg (xs.any fun y => PyData.eqv y d)))) else none
  | d, .dict ds => (keyOf d).map fun k => .sh (.bool (xor neg (dHas ds k)))
  | .str x, .str y => some (.sh (.bool (xor neg (!(Builtin.Str.occurrences y x 0 y.length 1).isEmpty))))
  | _, _ => none
theorem kV_of {k : Key} {d : D} {K} (h : keyOf d = some k) (r : Rp K H O v d) : v = kV k := by
  cases d <;> simp only [keyOf] at h <;> first | (cases h; done) | skip
  · cases h; exact r.int_inv
  · cases h; exact r.str_inv
theorem keyD_of {k : Key} {d : D} (h : keyOf d = some k) : d = keyD k := by
  cases d <;> simp only [keyOf] at h <;> first | (cases h; done) | (cases h; rfl)
theorem RelO.key (r : RelO Z H src L O) {d : D} {k : Key} (h : Has L v d) (e : keyOf d = some k) : v = kV k := by
  rcases r.has h with z | ⟨a, _, z⟩
  · exact kV_of e z
  · cases d <;> first | exact z.elim | (simp [keyOf] at e)
theorem opR_in (hu : X.A.units + 64 < cLine) : OpR X (compareOp .In) (rD X.K (dIn false)) := by
  intro pins s σ H x y v u Q I rx ry h
  obtain ⟨Z, src, L, d1, d2, r, hK, R, h1, h2, e, q⟩ := h
  obtain ⟨O, R0⟩ := id R
  have fin : ∀ b, some (SV.sh (.bool b)) = some r → ∀ k', b = k' → EP X pins σ Q (.bool k') s := fun b e k' e' => by
    cases e; subst e'; exact ⟨.bl b, H, I, rfl, q _ _ (R.bl _)⟩
  unfold dIn at e
  split at e
  · split at e
    · rename_i hz
      simp only [inOk, Bool.and_eq_true, decide_eq_true_eq] at hz
      obtain ⟨as, r1⟩ := R0.reads hK I h1 rx
      obtain ⟨bs, r2⟩ := R0.reads hK I h2 ry
      refine SeqAt.in_list_data r2 r1 hz.1.1 hz.1.2 ?_ (fin _ e _ (Bool.false_xor _))
      have hm : ∀ n, min n d1.depth ≤ d1.depth := fun n => Nat.min_le_right _ _
      exact Nat.lt_of_le_of_lt (Nat.add_le_add_left (hm _) _) (by omega)
    · cases e
  · split at e
    · rename_i hz
      simp only [inOk, Bool.and_eq_true, decide_eq_true_eq] at hz
      obtain ⟨as, r1⟩ := R0.reads hK I h1 rx
      obtain ⟨bs, r2⟩ := R0.reads hK I h2 ry
      refine SeqAt.in_tuple_data r2 r1 hz.1.1 hz.1.2 ?_ (fin _ e _ (Bool.false_xor _))
      have hm : ∀ n, min n d1.depth ≤ d1.depth := fun n => Nat.min_le_right _ _
      exact Nat.lt_of_le_of_lt (Nat.add_le_add_left (hm _) _) (by omega)
    · cases e
  · obtain ⟨k, e1, e2⟩ := Option.map_eq_some_iff.mp e
    obtain ⟨a, kvs, e3, ha, ra⟩ := R0.dict h2
    have e4 := R0.key h1 e1
    subst e3 e4
    cases ry
    exact d_in (by omega) I (DGet.k (k := k) ha) rx fun s' I' => by
      rw [ra.has k]
      refine ⟨.bl _, H, I', rfl, ?_⟩
      rw [← e2] at q
      simpa using q _ _ (R.bl _)
  · have e1 := R0.str h1
    have e2 := R0.str h2
    cases e
    exact op_in_str pins s σ H x y v u Q I rx ry ⟨_, _, e1, e2, by simpa using q _ _ (R.bl _)⟩
  · cases e
theorem opR_notIn (hu : X.A.units + 64 < cLine) : OpR X (compareOp .NotIn) (rD X.K (dIn true)) := by
  intro pins s σ H x y v u Q I rx ry h
  obtain ⟨Z, src, L, d1, d2, r, hK, R, h1, h2, e, q⟩ := h
  obtain ⟨O, R0⟩ := id R
  have fin : ∀ b, some (SV.sh (.bool b)) = some r → ∀ k', b = k' → EP X pins σ Q (.bool k') s := fun b e k' e' => by
    cases e; subst e'; exact ⟨.bl b, H, I, rfl, q _ _ (R.bl _)⟩
  unfold dIn at e
  split at e
  · split at e
    · rename_i hz
      simp only [inOk, Bool.and_eq_true, decide_eq_true_eq] at hz
      obtain ⟨as, r1⟩ := R0.reads hK I h1 rx
      obtain ⟨bs, r2⟩ := R0.reads hK I h2 ry
      refine SeqAt.notIn_list_data r2 r1 hz.1.1 hz.1.2 ?_ (fin _ e _ (Bool.true_xor _))
      have hm : ∀ n, min n d1.depth ≤ d1.depth := fun n => Nat.min_le_right _ _
      exact Nat.lt_of_le_of_lt (Nat.add_le_add_left (hm _) _) (by omega)
    · cases e
  · split at e
    · rename_i hz
      simp only [inOk, Bool.and_eq_true, decide_eq_true_eq] at hz
      obtain ⟨as, r1⟩ := R0.reads hK I h1 rx
      obtain ⟨bs, r2⟩ := R0.reads hK I h2 ry
      refine SeqAt.notIn_tuple_data r2 r1 hz.1.1 hz.1.2 ?_ (fin _ e _ (Bool.true_xor _))
      have hm : ∀ n, min n d1.depth ≤ d1.depth := fun n => Nat.min_le_right _ _
      exact Nat.lt_of_le_of_lt (Nat.add_le_add_left (hm _) _) (by omega)
    · cases e
  · obtain ⟨k, e1, e2⟩ := Option.map_eq_some_iff.mp e
    obtain ⟨a, kvs, e3, ha, ra⟩ := R0.dict h2
    have e4 := R0.key h1 e1
    subst e3 e4
    cases ry
    exact d_notIn (by omega) I (DGet.k (k := k) ha) rx fun s' I' => by
      rw [ra.has k]
      refine ⟨.bl _, H, I', rfl, ?_⟩
      rw [← e2] at q
      simpa using q _ _ (R.bl _)
  · have e1 := R0.str h1
    have e2 := R0.str h2
    cases e
    exact op_notin_str pins s σ H x y v u Q I rx ry ⟨_, _, e1, e2, by simpa using q _ _ (R.bl _)⟩
  · cases e
/-! ### is -/
def isNone : D → Bool
  | .none => true
  | _ => false
def dIs (neg : Bool) : D → D → Option SV
  | d, .none => some (.sh (.bool (xor neg (isNone d))))
  | .bool a, .bool b => some (.sh (.bool (xor neg (decide (a = b)))))
  | _, _ => none
theorem RelO.isNone (r : RelO Z H src L O) {d : D} (h : Has L v d) : decide (v = .non) = Pw.isNone d := by
  rcases r.has h with z | ⟨a, e, z⟩
  · cases z <;> rfl
  · subst e
    cases d <;> first | exact z.elim | rfl
theorem opR_is : OpR X (compareOp .Is) (rD X.K (dIs false)) := by
  intro pins s σ H x y v u Q I rx ry h
  obtain ⟨Z, src, L, d1, d2, r, hK, R, h1, h2, e, q⟩ := h
  obtain ⟨O, R0⟩ := id R
  unfold dIs at e
  split at e
  · cases e
    exact op_isN pins s σ H x y v u Q I rx ry ⟨R0.non h2, by rw [R0.isNone h1]; simpa using q _ _ (R.bl _)⟩
  · cases e
    exact op_isBl pins s σ H x y v u Q I rx ry ⟨_, _, R0.bl h1, R0.bl h2, by simpa using q _ _ (R.bl _)⟩
  · cases e
theorem opR_isNot : OpR X (compareOp .IsNot) (rD X.K (dIs true)) := by
  intro pins s σ H x y v u Q I rx ry h
  obtain ⟨Z, src, L, d1, d2, r, hK, R, h1, h2, e, q⟩ := h
  obtain ⟨O, R0⟩ := id R
  unfold dIs at e
  split at e
  · cases e
    exact op_notN pins s σ H x y v u Q I rx ry ⟨R0.non h2, by rw [R0.isNone h1]; simpa using q _ _ (R.bl _)⟩
  · cases e
    exact op_notBl pins s σ H x y v u Q I rx ry ⟨_, _, R0.bl h1, R0.bl h2, by simpa using q _ _ (R.bl _)⟩
  · cases e
/-! ### items -/
theorem subTail {prog : Program} {w : World} {A : Around} {E : Value → Shared → Prop} {s : Shared} {value slice : Expr} {o i : Value} {T id : String} {Q : Value → Shared → Prop} (hT : s.TypeIs o T) (hl : typeLookup (.type T) "__getitem__" = pure (some (.builtin id))) (h : wpAny (model prog w) A (getItem o i) Q E s) (hs : subscripted slice false o i = operate [o, i] (getItem o i)) : wpAny (model prog w) A (subscriptTail value slice o i) Q E s := by
  have fin : wpAny (model prog w) A (subscripted slice false o i) (fun r t => wpAny (model prog w) A (letTemporaryGo value o r >>= fun _ => pure r) Q E t) E s :=
    hs ▸ wpAny_operating (wpAny_mono h (fun r t z => wpAny_bind (wpAny_letTemporaryGo (wpAny_pure z))) fun _ _ x => x)
  unfold subscriptTail
  refine wpAny_bind ?_
  rw [getitemInPython_of_ne hT.not_modules]; refine wpAny_bind (wpAny_specialOf hT hl ?_)
  first | exact wpAny_pure (wpAny_bind fin) | exact wpAny_bind (wpAny_pure (wpAny_bind fin)) | exact wpAny_bind fin
def dIx : D → D → Option SV
  | .list xs, .int i => (atI xs i).map .sh
  | .tuple xs, .int i => (atI xs i).map .sh
  | .str z, .int i => if z.length ≤ sizeLine then (atI z.cps.toList i).map fun c => .sh (.str ⟨#[c]⟩) else none
  | .dict ds, d => (keyOf d).bind fun k => (dLook ds k).map .sh
  | _, _ => none
theorem RpA.atI {K} {vs : List V} {ds : List D} (r : RpA K H O vs ds) {i : Int} {d : D} (h : L2.atI ds i = some d) : ∃ x, L2.atI vs i = some x ∧ Rp K H O x d := by
  unfold L2.atI at *
  rw [r.length]
  cases e : ixN ds.length i with
  | none => rw [e] at h; cases h
  | some j =>
    rw [e] at h
    exact r.get h
theorem RelO.pushSh (r : RelO Z H src L O) {d : D} (h : Rp Z.K H O v d) : Rel Z H src ((some v, some (.sh d)) :: L) := ⟨O, r.push mild_sh fun s q => ⟨_, rfl, by cases q; exact h⟩⟩
theorem ixR (hu : X.A.units + 64 < cLine) : IxR X (rD X.K dIx) := by
  intro value slice pins s σ H x y v u Q I rx ry h hs
  obtain ⟨Z, src, L, d1, d2, r, hK, R, h1, h2, e, q⟩ := h
  obtain ⟨O, R0⟩ := id R
  unfold dIx at e
  split at e
  · obtain ⟨d, e1, e2⟩ := Option.map_eq_some_iff.mp e
    subst e2
    obtain ⟨a, xs, e3, ha, ra⟩ := R0.list h1
    obtain ⟨w, e4, rw'⟩ := ra.atI e1
    exact ix_list value slice pins s σ H x y v u Q I rx ry ⟨a, xs, _, w, e3, R0.int h2, SqL.of ha, e4, q _ _ (R0.pushSh rw')⟩ hs
  · obtain ⟨d, e1, e2⟩ := Option.map_eq_some_iff.mp e
    subst e2
    obtain ⟨a, xs, e3, ha, ra⟩ := R0.tuple h1
    obtain ⟨w, e4, rw'⟩ := ra.atI e1
    exact ix_tup value slice pins s σ H x y v u Q I rx ry ⟨a, xs, _, w, e3, R0.int h2, hK ▸ ha, e4, q _ _ (R0.pushSh rw')⟩ hs
  · split at e
    · obtain ⟨c, e1, e2⟩ := Option.map_eq_some_iff.mp e
      subst e2
      exact ix_str value slice pins s σ H x y v u Q I rx ry ⟨_, _, c, R0.str h1, R0.int h2, by assumption, e1, q _ _ (R.str _)⟩ hs
    · cases e
  · obtain ⟨k, e1, e2⟩ := Option.bind_eq_some_iff.mp e
    obtain ⟨d, e3, e4⟩ := Option.map_eq_some_iff.mp e2
    subst e4
    obtain ⟨a, kvs, e5, ha, ra⟩ := R0.dict h1
    have e6 := R0.key h2 e1
    subst e5 e6
    cases rx
    have z := ra.look k
    rw [e3] at z
    cases e7 : valV kvs k with
    | none => rw [e7] at z; exact z.elim
    | some w =>
      rw [e7] at z
      have g : DGet H a (kV k) (some w) := e7 ▸ DGet.k (k := k) ha
      refine subTail (dict_typeIs I g) PySem.F.slot_dict_getitem.lookup (d_getItem (by omega) I g ry fun w' s3 I3 rw' => ⟨w, H, I3, rw', q _ _ (R0.pushSh z)⟩) hs
  · cases e
end
end Pw
set_option Elab.async false
set_option linter.all false
set_option maxRecDepth 100000
namespace Pw
open PySem PySem.Spec PyProof.Rows L2
/-! ### calls of built-ins by values -/
def rC (K : PySem.W.Frag) (g : D → Option SV) : List V → Hp → VK → Prop := fun xs H Q => ∃ Z src L d r x, xs = [x] ∧ Z.K = K ∧ Rel Z H src L ∧ Has L x d ∧ g d = some r ∧ ∀ v H', Rel Z H' src ((some v, some r) :: L) → Q v H'
def cCall1 (g : D → Option SV) (f : Vw) : Ev := fun s => (f s).bind fun d s1 => Res.opt (g d) s1
section
variable {X : Cx} {Z : Zx} {W : WX} {e a b : Expr} {f fa : Ev} {fb : Vw} {H : Hp} {σ : L2.St} {T T' : List Ent} {s : S} {L : List Ent} {src : Option Src} {O : Addr → Prop} {v : V}
theorem rd_call1 {g : D → Option SV} {Q : VK} (q : LE Z W (cCall1 g fb) σ H Q) : LV Z W fb σ H fun x H1 => rC Z.K g [x] H1 Q := by
  obtain ⟨T, s, R, q⟩ := q
  refine ⟨T, s, R, Res.sat_mono (Res.sat_bind.mp q) (fun d s1 q v H1 T' R1 hv => ?_) fun e s h => h⟩
  obtain ⟨r, e, q⟩ := sat_opt q
  refine ⟨Z, s1.src, _, d, r, v, rfl, rfl, R1.2, hv, e, fun w H2 R2 => q _ _ ⟨R1.1, ?_⟩⟩
  have R3 : Rel Z H2 s1.src ((some w, some r) :: (T' ++ (T ++ List.zip σ s1.sl))) := by simpa using R2
  exact R3.mid
theorem snE_callB {id : String} {x : Str} {p pos : Pos} {g : D → Option SV} (hc : CallR X (.builtin id) (rC X.K g)) (hg : Gl X x) (hm : X.mg x = none) (hv : bootBuiltins x = some (.builtin id)) (ha : SnV X Z W e fb) (hn : x ≠ "__name__" := by decide) (hdb : (x == ("__debug__" : Str)) = false := by decide)
    (he : starEach (e :: []) X.env = (false, eval e X.env) :: starEach [] X.env := by rfl) (hpl : (backTo pos (starEach [] X.env)).any (·.1) = false := by rfl) : SnE X Z W (.Call (.Name x p) [e] [] pos) (cCall1 g fb) := fun k =>
  pe_imp (pe_callB hc hg hm hv (pa_cons (ha k) pa_nil he) hn hdb he hpl) fun σ H Q q => by
    have q := rd_call1 q
    rw [← k] at q
    exact q
theorem snE_callTy {ty : String} {x : Str} {p pos : Pos} {g : D → Option SV} (hc : CallR X (.type ty) (rC X.K g)) (hg : Gl X x) (hm : X.mg x = none) (hv : bootBuiltins x = some (.type ty)) (ha : SnV X Z W e fb) (hn : x ≠ "__name__" := by decide) (hdb : (x == ("__debug__" : Str)) = false := by decide)
    (he : starEach (e :: []) X.env = (false, eval e X.env) :: starEach [] X.env := by rfl) (hpl : (backTo pos (starEach [] X.env)).any (·.1) = false := by rfl) : SnE X Z W (.Call (.Name x p) [e] [] pos) (cCall1 g fb) := fun k =>
  pe_imp (pe_callTy hc hg hm hv (pa_cons (ha k) pa_nil he) hn hdb he hpl) fun σ H Q q => by
    have q := rd_call1 q
    rw [← k] at q
    exact q
end
section
variable {X : Cx} {Z : Zx} {H : Hp} {σ : L2.St} {L : List Ent} {src : Option Src} {O : Addr → Prop} {v : V} {pins : List (Addr × Obj)}
def dLen : D → Option SV
  | .list xs => some (.sh (.int xs.length))
  | .tuple xs => some (.sh (.int xs.length))
  | .dict ds => some (.sh (.int ds.length))
  | .str x => if x.length ≤ sizeLine then some (.sh (.int x.length)) else none
  | _ => none
theorem call_lenR : CallR X (.builtin "len") (rC X.K dLen) := by
  intro pins s σ H xs us Q I rx h
  obtain ⟨Z, src, L, d, r, x, rfl, hK, R, h1, e, q⟩ := h
  obtain ⟨O, R0⟩ := id R
  unfold dLen at e
  split at e
  · cases e
    obtain ⟨a, ys, rfl, ha, ra⟩ := R0.list h1
    exact call_len_seq pins s σ H _ us Q I rx ⟨a, ys, rfl, .inl (SqL.of ha), by rw [ra.length]; exact q _ _ (R.int _)⟩
  · cases e
    obtain ⟨a, ys, rfl, ha, ra⟩ := R0.tuple h1
    exact call_len_seq pins s σ H _ us Q I rx ⟨a, ys, rfl, .inr (hK ▸ ha), by rw [ra.length]; exact q _ _ (R.int _)⟩
  · cases e
    obtain ⟨a, ys, rfl, ha, ra⟩ := R0.dict h1
    exact call_lenD pins s σ H _ us Q I rx ⟨a, ys, rfl, ha, by rw [ra.length]; exact q _ _ (R.int _)⟩
  · split at e
    · cases e
      cases R0.str h1
      exact call_len_str pins s σ H _ us Q I rx ⟨_, rfl, by assumption, q _ _ (R.int _)⟩
    · cases e
  · cases e
/-- the ints, the bools, the texts of a list -/
def dInts : List D → Option (List Int)
  | [] => some []
  | .int i :: r => (dInts r).map (i :: ·)
  | _ => none
def dBools : List D → Option (List Bool)
  | [] => some []
  | .bool i :: r => (dBools r).map (i :: ·)
  | _ => none
theorem RpA.asInts {K} : ∀ {vs : List V} {ds : List D} {ns : List Int}, RpA K H O vs ds → dInts ds = some ns → vs = ns.map V.int
  | _, _, _, .nil, e => by cases e; rfl
  | _, _, _, .cons (d := d) r t, e => by
    cases d <;> try (cases (show (none : Option (List Int)) = some _ from e))
    obtain ⟨ms, e1, rfl⟩ := Option.map_eq_some_iff.mp (show (dInts _).map _ = some _ from e)
    rw [r.int_inv, RpA.asInts t e1]; rfl
theorem RpA.asBools {K} : ∀ {vs : List V} {ds : List D} {ns : List Bool}, RpA K H O vs ds → dBools ds = some ns → vs = ns.map V.bl
  | _, _, _, .nil, e => by cases e; rfl
  | _, _, _, .cons (d := d) r t, e => by
    cases d <;> try (cases (show (none : Option (List Bool)) = some _ from e))
    obtain ⟨ms, e1, rfl⟩ := Option.map_eq_some_iff.mp (show (dBools _).map _ = some _ from e)
    rw [r.bool_inv, RpA.asBools t e1]; rfl
theorem ints_map (ns : List Int) : dInts (ns.map .int) = some ns := by
  induction ns with
  | nil => rfl
  | cons n r ih => simp [dInts, ih]
theorem bools_map (ns : List Bool) : dBools (ns.map .bool) = some ns := by
  induction ns with
  | nil => rfl
  | cons n r ih => simp [dBools, ih]
def dSum : D → Option SV
  | .list xs => (dInts xs).map fun ns => .sh (.int ns.sum)
  | _ => none
theorem call_sumR (hc : X.calm = true) : CallR X (.builtin "sum") (rC X.K dSum) := by
  intro pins s σ H xs us Q I rx h
  obtain ⟨Z, src, L, d, r, x, rfl, hK, R, h1, e, q⟩ := h
  obtain ⟨O, R0⟩ := id R
  unfold dSum at e
  split at e
  · obtain ⟨ns, e1, rfl⟩ := Option.map_eq_some_iff.mp e
    obtain ⟨a, ys, rfl, ha, ra⟩ := R0.list h1
    have e2 := ra.asInts e1
    subst e2
    exact cr_sum hc pins s σ H _ us Q I rx ⟨a, ns, rfl, SqL.of ha, q _ _ (R.int _)⟩
  · cases e
def dAll : D → Option SV
  | .list xs => (dBools xs).map fun ns => .sh (.bool (ns.all id))
  | _ => none
theorem call_allR (hc : X.calm = true) : CallR X (.builtin "all") (rC X.K dAll) := by
  intro pins s σ H xs us Q I rx h
  obtain ⟨Z, src, L, d, r, x, rfl, hK, R, h1, e, q⟩ := h
  obtain ⟨O, R0⟩ := id R
  unfold dAll at e
  split at e
  · obtain ⟨ns, e1, rfl⟩ := Option.map_eq_some_iff.mp e
    obtain ⟨a, ys, rfl, ha, ra⟩ := R0.list h1
    have e2 := ra.asBools e1
    subst e2
    exact cr_all hc pins s σ H _ us Q I rx ⟨a, ns, rfl, SqL.of ha, q _ _ (R.bl _)⟩
  · cases e
def dAny : D → Option SV
  | .list xs => (dBools xs).map fun ns => .sh (.bool (ns.any id))
  | _ => none
theorem call_anyR (hc : X.calm = true) : CallR X (.builtin "any") (rC X.K dAny) := by
  intro pins s σ H xs us Q I rx h
  obtain ⟨Z, src, L, d, r, x, rfl, hK, R, h1, e, q⟩ := h
  obtain ⟨O, R0⟩ := id R
  unfold dAny at e
  split at e
  · obtain ⟨ns, e1, rfl⟩ := Option.map_eq_some_iff.mp e
    obtain ⟨a, ys, rfl, ha, ra⟩ := R0.list h1
    have e2 := ra.asBools e1
    subst e2
    exact cr_any hc pins s σ H _ us Q I rx ⟨a, ns, rfl, SqL.of ha, q _ _ (R.bl _)⟩
  · cases e
def dAbs : D → Option SV
  | .int i => some (.sh (.int (if i < 0 then -i else i)))
  | _ => none
theorem call_absR : CallR X (.builtin "abs") (rC X.K dAbs) := by
  intro pins s σ H xs us Q I rx h
  obtain ⟨Z, src, L, d, r, x, rfl, hK, R, h1, e, q⟩ := h
  obtain ⟨O, R0⟩ := id R
  unfold dAbs at e
  split at e
  · cases e
    cases R0.int h1
    exact call_abs pins s σ H _ us Q I rx ⟨_, rfl, q _ _ (R.int _)⟩
  · cases e
def dInt : D → Option SV
  | .int i => some (.sh (.int i))
  | .bool k => some (.sh (.int (if k then 1 else 0)))
  | .str x => if x.length ≤ 640 then (PySem.intText? x).map fun n => .sh (.int n) else none
  | _ => none
theorem call_intR : CallR X (.type "int") (rC X.K dInt) := by
  intro pins s σ H xs us Q I rx h
  obtain ⟨Z, src, L, d, r, x, rfl, hK, R, h1, e, q⟩ := h
  obtain ⟨O, R0⟩ := id R
  unfold dInt at e
  split at e
  · cases e
    cases R0.int h1
    exact call_int1 pins s σ H _ us Q I rx (.inl ⟨_, rfl, q _ _ (R.int _)⟩)
  · cases e
    cases R0.bl h1
    exact call_int1 pins s σ H _ us Q I rx (.inr ⟨_, rfl, q _ _ (R.int _)⟩)
  · split at e
    · obtain ⟨n, e1, rfl⟩ := Option.map_eq_some_iff.mp e
      cases R0.str h1
      exact call_int_str pins s σ H _ us Q I rx ⟨_, n, rfl, e1, by assumption, q _ _ (R.int _)⟩
    · cases e
  · cases e
def dStr : D → Option SV
  | .int i => if i.natAbs.log2 < 1920 then some (.sh (.str (toString i))) else none
  | .str x => some (.sh (.str x))
  | _ => none
theorem call_strR : CallR X (.type "str") (rC X.K dStr) := by
  intro pins s σ H xs us Q I rx h
  obtain ⟨Z, src, L, d, r, x, rfl, hK, R, h1, e, q⟩ := h
  obtain ⟨O, R0⟩ := id R
  unfold dStr at e
  split at e
  · split at e
    · cases e
      cases R0.int h1
      exact call_str_int pins s σ H _ us Q I rx ⟨_, rfl, by assumption, q _ _ (R.str _)⟩
    · cases e
  · cases e
    cases R0.str h1
    exact SkE.call_str_str pins s σ H _ us Q I rx ⟨_, rfl, q _ _ (R.str _)⟩
  · cases e
theorem Rel.newListOf {p : Addr} {xs : List V} {ds : List D} (R : Rel Z H src L) (hp : H p = none) (h : ∀ O, RelO Z H src L O → RpA Z.K H O xs ds) : Rel Z (upd H p (.lst xs)) src ((some (.ref p), some (.own (.list ds))) :: L) :=
  R.newOwn hp fun O R' => ⟨xs, upd_same, (h O R').keep (fun b x e _ => by rw [upd_ne (ne_of_none e hp)]; exact e) fun b z => Or.elim z .inl fun z => .inr (by rw [z]; exact hp)⟩
theorem Rel.newDictOf {p : Addr} {xs : List (Key × V)} {ds : List (D × D)} (R : Rel Z H src L) (hp : H p = none) (h : ∀ O, RelO Z H src L O → RpD Z.K H O xs ds) : Rel Z (upd H p (.dK xs)) src ((some (.ref p), some (.own (.dict ds))) :: L) :=
  R.newOwn hp fun O R' => ⟨xs, upd_same, (h O R').keep (fun b x e _ => by rw [upd_ne (ne_of_none e hp)]; exact e) fun b z => Or.elim z .inl fun z => .inr (by rw [z]; exact hp)⟩
theorem RelO.listEq (r : RelO Z H src L O) {ds : List D} {a : Addr} {xs : List V} (h : Has L (.ref a) (.list ds)) (e : H a = some (.lst xs)) : RpA Z.K H O xs ds := by
  obtain ⟨b, ys, e1, e2, q⟩ := r.list h
  cases e1
  rw [e] at e2; cases e2
  exact q
theorem RelO.tupEq {s : Shared} (I : Inv X pins σ H s) (r : RelO Z H src L O) (hK : Z.K = X.K) {ds : List D} {a : Addr} {xs : List V} (h : Has L (.ref a) (.tuple ds)) (e : SqT Z.K H a xs) : RpA Z.K H O xs ds := by
  obtain ⟨b, ys, e1, e2, q⟩ := r.tuple h
  cases e1
  rw [hK] at e e2
  cases I.tuple_inj e e2
  exact q
theorem RelO.dictEq (r : RelO Z H src L O) {ds : List (D × D)} {a : Addr} {xs : List (Key × V)} (h : Has L (.ref a) (.dict ds)) (e : H a = some (.dK xs)) : RpD Z.K H O xs ds := by
  obtain ⟨b, ys, e1, e2, q⟩ := r.dict h
  cases e1
  rw [e] at e2; cases e2
  exact q
theorem RelO.shOf (r : RelO Z H src L O) {d : D} {w : V} (h : Has L w d) (n : ∀ a, RpO Z.K H O a d → False) : Rel Z H src ((some w, some (.sh d)) :: L) := by
  rcases r.has h with z | ⟨a, _, z⟩
  · exact r.pushSh z
  · exact (n a z).elim
/-- keys of a dict -/
theorem RpD.keys {K} : ∀ {kvs : List (Key × V)} {ds : List (D × D)}, RpD K H O kvs ds → RpA K H O (kvs.map fun kv => kV kv.1) (ds.map (·.1))
  | _, _, .nil => .nil
  | _, _, .cons (k := k) _ t => .cons (by cases k <;> first | exact .int _ | exact .str _) (RpD.keys t)
theorem RpD.vals {K} : ∀ {kvs : List (Key × V)} {ds : List (D × D)}, RpD K H O kvs ds → RpA K H O (kvs.map (·.2)) (ds.map (·.2))
  | _, _, .nil => .nil
  | _, _, .cons r t => .cons r (RpD.vals t)
def dList : D → Option SV
  | .list xs => some (.own (.list xs))
  | .tuple xs => some (.own (.list xs))
  | .dict ds => some (.own (.list (ds.map (·.1))))
  | _ => none
theorem call_listR (hc : X.calm = true) : CallR X (.type "list") (rC X.K dList) := by
  intro pins s σ H xs us Q I rx h
  obtain ⟨Z, src, L, d, r, x, rfl, hK, R, h1, e, q⟩ := h
  obtain ⟨O, R0⟩ := id R
  unfold dList at e
  split at e
  · cases e
    obtain ⟨a, ys, rfl, ha, ra⟩ := R0.list h1
    exact call_list_of pins s σ H _ us Q I rx ⟨a, ys, rfl, .inl (SqL.of ha), fun l hl => q _ _ (R.newListOf hl fun O' R' => R'.listEq h1 ha)⟩
  · cases e
    obtain ⟨a, ys, rfl, ha, ra⟩ := R0.tuple h1
    exact call_list_of pins s σ H _ us Q I rx ⟨a, ys, rfl, .inr (hK ▸ ha), fun l hl => q _ _ (R.newListOf hl fun O' R' => R'.tupEq I hK h1 ha)⟩
  · cases e
    obtain ⟨a, ys, rfl, ha, ra⟩ := R0.dict h1
    exact call_list_dK hc pins s σ H _ us Q I rx ⟨a, ys, rfl, ha, fun l hl => q _ _ (R.newListOf hl fun O' R' => (R'.dictEq h1 ha).keys)⟩
  · cases e
def dTuple : D → Option SV
  | .list xs => some (.sh (.tuple xs))
  | .tuple xs => some (.sh (.tuple xs))
  | _ => none
theorem call_tupleR : CallR X (.type "tuple") (rC X.K dTuple) := by
  intro pins s σ H xs us Q I rx h
  obtain ⟨Z, src, L, d, r, x, rfl, hK, R, h1, e, q⟩ := h
  obtain ⟨O, R0⟩ := id R
  unfold dTuple at e
  split at e
  · cases e
    obtain ⟨a, ys, rfl, ha, ra⟩ := R0.list h1
    exact call_tuple_of pins s σ H _ us Q I rx ⟨a, ys, rfl, .inl ⟨SqL.of ha, fun l hl => q _ _ (R.newTup hl fun O' R' => R'.listEq h1 ha)⟩⟩
  · cases e
    obtain ⟨a, ys, rfl, ha, ra⟩ := R0.tuple h1
    exact call_tuple_of pins s σ H _ us Q I rx ⟨a, ys, rfl, .inr ⟨hK ▸ ha, q _ _ (R0.shOf h1 fun _ z => z)⟩⟩
  · cases e
/-- pairs of a list -/
def pairsD : List D → Option (List (Key × D))
  | [] => some []
  | .tuple [k, x] :: r => (keyOf k).bind fun k => (pairsD r).map ((k, x) :: ·)
  | _ => none
def dMerge (ds : List (D × D)) (kvs : List (Key × D)) : List (D × D) := kvs.foldl (fun acc kv => dPut acc kv.1 kv.2) ds
theorem RpD.merge {K} : ∀ {kvs : List (Key × V)} {ks : List (Key × D)} {acc : List (Key × V)} {ds : List (D × D)}, Paired (fun (p : Key × V) (q : Key × D) => p.1 = q.1 ∧ Rp K H O p.2 q.2) kvs ks → RpD K H O acc ds → RpD K H O (mergeK acc kvs) (dMerge ds ks) := by
  intro kvs
  induction kvs with
  | nil => intro ks acc ds h r; cases h; exact r
  | cons p kvs ih =>
    intro ks acc ds h r
    cases h with
    | cons h1 h2 =>
      obtain ⟨k, x⟩ := p
      rename_i q _
      obtain ⟨k', d⟩ := q
      cases (h1.1 : k = k')
      have z := ih h2 (r.put k h1.2)
      exact z
theorem pairs_rp {K} : ∀ {vs : List V} {ds : List D} {ks : List (Key × D)}, RpA K H O vs ds → pairsD ds = some ks → ∃ (ps : List Addr) (kvs : List (Key × V)), vs = ps.map V.ref ∧ Paired (fun p kv => SqT K H p [kV kv.1, kv.2]) ps kvs ∧ Paired (fun (p : Key × V) (q : Key × D) => p.1 = q.1 ∧ Rp K H O p.2 q.2) kvs ks
  | _, _, _, .nil, e => by cases e; exact ⟨[], [], rfl, .nil, .nil⟩
  | _, _, _, .cons (d := d) r t, e => by
    unfold pairsD at e
    split at e
    · rename_i z; cases z
    · rename_i k x r' z
      cases z
      obtain ⟨k', e1, e2⟩ := Option.bind_eq_some_iff.mp e
      obtain ⟨ks, e3, rfl⟩ := Option.map_eq_some_iff.mp e2
      obtain ⟨ps, kvs, h1, h2, h3⟩ := pairs_rp t e3
      have fin : ∀ {a : Addr} {xs : List V}, SqT K H a xs → RpA K H O xs [k, x] → ∃ y, SqT K H a [kV k', y] ∧ Rp K H O y x := fun {a xs} q r => by
        cases r with
        | cons r1 r =>
          cases r with
          | cons r2 r =>
            cases r
            rw [kV_of e1 r1] at q
            exact ⟨_, q, r2⟩
      cases r with
      | tup q _ r =>
        obtain ⟨y, h4, h5⟩ := fin (SqT.of q) r
        exact ⟨_ :: ps, (k', y) :: kvs, by rw [h1]; rfl, .cons h4 h2, .cons ⟨rfl, h5⟩ h3⟩
      | tupK e1 e2 e3 e4 e5 r =>
        obtain ⟨y, h4, h5⟩ := fin (.inr ⟨_, _, _, e1, e2, e3, e4, e5⟩) r
        exact ⟨_ :: ps, (k', y) :: kvs, by rw [h1]; rfl, .cons h4 h2, .cons ⟨rfl, h5⟩ h3⟩
    · cases e
def dDict : D → Option SV
  | .list xs => (pairsD xs).map fun ks => .own (.dict (dMerge [] ks))
  | _ => none
theorem call_dictR (hc : X.calm = true) : CallR X (.type "dict") (rC X.K dDict) := by
  intro pins s σ H xs us Q I rx h
  obtain ⟨Z, src, L, d, r, x, rfl, hK, R, h1, e, q⟩ := h
  obtain ⟨O, R0⟩ := id R
  unfold dDict at e
  split at e
  · obtain ⟨ks, e1, rfl⟩ := Option.map_eq_some_iff.mp e
    obtain ⟨a, ys, rfl, ha, ra⟩ := R0.list h1
    obtain ⟨ps, kvs, rfl, h2, h3⟩ := pairs_rp ra e1
    refine call_dictP hc pins s σ H _ us Q I rx ⟨a, ps, kvs, rfl, SqL.of ha, hK ▸ h2, fun p hp => q _ _ (R.newDictOf hp fun O' R' => ?_)⟩
    have ra' := R'.listEq h1 ha
    have fix : ∀ {ps : List Addr} {kvs : List (Key × V)} {ds : List D} {ks : List (Key × D)}, RpA Z.K H O' (ps.map V.ref) ds → pairsD ds = some ks → Paired (fun p kv => SqT Z.K H p [kV kv.1, kv.2]) ps kvs → Paired (fun (p : Key × V) (q : Key × D) => p.1 = q.1 ∧ Rp Z.K H O' p.2 q.2) kvs ks := by
      intro ps kvs ds ks r e h
      obtain ⟨ps', kvs', e1, h2, h3⟩ := pairs_rp r e
      have inj : ∀ {l m : List Addr}, l.map V.ref = m.map V.ref → l = m := fun {l m} h => List.map_inj_right (fun _ _ z => by cases z; rfl) |>.mp h
      cases inj e1
      have same : ∀ {ps : List Addr} {k1 k2 : List (Key × V)}, Paired (fun p kv => SqT Z.K H p [kV kv.1, kv.2]) ps k1 → Paired (fun p kv => SqT Z.K H p [kV kv.1, kv.2]) ps k2 → k1 = k2 := by
        intro ps
        induction ps with
        | nil => intro k1 k2 a b; cases a; cases b; rfl
        | cons p ps ih =>
          intro k1 k2 a b
          cases a with
          | cons a1 a2 =>
            cases b with
            | cons b1 b2 =>
              rw [hK] at a1 b1
              have := I.tuple_inj a1 b1
              simp only [List.cons.injEq, and_true] at this
              rw [ih a2 b2, Prod.ext (kV_inj this.1) this.2]
      rw [same h h2]
      exact h3
    exact RpD.merge (fix ra' e1 h2) .nil
  · cases e
/-! ### repr -/
def dRepr (d : D) : Option SV := if d.showable = true ∧ d.hasDict = false ∧ d.depth ≤ 40 ∧ d.shown.length ≤ sizeLine then some (.sh (.str d.shown)) else none
theorem call_reprR (hu : X.A.units + 64 < cLine) (hg : X.A.guards = some []) : CallR X (.builtin "repr") (rC X.K dRepr) := by
  intro pins s σ H xs us Q I rx h
  obtain ⟨Z, src, L, d, r, x, rfl, hK, R, h1, e, q⟩ := h
  obtain ⟨O, R0⟩ := id R
  unfold dRepr at e
  split at e
  · rename_i hz
    obtain ⟨z1, z2, z3, z4⟩ := hz
    cases e
    obtain ⟨u, rfl, ru⟩ := vals1 rx
    obtain ⟨as, rd⟩ := R0.reads hK I h1 ru
    have fin : ∀ (h' : Heap) (w : Tok) (tk : Nat), (∀ b o, s.heap.get? b = some o → h'.get? b = some o) → EP X pins σ Q (.str d.shown w) { s with heap := h', toks := tk } := fun h' w tk k =>
      ⟨.str _, H, I.kept k, ⟨_, rfl⟩, q _ _ (R.str _)⟩
    have hd : d.hasDict = true → sysModules ∉ as := fun z => by rw [z2] at z; cases z
    cases rd with
    | none => exact PySem.P.repr_of_none (fin s.heap _ _ fun _ _ e => e)
    | bool b => exact PySem.P.repr_of_bool (fin s.heap _ _ fun _ _ e => e)
    | int i t => exact PySem.P.repr_of_int (by simpa [PyData.showable] using z1) (fin s.heap _ _ fun _ _ e => e)
    | str x t => exact PySem.P.repr_of_str (fin s.heap _ _ fun _ _ e => e) z4
    | list a b c d => exact repr_of_reads' (.list a b c d) z1 hd hg (by omega) (fun _ _ e => e) fin z4
    | tuple a b c d => exact repr_of_reads' (.tuple a b c d) z1 hd hg (by omega) (fun _ _ e => e) fin z4
    | dict a b c d e => simp [PyData.hasDict] at z2
  · cases e
end
end Pw
set_option Elab.async false
set_option linter.all false
set_option maxRecDepth 100000
namespace Pw
open PySem PySem.Spec PyProof.Rows L2
section
variable {X : Cx} {Z : Zx} {W : WX} {e a b : Expr} {f fa : Ev} {fb : Vw} {H : Hp} {σ σ' : L2.St} {T T' : List Ent} {s s' : S} {L : List Ent} {src : Option Src} {O : Addr → Prop} {v : V}
/-! ### targets -/
abbrev Tg := SV → S → Option S
abbrev Tgs := List D → S → Option S
/-- other names stay -/
def SameOff (is : List Nat) (σ σ' : L2.St) : Prop := σ'.length = σ.length ∧ ∀ j, j ∉ is → σ'[j]? = σ[j]?
theorem SameOff.trans {is js : List Nat} {σ1 σ2 σ3 : L2.St} (a : SameOff is σ1 σ2) (b : SameOff js σ2 σ3) : SameOff (is ++ js) σ1 σ3 :=
  ⟨b.1.trans a.1, fun j h => by simp only [List.mem_append, not_or] at h; exact (b.2 j h.2).trans (a.2 j h.1)⟩
def LG (Z : Zx) (g : Tg) (is : List Nat) : TG := fun v σ H Q => ∃ T s r s', RelS Z H σ ((some v, some r) :: T) s ∧ g r s = some s' ∧ ∀ σ', RelS Z H σ' T s' → SameOff is σ σ' → Q σ' H
def LGs (Z : Zx) (g : Tgs) (is : List Nat) : TGs := fun vs σ H Q => ∃ T s ds s', RelS Z H σ (ents vs (ds.map .sh) ++ T) s ∧ vs.length = ds.length ∧ g ds s = some s' ∧ ∀ σ', RelS Z H σ' T s' → SameOff is σ σ' → Q σ' H
def SnG (X : Cx) (Z : Zx) (tg : Expr) (g : Tg) (is : List Nat) : Prop := X.K = Z.K → PG X tg (LG Z g is)
def SnGs (X : Cx) (Z : Zx) (tg : List Expr) (g : Tgs) (is : List Nat) (n : Nat) : Prop := (∀ ds s s', g ds s = some s' → ds.length = n) ∧ (X.K = Z.K → PGs X tg (LGs Z g is))
theorem pg_imp {tg : Expr} {t t' : TG} (h : PG X tg t) (i : ∀ v σ H Q, t' v σ H Q → t v σ H Q) : PG X tg t' := ⟨fun pins s σ H v u Q I r q => h.run pins s σ H v u Q I r (i v σ H Q q)⟩
theorem pgs_imp {tg : List Expr} {t t' : TGs} (h : PGs X tg t) (i : ∀ v σ H Q, t' v σ H Q → t v σ H Q) : PGs X tg t' := ⟨fun pins s σ H v u Q I r q => h.run pins s σ H v u Q I r (i v σ H Q q)⟩
def gNm (i : Nat) : Tg := fun r s => some { s with sl := s.sl.set i (some r) }
def gTp (g : Tgs) : Tg := fun r s => match r with
  | .sh (.tuple ds) => g ds s
  | _ => none
def gsNil : Tgs := fun ds s => match ds with
  | [] => some s
  | _ => none
def gsCons (f : Tg) (g : Tgs) : Tgs := fun ds s => match ds with
  | d :: ds => (f (.sh d) s).bind (g ds)
  | [] => none
theorem RelS.put {i : Nat} {r : SV} (R : RelS Z H σ ((some v, some r) :: T) s) : RelS Z H (σ.set i (some v)) T { s with sl := s.sl.set i (some r) } :=
  ⟨by simpa using R.1, Rel.putSlot (i := i) R.2 R.1⟩
theorem snG_nm {tg : Expr} {i : Nat} (h : PG X tg (gName i)) : SnG X Z tg (gNm i) [i] := fun _ => pg_imp h fun v σ H Q ⟨T, s, r, s', R, e, q⟩ => by
  cases e
  exact q _ R.put ⟨by simp, fun j hj => by rw [List.getElem?_set_ne (by simpa using Ne.symm (by simpa using hj))]⟩
theorem snGs_nil : SnGs X Z [] gsNil [] 0 := ⟨fun ds s s' e => (by cases ds <;> first | rfl | cases e), fun _ => pgs_imp pgs_nil fun vs σ H Q ⟨T, s, ds, s', R, hl, e, q⟩ => by
  cases ds with
  | nil =>
    cases e
    cases vs with
    | nil => exact ⟨rfl, q _ R ⟨rfl, fun _ _ => rfl⟩⟩
    | cons v vs => simp at hl
  | cons d ds => cases e⟩
theorem snGs_cons {tg : Expr} {ts : List Expr} {g : Tg} {gs : Tgs} {is js : List Nat} {n : Nat} (h1 : SnG X Z tg g is) (h2 : SnGs X Z ts gs js n) (hs : (assignEach (tg :: ts) X.env).map (·.2) = assign tg X.env :: (assignEach ts X.env).map (·.2) := by rfl) : SnGs X Z (tg :: ts) (gsCons g gs) (is ++ js) (n + 1) := ⟨fun ds s s' e => (by
  cases ds with
  | nil => cases e
  | cons d ds =>
    obtain ⟨s1, _, e2⟩ := Option.bind_eq_some_iff.mp e
    rw [List.length_cons, h2.1 _ _ _ e2]), fun k => pgs_imp (pgs_cons (h1 k) (h2.2 k) hs) fun vs σ H Q ⟨T, s, ds, s', R, hl, e, q⟩ => by
  cases ds with
  | nil => cases e
  | cons d ds =>
    cases vs with
    | nil => simp at hl
    | cons v vs =>
      obtain ⟨s1, e1, e2⟩ := Option.bind_eq_some_iff.mp e
      exact ⟨v, vs, rfl, ents vs (ds.map .sh) ++ T, s, .sh d, s1, R, e1, fun σ1 R1 o1 => ⟨T, s1, ds, s', R1, by simpa using hl, e2, fun σ2 R2 o2 => q σ2 R2 (o1.trans o2)⟩⟩⟩
theorem rel_ents {K} : ∀ {vs : List V} {ds : List D}, RpA K H O vs ds → ∀ e ∈ ents vs (ds.map .sh), ∃ v d, e = (some v, some (.sh d)) ∧ Rp K H O v d
  | _, _, .nil, e, h => by simp [ents] at h
  | _, _, .cons r t, e, h => by
    simp only [ents, List.map_cons, List.zip_cons_cons, List.mem_cons] at h
    rcases h with rfl | h
    · exact ⟨_, _, rfl, r⟩
    · exact rel_ents t e (by simpa [ents] using h)
theorem RelO.pushN : ∀ {E : List Ent}, RelO Z H src L O → (∀ e ∈ E, ∃ v d, e = (some v, some (.sh d)) ∧ Rp Z.K H O v d) → RelO Z H src (E ++ L) O
  | [], r, _ => r
  | e :: E, r, h => by
    obtain ⟨v, d, rfl, q⟩ := h e List.mem_cons_self
    exact (RelO.pushN r fun e he => h e (List.mem_cons_of_mem _ he)).push mild_sh fun s z => ⟨v, rfl, by cases z; exact q⟩
theorem snG_tp {ts : List Expr} {k0 : Nat} {pos : Pos} {gs : Tgs} {n : Nat} {is : List Nat} (hc : X.calm = true) (h : SnGs X Z ts gs is n) (hn : (assignEach ts X.env).length = n := by rfl) (hst : (assignEach ts X.env).findIdx? (·.1) = none := by rfl) : SnG X Z (.Tuple ts k0 pos) (gTp gs) is := fun k => pg_imp (pg_tup hc (h.2 k) hn hst) fun v σ H Q ⟨T, s, r, s', R, e, q⟩ => by
  unfold gTp at e
  split at e
  · rename_i ds
    obtain ⟨O, R0⟩ := R.2
    obtain ⟨a, xs, e1, ha, ra⟩ := R0.tuple (v := v) ⟨_, List.mem_cons_self, rfl⟩
    refine ⟨a, xs, e1, k ▸ ha, by rw [ra.length]; exact h.1 _ _ _ e, T, s, ds, s', ⟨R.1, O, ?_⟩, ra.length, e, q⟩
    obtain ⟨O', z⟩ := R.pop.2
    have R1 : RelO Z H s.src (T ++ List.zip σ s.sl) O := ⟨R0.oc, fun e he => R0.ent e (List.mem_cons_of_mem _ he), (List.pairwise_cons.mp R0.ap).2, R0.src, R0.base, R0.live⟩
    rw [List.append_assoc]
    exact R1.pushN (rel_ents ra)
  · cases e
/-! ### statements -/
theorem LS_of {f : Sm} {D : Ends} (q : LS Z W f D σ H) : ∃ T s, RelS Z H σ T s ∧ (f s).sat (FlP Z T D) (ExS Z T W) := q
def cAsg (f : Ev) (g : Tg) : Sm := fun s => (f s).bind fun r s1 => match g r s1 with
  | some s2 => .ok .nx s2
  | none => .err
theorem rd_asg {g : Tg} {is : List Nat} {D : Ends} (q : LS Z W (cAsg f g) D σ H) : tAsg (LE Z W f) (LG Z g is) D σ H := by
  obtain ⟨T, s, R, q⟩ := q
  refine ⟨T, s, R, Res.sat_mono (Res.sat_bind.mp q) (fun r s1 q v H1 R1 => ?_) fun e s h => h σ⟩
  cases e : g r s1 with
  | none => rw [e] at q; exact q.elim
  | some s2 => rw [e] at q; exact ⟨T, s1, r, s2, R1, e, fun σ' R2 _ => q _ _ R2⟩
theorem snS_asg {tg : Expr} {pos} {g : Tg} {is : List Nat} (he : SnE X Z W e f) (hg : SnG X Z tg g is) (hs : swapsWithSole [tg] e pos.line X.env = pure false := by rfl) (hw : swappedStores [tg] e X.env = pure none := by rfl)
    (h1 : (assignEach [tg] X.env).map (·.2) = [assign tg X.env] := by rfl) : SnS X Z W (.Assign [tg] e pos) (cAsg f g) := fun k => ps_imp (ps_asg (he k) (hg k) hs hw h1) fun D σ H q => rd_asg q
theorem snS_set {i : Nat} {x : Str} {pos pos' : Pos} (hN : X.N.Nodup) (hi : X.N[i]? = some x) (hx : Loc X.env.scope x) (he : SnE X Z W e f) (hs : swapsWith e (some (.Name x pos')) pos.line X.env = pure false := by rfl) (hf : X.fn x = true ∨ X.env.scope.names.lookup x = some .local := by first | exact .inl rfl | exact .inr rfl | assumption) : SnS X Z W (.Assign [.Name x pos'] e pos) (cAsg f (gNm i)) := fun k =>
  ps_imp (ps_set hN hi hx (he k) hs hf) fun D σ H q => by
    obtain ⟨T, s, R, q⟩ := q
    exact ⟨T, s, R, Res.sat_mono (Res.sat_bind.mp q) (fun r s1 q v H1 R1 => q _ _ R1.put) fun e s h => h σ⟩
/-- several names at once -/
def cConsR (f : Ev) (g : Ag) : Ag := fun s => (f s).bind fun r s1 => (g s1).bind fun rs s2 => .ok (r :: rs) s2
theorem snA_consR {es : List Expr} {g : Ag} (h : SnE X Z W e f) (hr : SnA X Z W es g) (hs : starEach (e :: es) X.env = (false, eval e X.env) :: starEach es X.env := by rfl) : SnA X Z W (e :: es) (cConsR f g) := fun k => pa_imp (pa_cons (h k) (hr k) hs) fun σ H Q ⟨T, s, R, q⟩ => by
  refine ⟨T, s, R, ?_⟩
  refine Res.sat_mono (Res.sat_bind.mp q) (fun r s1 q v H1 R1 => ?_) fun e s h => h
  refine ⟨(some v, some r) :: T, s1, R1, ?_⟩
  refine Res.sat_mono (Res.sat_bind.mp q) (fun rs s2 q vs H2 hl R2 => ?_) fun e s h dd H' R' => h dd H' ?_
  · exact q (v :: vs) H2 (by simpa using hl) (R2.perm List.perm_middle)
  · exact ⟨R'.1, (R'.perm (List.Perm.swap _ _ _)).pop.2⟩
def setMany {α : Type} : List (Option α) → List Nat → List α → List (Option α)
  | l, i :: is, v :: vs => setMany (l.set i (some v)) is vs
  | l, _, _ => l
def cPar (is : List Nat) (g : Ag) : Sm := fun s => (g s).bind fun rs s1 => if is.length = rs.length then .ok .nx { s1 with sl := setMany s1.sl is rs } else .err
theorem RelS.putMany : ∀ {is : List Nat} {vs : List V} {rs : List SV} {σ : L2.St} {s : S}, vs.length = rs.length → RelS Z H σ (ents vs rs ++ T) s → RelS Z H (setMany σ is vs) T { s with sl := setMany s.sl is rs }
  | [], vs, rs, σ, s, hl, R => by unfold setMany; exact RelS.popN R
  | i :: is, [], [], σ, s, hl, R => by unfold setMany; exact R
  | i :: is, v :: vs, r :: rs, σ, s, hl, R => by
    unfold setMany
    have R1 := RelS.put (i := i) (show RelS Z H σ ((some v, some r) :: (ents vs rs ++ T)) s from R)
    exact RelS.putMany (s := { s with sl := s.sl.set i (some r) }) (by simpa using hl) R1
  | i :: is, [], r :: rs, σ, s, hl, R => by simp at hl
  | i :: is, v :: vs, [], σ, s, hl, R => by simp at hl
theorem snS_par2 {i j : Nat} {x y : Str} {g : Ag} {px py pt pos : Pos} {kt k2 pt2} (hc : X.calm = true) (hN : X.N.Nodup) (hi : X.N[i]? = some x) (hj : X.N[j]? = some y) (hij : i ≠ j) (hx : X.env.scope.names.lookup x = some .local) (hy : X.env.scope.names.lookup y = some .local) (ha : SnA X Z W [a, b] g)
    (hw : swappedStores [.Tuple [.Name x px, .Name y py] kt pt] (.Tuple [a, b] k2 pt2) X.env = pure (some [x, y])) (hs : swapsWithSole [.Tuple [.Name x px, .Name y py] kt pt] (.Tuple [a, b] k2 pt2) pos.line X.env = pure false := by rfl) :
    SnS X Z W (.Assign [.Tuple [.Name x px, .Name y py] kt pt] (.Tuple [a, b] k2 pt2) pos) (cPar [i, j] g) := fun k => ps_imp (ps_par hc hN hi hj hij hx hy (ha k) hw hs) fun D σ H ⟨T, s, R, q⟩ => by
  refine ⟨T, s, R, Res.sat_mono (Res.sat_bind.mp q) (fun rs s1 q vs H1 hl R1 => ?_) fun e s h => h σ⟩
  split at q
  · rename_i hr
    have R2 := R1.putMany (is := [i, j]) hl
    match vs, hl, R2 with
    | [v, w], _, R2 => exact ⟨v, w, rfl, q _ _ R2⟩
    | [], hl, _ => simp [← hr] at hl
    | [_], hl, _ => simp [← hr] at hl
    | _ :: _ :: _ :: _, hl, _ => simp [← hr] at hl
  · exact q.elim
theorem snS_par3 {i j l : Nat} {x y z : Str} {c : Expr} {g : Ag} {px py pz pt pos : Pos} {kt k2 pt2} (hc : X.calm = true) (hN : X.N.Nodup) (hi : X.N[i]? = some x) (hj : X.N[j]? = some y) (hl' : X.N[l]? = some z) (hij : i ≠ j) (hil : i ≠ l) (hjl : j ≠ l) (hx : X.env.scope.names.lookup x = some .local) (hy : X.env.scope.names.lookup y = some .local) (hz : X.env.scope.names.lookup z = some .local) (ha : SnA X Z W [a, b, c] g)
    (hw : swappedStores [.Tuple [.Name x px, .Name y py, .Name z pz] kt pt] (.Tuple [a, b, c] k2 pt2) X.env = pure (some [x, y, z])) (hs : swapsWithSole [.Tuple [.Name x px, .Name y py, .Name z pz] kt pt] (.Tuple [a, b, c] k2 pt2) pos.line X.env = pure false := by rfl) :
    SnS X Z W (.Assign [.Tuple [.Name x px, .Name y py, .Name z pz] kt pt] (.Tuple [a, b, c] k2 pt2) pos) (cPar [i, j, l] g) := fun k => ps_imp (ps_par3 hc hN hi hj hl' hij hil hjl hx hy hz (ha k) hw hs) fun D σ H ⟨T, s, R, q⟩ => by
  refine ⟨T, s, R, Res.sat_mono (Res.sat_bind.mp q) (fun rs s1 q vs H1 hl R1 => ?_) fun e s h => h σ⟩
  split at q
  · rename_i hr
    have R2 := R1.putMany (is := [i, j, l]) hl
    match vs, hl, R2 with
    | [v, w, u], _, R2 => exact ⟨v, w, u, rfl, q _ _ R2⟩
    | [], hl, _ => simp [← hr] at hl
    | [_], hl, _ => simp [← hr] at hl
    | [_, _], hl, _ => simp [← hr] at hl
    | _ :: _ :: _ :: _ :: _, hl, _ => simp [← hr] at hl
  · exact q.elim
/-- .. where a tuple is made: the targets are names -/
def PGn (X : Cx) (ts : List Expr) (is : List Nat) : Prop := PGs X ts (fun vs σ H Q => vs.length = is.length ∧ Q (setMany σ is vs) H)
theorem pgn_nil : PGn X [] [] := pgs_imp pgs_nil fun vs σ H Q ⟨h, q⟩ => by
  cases vs with
  | nil => exact ⟨rfl, q⟩
  | cons v vs => simp at h
theorem pgn_cons {tg : Expr} {ts : List Expr} {i : Nat} {is : List Nat} (h : PG X tg (gName i)) (hr : PGn X ts is) (hs : (assignEach (tg :: ts) X.env).map (·.2) = assign tg X.env :: (assignEach ts X.env).map (·.2) := by rfl) : PGn X (tg :: ts) (i :: is) := pgs_imp (pgs_cons h hr hs) fun vs σ H Q ⟨h, q⟩ => by
  cases vs with
  | nil => simp at h
  | cons v vs => exact ⟨v, vs, rfl, by simpa using h, q⟩
theorem snS_parT {ts es : List Expr} {is : List Nat} {g : Ag} {kt k2 : Nat} {pt pt2 pos : Pos} (hc : X.calm = true) (hg : PGn X ts is) (ha : SnA X Z W es g) (hw : swappedStores [.Tuple ts kt pt] (.Tuple es k2 pt2) X.env = pure none := by rfl) (hs : swapsWithSole [.Tuple ts kt pt] (.Tuple es k2 pt2) pos.line X.env = pure false := by rfl)
    (h1 : (assignEach [.Tuple ts kt pt] X.env).map (·.2) = [assign (.Tuple ts kt pt) X.env] := by rfl) (hn : (assignEach ts X.env).length = is.length := by rfl) (hst : (assignEach ts X.env).findIdx? (·.1) = none := by rfl) (hz : is.length ≤ 100 := by decide) :
    SnS X Z W (.Assign [.Tuple ts kt pt] (.Tuple es k2 pt2) pos) (cPar is g) := fun k => ps_imp (ps_asg (pe_tup (ha k)) (pg_tup hc hg hn hst) hs hw h1) fun D σ H ⟨T, s, R, q⟩ => by
  refine ⟨T, s, R, Res.sat_mono (Res.sat_bind.mp q) (fun rs s1 q vs H1 hl R1 => ?_) fun e s h => h σ⟩
  split at q
  · rename_i hr
    refine ⟨by rw [hl, ← hr, sizeLine_eq]; omega, fun p hp => ⟨p, vs, rfl, SqT.of upd_same, by rw [hl, hr], by rw [hl, hr], q _ _ ?_⟩⟩
    obtain ⟨O, R0⟩ := R1.2
    exact RelS.putMany hl ⟨R1.1, O, R0.new hp⟩
  · exact q.elim
/-- names op= -/
def cAug (g : D → D → Option SV) (i : Nat) (fb : Vw) : Sm := fun s => match s.sl[i]? with
  | some (some _) => (fb s).bind fun d2 s2 => match datAt s2 i with
    | some d1 => match g d1 d2 with
      | some r => .ok .nx { s2 with sl := s2.sl.set i (some r) }
      | none => .err
    | none => .err
  | _ => .err
theorem snS_aug {i : Nat} {x : Str} {op : Operator} {g : D → D → Option SV} {pos pos' : Pos} (ho : OpR X (inplaceOp op) (rD X.K g)) (hN : X.N.Nodup) (hi : X.N[i]? = some x) (hx : Loc X.env.scope x) (he : SnV X Z W e fb) (hf : X.fn x = true ∨ X.env.scope.names.lookup x = some .local := by first | exact .inl rfl | exact .inr rfl | assumption) :
    SnS X Z W (.AugAssign (.Name x pos') op e pos) (cAug g i fb) := fun k => ps_imp (ps_aug (ti := rD X.K g) hN hi hx (he k) ho hf) fun D σ H ⟨T, s, R, q⟩ => by
  unfold cAug at q
  split at q
  · rename_i r e
    obtain ⟨v, hv, hm⟩ := R.slot e
    refine ⟨v, hv, T, s, R, Res.sat_mono (Res.sat_bind.mp q) (fun d2 s2 q v2 H2 T' R2 hv2 => ?_) fun e s h => h σ⟩
    cases e1 : datAt s2 i with
    | none => rw [e1] at q; exact q.elim
    | some d1 =>
      rw [e1] at q
      cases e3 : g d1 d2 with
      | none => simp only [e3] at q; exact q.elim
      | some r3 =>
        simp only [e3] at q
        obtain ⟨v', hv', hh⟩ := R2.datAt e1
        rw [hv] at hv'; cases hv'
        refine ⟨Z, s2.src, _, d1, d2, r3, k.symm, R2.2, hh, hv2, e3, fun v3 H3 R3 => q _ _ (RelS.put ⟨R2.1, ?_⟩)⟩
        have R4 : Rel Z H3 s2.src ((some v3, some r3) :: (T' ++ (T ++ List.zip σ s2.sl))) := by simpa using R3
        exact R4.mid
  · exact q.elim
def dAddI : D → D → Option SV
  | .int i, .int j => some (.sh (.int (i + j)))
  | _, _ => none
theorem opR_iaddI : OpR X (inplaceOp .Add) (rD X.K dAddI) := by
  intro pins s σ H x y v u Q I rx ry h
  obtain ⟨Z, src, L, d1, d2, r, hK, R, h1, h2, e, q⟩ := h
  obtain ⟨O, R0⟩ := id R
  unfold dAddI at e
  split at e
  · cases e
    exact iop_add pins s σ H x y v u Q I rx ry ⟨_, _, R0.int h1, R0.int h2, q _ _ (R.int _)⟩
  · cases e
theorem opR_isub : OpR X (inplaceOp .Sub) (rD X.K dSub) := by
  intro pins s σ H x y v u Q I rx ry h
  obtain ⟨Z, src, L, d1, d2, r, hK, R, h1, h2, e, q⟩ := h
  obtain ⟨O, R0⟩ := id R
  unfold dSub at e
  split at e
  · cases e
    exact iop_sub pins s σ H x y v u Q I rx ry ⟨_, _, R0.int h1, R0.int h2, q _ _ (R.int _)⟩
  · cases e
/-! ### o[i] = v -/
def dSet : D → D → D → Option D
  | .list xs, .int k, x => (ixN xs.length k).map fun j => .list (xs.set j x)
  | .dict ds, k, x => (keyOf k).bind fun k => if ds.length < sizeLine then some (.dict (dPut ds k x)) else none
  | _, _, _ => none
def rSt (K : PySem.W.Frag) : TSet := fun o i v H Q => ∃ Z src L a dO dI dV dO', Z.K = K ∧ o = .ref a ∧ Rel Z H src ((some (.ref a), some (.own dO)) :: L) ∧ Has ((some (.ref a), some (.own dO)) :: L) i dI ∧ (some v, some (.sh dV)) ∈ L ∧ dSet dO dI dV = some dO' ∧ ∀ H', Rel Z H' src ((some (.ref a), some (.own dO')) :: L) → Q H'
theorem psetR (hu : X.A.units + 64 < cLine) : PSet X (rSt X.K) := by
  intro pins s σ H o i v ov iv u Q I ro ri rv h
  obtain ⟨Z, src, L, a, dO, dI, dV, dO', hK, rfl, R, h1, h2, e, q⟩ := h
  obtain ⟨O, R0⟩ := id R
  have hv : ∀ O, RelO Z H src ((some (.ref a), some (.own dO)) :: L) O → Rp Z.K H O v dV := fun O R0 => by
    obtain ⟨w, e1, z⟩ := R0.ent _ (List.mem_cons_of_mem _ h2) _ rfl
    cases e1; exact z
  have hi := h1
  have step : ∀ O, RelO Z H src ((some (.ref a), some (.own dO)) :: L) O → O a → ∀ o', ∀ b x, H b = some x → ¬ O b → upd H a o' b = some x := fun O R0 oa o' b x e n => by
    rw [upd_ne (fun z => n (by rw [z]; exact oa))]; exact e
  unfold dSet at e
  split at e
  · obtain ⟨j, e1, rfl⟩ := Option.map_eq_some_iff.mp e
    obtain ⟨b, xs, e2, ha, ra⟩ := R0.list (v := .ref a) ⟨_, List.mem_cons_self, rfl⟩
    cases e2
    refine set_list pins s σ H _ i v ov iv u Q I ro ri rv ⟨a, xs, _, j, rfl, R0.int hi, ha, by rw [ra.length]; exact e1, q _ (R.updOwn fun O' R' rO oa => ?_)⟩
    obtain ⟨ys, e3, ry⟩ := rO
    rw [ha] at e3; cases e3
    exact ⟨_, upd_same, (ry.set j (hv O' R')).keep (step O' R' oa _) fun _ z => .inl z⟩
  · obtain ⟨k, e1, e2⟩ := Option.bind_eq_some_iff.mp e
    split at e2
    · rename_i hz
      cases e2
      obtain ⟨b, xs, e2, ha, ra⟩ := R0.dict (v := .ref a) ⟨_, List.mem_cons_self, rfl⟩
      cases e2
      have ek := R0.key hi e1
      subst ek
      refine set_dict (by omega) pins s σ H _ _ v ov iv u Q I ro ri rv ⟨a, _, rfl, DPut.k ha (by rw [ra.length]; exact hz), q _ (R.updOwn fun O' R' rO oa => ?_)⟩
      obtain ⟨ys, e3, ry⟩ := rO
      rw [ha] at e3; cases e3
      exact ⟨_, upd_same, (ry.put k (hv O' R')).keep (step O' R' oa _) fun _ z => .inl z⟩
    · cases e2
  · cases e
theorem mem_zip_set {α β : Type} : ∀ {l : List α} {m : List β} {i : Nat} {x : α × β} {a : α} {b c : β}, x ∈ List.zip l m → l[i]? = some a → m[i]? = some b → x = (a, b) ∨ x ∈ List.zip l (m.set i c)
  | [], m, i, x, a, b, c, h, _, _ => by simp at h
  | _ :: _, [], i, x, a, b, c, h, _, _ => by simp at h
  | p :: l, q :: m, 0, x, a, b, c, h, e1, e2 => by
    simp at e1 e2 h
    subst e1 e2
    rcases h with h | h
    · exact .inl h
    · exact .inr (by simp [h])
  | p :: l, q :: m, i + 1, x, a, b, c, h, e1, e2 => by
    simp at h
    rcases h with h | h
    · exact .inr (by simp [h])
    · rcases mem_zip_set (c := c) h (by simpa using e1) (by simpa using e2) with z | z
      · exact .inl z
      · exact .inr (by simp [z])
theorem mem_takeSlot {sl : List (Option SV)} {i : Nat} {ov : Option V} {os : Option SV} {x : Ent} (h : x ∈ T ++ List.zip σ sl) (h1 : σ[i]? = some ov) (h2 : sl[i]? = some os) : x ∈ (ov, os) :: (T ++ List.zip σ (sl.set i none)) := by
  rcases List.mem_append.mp h with h | h
  · exact List.mem_cons_of_mem _ (List.mem_append_left _ h)
  · rcases mem_zip_set (c := none) h h1 h2 with z | z
    · rw [z]; exact List.mem_cons_self
    · exact List.mem_cons_of_mem _ (List.mem_append_right _ z)
theorem RelS.backSlot {i : Nat} {w : V} {r : SV} {src' : Option Src} {sl : List (Option SV)} (hl : σ.length = sl.length) (hw : σ[i]? = some (some w)) (R : Rel Z H src' ((some w, some r) :: (T ++ List.zip σ (sl.set i none)))) : RelS Z H σ T ⟨sl.set i (some r), src'⟩ := by
  have R1 := Rel.putSlot (i := i) R (by simpa using hl)
  rw [set_id σ i _ hw, List.set_set] at R1
  exact ⟨by simpa using hl, R1⟩
def cSetIx (i : Nat) (fk : Vw) (fv : Ev) : Sm := fun s => (fv s).bind fun r s1 => match r.settle with
  | .sh dV => match s1.sl[i]? with
    | some (some (.own _)) => (fk s1).bind fun dI s2 => match s2.sl[i]? with
      | some (some (.own dO)) => match dSet dO dI dV with
        | some dO' => .ok .nx { s2 with sl := s2.sl.set i (some (.own dO')) }
        | none => .err
      | _ => .err
    | _ => .err
  | _ => .err
theorem snS_setIx {o ix : Expr} {i : Nat} {fk : Vw} {pos pos' : Pos} (hu : X.A.units + 64 < cLine) (ho : PE X o (tVar i)) (hk : SnV X Z W ix fk) (hv : SnE X Z W e f) (hs : swapsWithSole [.Subscript o ix pos'] e pos.line X.env = pure false := by rfl) (hw : swappedStores [.Subscript o ix pos'] e X.env = pure none := by rfl)
    (h1 : (assignEach [.Subscript o ix pos'] X.env).map (·.2) = [assign (.Subscript o ix pos') X.env] := by rfl) (ha : ∀ v, assign (.Subscript o ix pos') X.env v = (do
      let ov ← holding [v] (eval o X.env)
      let iv ← holding [v, ov] (eval ix X.env)
      standAt pos'
      holding [v, ov, iv] (setItem ov iv v)
      release [v, ov, iv] []) := by intro _; rfl) : SnS X Z W (.Assign [.Subscript o ix pos'] e pos) (cSetIx i fk f) := fun k => ps_imp (ps_asg (hv k) (pg_sub ho (hk k) (psetR hu) ha) hs hw h1) fun D σ H ⟨T, s, R, q⟩ => by
  refine ⟨T, s, R, Res.sat_mono (Res.sat_bind.mp q) (fun r s1 q v H1 R1 => ?_) fun e s h => h σ⟩
  split at q
  · rename_i dV er
    have R1 := R1.settleAny
    rw [er] at R1
    split at q
    · rename_i d0 e0
      obtain ⟨w, hw, hm⟩ := R1.slot e0
      refine ⟨w, hw, _, s1, R1, Res.sat_mono (Res.sat_bind.mp q) (fun dI s2 q v2 H2 T' R2 hv2 => ?_) fun e s h dd H' R' => h σ dd H' ⟨R'.1, (R'.perm (List.Perm.swap _ _ _)).pop.2⟩⟩
      split at q
      · rename_i dO e1
        cases e2 : dSet dO dI dV with
        | none => rw [e2] at q; exact q.elim
        | some dO' =>
          rw [e2] at q
          obtain ⟨w', hw', hm'⟩ := R2.slot e1
          rw [hw] at hw'; cases hw'
          have R3 := Rel.takeSlot R2.2 hw e1
          obtain ⟨O, R4⟩ := id R3
          obtain ⟨w1, z1, a, z2, _⟩ := R4.ent _ List.mem_cons_self _ rfl
          cases z1
          subst z2
          obtain ⟨r', hm2, hd⟩ := hv2
          refine ⟨Z, s2.src, _, a, dO, dI, dV, dO', k.symm, rfl, R3, ⟨r', mem_takeSlot hm2 hw e1, hd⟩, by simp, e2, fun H3 R5 => q σ H3 ?_⟩
          have R6 := RelS.backSlot (i := i) R2.1 hw R5
          exact RelS.popN (T' := T' ++ [(some v, some (.sh dV))]) (by simpa using R6)
      · exact q.elim
    · exact q.elim
  · exact q.elim
end
end Pw
set_option Elab.async false
set_option linter.all false
set_option maxRecDepth 100000
namespace Pw
open PySem PySem.Spec PyProof.Rows L2
section
variable {X : Cx} {Z : Zx} {W : WX} {e a b : Expr} {f fa : Ev} {fb : Vw} {H : Hp} {σ σ' : L2.St} {T T' : List Ent} {s s' : S} {L : List Ent} {src : Option Src} {O : Addr → Prop} {v : V}
/-! ### methods -/
def tyD (ty : String) : D → Bool
  | .list _ => ty == "list"
  | .dict _ => ty == "dict"
  | .str _ => ty == "str"
  | _ => false
theorem RelO.ty (r : RelO Z H src L O) {ty : String} {d : D} (h : Has L v d) (e : tyD ty d = true) : tyV Z.K ty v H := by
  cases d <;> simp only [tyD] at e <;> first | (cases e; done) | skip
  · cases r.str h; exact beq_iff_eq.mp e
  · obtain ⟨a, xs, rfl, ha, _⟩ := r.list h
    exact .inl ⟨beq_iff_eq.mp e, xs, SqL.of ha⟩
  · obtain ⟨a, xs, rfl, ha, _⟩ := r.dict h
    exact .inr (.inr (.inl ⟨beq_iff_eq.mp e, .inl ⟨xs, ha⟩⟩))
def AllSh (L : List Ent) (xs : List V) (ds : List D) : Prop := xs.length = ds.length ∧ ∀ e ∈ ents xs (ds.map .sh), e ∈ L
theorem AllSh.rp {xs : List V} {ds : List D} (h : AllSh L xs ds) (r : RelO Z H src L O) : RpA Z.K H O xs ds := by
  obtain ⟨hl, hm⟩ := h
  refine rpA_ents (rs := ds.map .sh) (by simpa using hl) ?_ fun e he => r.ent e (hm e he)
  clear hl hm
  induction ds with
  | nil => rfl
  | cons d ds ih => simp [datas, ih]
theorem datas_sh : ∀ {rs : List SV} {ds : List D}, datas rs = some ds → rs = ds.map .sh
  | [], ds, e => by cases e; rfl
  | r :: rs, ds, e => by
    cases r <;> first | (simp [datas] at e; done) | skip
    simp only [datas, Option.map_eq_some_iff] at e
    obtain ⟨ds', e1, rfl⟩ := e
    rw [datas_sh e1]; rfl
/-- what an owned receiver becomes, what comes back -/
def rM (K : PySem.W.Frag) (g : D → List D → Option (D × SV)) : V → List V → Hp → VK → Prop := fun x xs H Q => ∃ Z src L a dO ds dO' r, Z.K = K ∧ x = .ref a ∧ Rel Z H src ((some (.ref a), some (.own dO)) :: L) ∧ AllSh ((some (.ref a), some (.own dO)) :: L) xs ds ∧ g dO ds = some (dO', r) ∧ ∀ v H', Rel Z H' src ((some v, some r) :: (some (.ref a), some (.own dO')) :: L) → Q v H'
def cMeth (i : Nat) (ty : String) (g : D → List D → Option (D × SV)) (ga : Ag) : Ev := fun s => match s.sl[i]? with
  | some (some (.own d0)) => if tyD ty d0 = true then (ga s).bind fun rs s1 => match s1.sl[i]?, datas rs with
    | some (some (.own dO)), some ds => match g dO ds with
      | some (dO', r) => .ok r { s1 with sl := s1.sl.set i (some (.own dO')) }
      | none => .err
    | _, _ => .err
    else .err
  | _ => .err
theorem rd_meth {i : Nat} {ty : String} {g : D → List D → Option (D × SV)} {ga : Ag} {Q : VK} (q : LE Z W (cMeth i ty g ga) σ H Q) : tBM Z.K ty (rM Z.K g) (tVar i) (LA Z W ga) σ H Q := by
  obtain ⟨T, s, R, q⟩ := q
  unfold cMeth at q
  split at q
  · rename_i d0 e0
    split at q
    · rename_i ht
      obtain ⟨v, hv, hm⟩ := R.slot e0
      obtain ⟨O, R0⟩ := id R.2
      refine ⟨v, hv, R0.ty ⟨_, hm, rfl⟩ ht, T, s, R, Res.sat_mono (Res.sat_bind.mp q) (fun rs s1 q vs H1 hl R1 => ?_) fun e s h => h⟩
      split at q
      · rename_i dO ds e1 e2
        have e3 := datas_sh e2
        subst e3
        cases e4 : g dO ds with
        | none => rw [e4] at q; exact q.elim
        | some p =>
          obtain ⟨dO', r⟩ := p
          rw [e4] at q
          have R3 := Rel.takeSlot R1.2 hv e1
          obtain ⟨O', R4⟩ := id R3
          obtain ⟨w1, z1, a, z2, _⟩ := R4.ent _ List.mem_cons_self _ rfl
          cases z1
          subst z2
          refine ⟨Z, s1.src, _, a, dO, ds, dO', r, rfl, rfl, R3, ⟨by simpa using hl, fun e he => List.mem_cons_of_mem _ (List.mem_append_left _ (List.mem_append_left _ he))⟩, e4, fun w H2 R5 => q w H2 ?_⟩
          have R6 : Rel Z H2 s1.src ((some (.ref a), some (.own dO')) :: (((some w, some r) :: (ents vs (ds.map .sh) ++ T)) ++ List.zip σ (s1.sl.set i none))) := R5.perm (List.Perm.swap _ _ _)
          have R7 := RelS.backSlot (i := i) R1.1 hv R6
          exact RelS.popN (T' := ents vs (ds.map .sh)) (R7.perm (by simpa using List.perm_middle.symm))
      · exact q.elim
    · exact q.elim
  · exact q.elim
theorem snE_meth0 {o : Expr} {i : Nat} {ty id : String} {name : Str} {apos cpos : Pos} {g : D → List D → Option (D × SV)} (pa : PlainAttrs ty) (slot : Slot ty name id) (hty : typeOf (.builtin id) = pure (.type "method_descriptor")) (hm : MtR X id (rM X.K g)) (ho : PE X o (tVar i))
    (hbase : attributeBase o name X.env (eval o X.env) = eval o X.env := by rfl) (hline : (apos.endLine == cpos.line) = true := by rfl) : SnE X Z W (.Call (.Attribute o name apos) [] [] cpos) (cMeth i ty g cNil) := fun k => pe_imp (pe_bm0 pa slot hty hm ho hbase hline) fun σ H Q q => by
  have q := rd_meth q
  rw [← k] at q
  obtain ⟨v, hv, h1, T, s, R, q⟩ := q
  exact ⟨v, hv, h1, q [] H rfl R⟩
theorem snE_meth {o : Expr} {es : List Expr} {i : Nat} {ty id : String} {name : Str} {apos cpos : Pos} {g : D → List D → Option (D × SV)} {ga : Ag} (pa : PlainAttrs ty) (slot : Slot ty name id) (hty : typeOf (.builtin id) = pure (.type "method_descriptor")) (hm : MtR X id (rM X.K g)) (ho : PE X o (tVar i)) (ha : SnA X Z W (e :: es) ga)
    (hbase : attributeBase o name X.env (eval o X.env) = eval o X.env := by rfl)
    (hfew : ((backTo cpos (starEach (e :: es) X.env)).all (fun x => !x.1) && (backToKw cpos (keywordEach [] X.env)).all (fun x => x.1.isSome) && decide ((e :: es).length + ([] : List Keyword).length + (if ([] : List Keyword).isEmpty then 0 else 1) < 30)) = true := by rfl)
    (hline : (apos.endLine == cpos.line) = true := by rfl) (hs : starEach (e :: es) X.env = (false, eval e X.env) :: starEach es X.env := by rfl) (hplain : (backTo cpos (starEach es X.env)).any (·.1) = false := by rfl) : SnE X Z W (.Call (.Attribute o name apos) (e :: es) [] cpos) (cMeth i ty g ga) := fun k =>
  pe_imp (pe_bm pa slot hty hm ho (ha k) hbase hfew hline hs hplain) fun σ H Q q => by
    have q := rd_meth q
    rw [← k] at q
    exact q
/-- a method that only looks -/
def rMV (K : PySem.W.Frag) (g : D → List D → Option SV) : V → List V → Hp → VK → Prop := fun x xs H Q => ∃ Z src L dO ds r, Z.K = K ∧ Rel Z H src L ∧ Has L x dO ∧ AllSh L xs ds ∧ g dO ds = some r ∧ ∀ v H', Rel Z H' src ((some v, some r) :: L) → Q v H'
def cMethV (i : Nat) (ty : String) (g : D → List D → Option SV) (ga : Ag) : Ev := fun s => match datAt s i with
  | some d0 => if tyD ty d0 = true then (ga s).bind fun rs s1 => match datAt s1 i, datas rs with
    | some dO, some ds => Res.opt (g dO ds) s1
    | _, _ => .err
    else .err
  | none => .err
def cMethE (ty : String) (g : D → List D → Option SV) (f : Ev) (ga : Ag) : Ev := fun s => (f s).bind fun r s0 => match r.dat with
  | some d0 => if tyD ty d0 = true then (ga s0).bind fun rs s1 => match datas rs with
    | some ds => Res.opt (g d0 ds) s1
    | _ => .err
    else .err
  | none => .err
theorem rd_methV {i : Nat} {ty : String} {g : D → List D → Option SV} {ga : Ag} {Q : VK} (q : LE Z W (cMethV i ty g ga) σ H Q) : tBM Z.K ty (rMV Z.K g) (tVar i) (LA Z W ga) σ H Q := by
  obtain ⟨T, s, R, q⟩ := q
  unfold cMethV at q
  split at q
  · rename_i d0 e0
    split at q
    · rename_i ht
      obtain ⟨v, hv, hm⟩ := R.datAt e0
      obtain ⟨O, R0⟩ := id R.2
      refine ⟨v, hv, R0.ty hm ht, T, s, R, Res.sat_mono (Res.sat_bind.mp q) (fun rs s1 q vs H1 hl R1 => ?_) fun e s h => h⟩
      split at q
      · rename_i dO ds e1 e2
        have e3 := datas_sh e2
        subst e3
        obtain ⟨r, e4, q⟩ := sat_opt q
        obtain ⟨v', hv', hm'⟩ := R1.datAt e1
        rw [hv] at hv'; cases hv'
        refine ⟨Z, s1.src, _, dO, ds, r, rfl, R1.2, hm', ⟨by simpa using hl, fun e he => List.mem_append_left _ (List.mem_append_left _ he)⟩, e4, fun w H2 R5 => q w H2 ⟨R1.1, ?_⟩⟩
        have R6 : Rel Z H2 s1.src ((some w, some r) :: (ents vs (ds.map .sh) ++ (T ++ List.zip σ s1.sl))) := by simpa using R5
        exact R6.mid
      · exact q.elim
    · exact q.elim
  · exact q.elim
theorem rd_methE {ty : String} {g : D → List D → Option SV} {ga : Ag} {Q : VK} (q : LE Z W (cMethE ty g f ga) σ H Q) : tBM Z.K ty (rMV Z.K g) (LE Z W f) (LA Z W ga) σ H Q := by
  obtain ⟨T, s, R, q⟩ := q
  refine ⟨T, s, R, Res.sat_mono (Res.sat_bind.mp q) (fun r s0 q v H0 R0 => ?_) fun e s h => h⟩
  cases e0 : r.dat with
  | none => rw [e0] at q; exact q.elim
  | some d0 =>
    simp only [e0] at q
    split at q
    · rename_i ht
      obtain ⟨O, Q0⟩ := id R0.2
      have hm : Has ((some v, some r) :: T ++ List.zip σ s0.sl) v d0 := ⟨r, by simp, e0⟩
      refine ⟨Q0.ty hm ht, _, s0, R0, Res.sat_mono (Res.sat_bind.mp q) (fun rs s1 q vs H1 hl R1 => ?_) fun e s h dd H' R' => h dd H' ⟨R'.1, (R'.perm (List.Perm.swap _ _ _)).pop.2⟩⟩
      split at q
      · rename_i ds e2
        have e3 := datas_sh e2
        subst e3
        obtain ⟨r', e4, q⟩ := sat_opt q
        refine ⟨Z, s1.src, _, d0, ds, r', rfl, R1.2, ⟨r, by simp, e0⟩, ⟨by simpa using hl, fun e he => List.mem_append_left _ (List.mem_append_left _ he)⟩, e4, fun w H2 R5 => q w H2 ⟨R1.1, ?_⟩⟩
        have R6 : Rel Z H2 s1.src ((some w, some r') :: ((ents vs (ds.map .sh) ++ [(some v, some r)]) ++ (T ++ List.zip σ s1.sl))) := by simpa using R5
        exact R6.mid
      · exact q.elim
    · exact q.elim
section
variable {o : Expr} {es : List Expr} {i : Nat} {ty id : String} {name : Str} {apos cpos : Pos} {g : D → List D → Option SV} {ga : Ag}
theorem snE_methV0 (pa : PlainAttrs ty) (slot : Slot ty name id) (hty : typeOf (.builtin id) = pure (.type "method_descriptor")) (hm : MtR X id (rMV X.K g)) (ho : PE X o (tVar i)) (hbase : attributeBase o name X.env (eval o X.env) = eval o X.env := by rfl) (hline : (apos.endLine == cpos.line) = true := by rfl) :
    SnE X Z W (.Call (.Attribute o name apos) [] [] cpos) (cMethV i ty g cNil) := fun k => pe_imp (pe_bm0 pa slot hty hm ho hbase hline) fun σ H Q q => by
  have q := rd_methV q
  rw [← k] at q
  obtain ⟨v, hv, h1, T, s, R, q⟩ := q
  exact ⟨v, hv, h1, q [] H rfl R⟩
theorem snE_methV (pa : PlainAttrs ty) (slot : Slot ty name id) (hty : typeOf (.builtin id) = pure (.type "method_descriptor")) (hm : MtR X id (rMV X.K g)) (ho : PE X o (tVar i)) (ha : SnA X Z W (e :: es) ga) (hbase : attributeBase o name X.env (eval o X.env) = eval o X.env := by rfl)
    (hfew : ((backTo cpos (starEach (e :: es) X.env)).all (fun x => !x.1) && (backToKw cpos (keywordEach [] X.env)).all (fun x => x.1.isSome) && decide ((e :: es).length + ([] : List Keyword).length + (if ([] : List Keyword).isEmpty then 0 else 1) < 30)) = true := by rfl)
    (hline : (apos.endLine == cpos.line) = true := by rfl) (hs : starEach (e :: es) X.env = (false, eval e X.env) :: starEach es X.env := by rfl) (hplain : (backTo cpos (starEach es X.env)).any (·.1) = false := by rfl) : SnE X Z W (.Call (.Attribute o name apos) (e :: es) [] cpos) (cMethV i ty g ga) := fun k =>
  pe_imp (pe_bm pa slot hty hm ho (ha k) hbase hfew hline hs hplain) fun σ H Q q => by
    have q := rd_methV q
    rw [← k] at q
    exact q
theorem snE_methE0 (pa : PlainAttrs ty) (slot : Slot ty name id) (hty : typeOf (.builtin id) = pure (.type "method_descriptor")) (hm : MtR X id (rMV X.K g)) (ho : SnE X Z W o f) (hbase : attributeBase o name X.env (eval o X.env) = eval o X.env := by rfl) (hline : (apos.endLine == cpos.line) = true := by rfl) :
    SnE X Z W (.Call (.Attribute o name apos) [] [] cpos) (cMethE ty g f cNil) := fun k => pe_imp (pe_bm0 pa slot hty hm (ho k) hbase hline) fun σ H Q q => by
  have q := rd_methE q
  rw [← k] at q
  obtain ⟨T, s, R, q⟩ := q
  exact ⟨T, s, R, Res.sat_mono q (fun r s1 q v H1 R1 => let ⟨h1, T2, s2, R2, q2⟩ := q v H1 R1; ⟨h1, q2 [] H1 rfl R2⟩) fun e s h => h⟩
theorem snE_methE (pa : PlainAttrs ty) (slot : Slot ty name id) (hty : typeOf (.builtin id) = pure (.type "method_descriptor")) (hm : MtR X id (rMV X.K g)) (ho : SnE X Z W o f) (ha : SnA X Z W (e :: es) ga) (hbase : attributeBase o name X.env (eval o X.env) = eval o X.env := by rfl)
    (hfew : ((backTo cpos (starEach (e :: es) X.env)).all (fun x => !x.1) && (backToKw cpos (keywordEach [] X.env)).all (fun x => x.1.isSome) && decide ((e :: es).length + ([] : List Keyword).length + (if ([] : List Keyword).isEmpty then 0 else 1) < 30)) = true := by rfl)
    (hline : (apos.endLine == cpos.line) = true := by rfl) (hs : starEach (e :: es) X.env = (false, eval e X.env) :: starEach es X.env := by rfl) (hplain : (backTo cpos (starEach es X.env)).any (·.1) = false := by rfl) : SnE X Z W (.Call (.Attribute o name apos) (e :: es) [] cpos) (cMethE ty g f ga) := fun k =>
  pe_imp (pe_bm pa slot hty hm (ho k) (ha k) hbase hfew hline hs hplain) fun σ H Q q => by
    have q := rd_methE q
    rw [← k] at q
    exact q
end
end
section
variable {X : Cx} {Z : Zx} {H : Hp} {σ : L2.St} {L : List Ent} {src : Option Src} {O : Addr → Prop} {v : V} {pins : List (Addr × Obj)}
/-! ### lists' own methods -/
theorem RelO.ownList (r : RelO Z H src L O) {a : Addr} {ds : List D} (h : (some (V.ref a), some (SV.own (.list ds))) ∈ L) : ∃ xs, H a = some (.lst xs) ∧ RpA Z.K H O xs ds ∧ O a := by
  obtain ⟨w, e1, b, e2, oa, _, _, z⟩ := r.ent _ h _ rfl
  cases e1
  cases e2
  obtain ⟨xs, h1, h2⟩ := z
  exact ⟨xs, h1, h2, oa⟩
theorem RelO.ownDict (r : RelO Z H src L O) {a : Addr} {ds : List (D × D)} (h : (some (V.ref a), some (SV.own (.dict ds))) ∈ L) : ∃ xs, H a = some (.dK xs) ∧ RpD Z.K H O xs ds ∧ O a := by
  obtain ⟨w, e1, b, e2, oa, _, _, z⟩ := r.ent _ h _ rfl
  cases e1
  cases e2
  obtain ⟨xs, h1, h2⟩ := z
  exact ⟨xs, h1, h2, oa⟩
theorem rp_upd {K} {a : Addr} {o : HO} (oa : O a) {w : V} {d : D} (h : Rp K H O w d) : Rp K (upd H a o) O w d := h.keep (fun b x e n => by rw [upd_ne (fun z => n (by rw [z]; exact oa))]; exact e) fun _ z => .inl z
theorem rpA_upd {K} {a : Addr} {o : HO} (oa : O a) {w : List V} {d : List D} (h : RpA K H O w d) : RpA K (upd H a o) O w d := h.keep (fun b x e n => by rw [upd_ne (fun z => n (by rw [z]; exact oa))]; exact e) fun _ z => .inl z
theorem rpD_upd {K} {a : Addr} {o : HO} (oa : O a) {w : List (Key × V)} {d : List (D × D)} (h : RpD K H O w d) : RpD K (upd H a o) O w d := h.keep (fun b x e n => by rw [upd_ne (fun z => n (by rw [z]; exact oa))]; exact e) fun _ z => .inl z
/-- the owned list is another one; what comes back is shared -/
theorem Rel.listTo {a : Addr} {ds ds' : List D} {xs' : List V} {w : V} {d : D} (R : Rel Z H src ((some (.ref a), some (.own (.list ds))) :: L)) (h : ∀ O, RelO Z H src ((some (.ref a), some (.own (.list ds))) :: L) O → RpA Z.K H O xs' ds' ∧ Rp Z.K H O w d) : Rel Z (upd H a (.lst xs')) src ((some w, some (.sh d)) :: (some (.ref a), some (.own (.list ds'))) :: L) := by
  have R1 : Rel Z H src ((some w, some (.sh d)) :: (some (.ref a), some (.own (.list ds))) :: L) := let ⟨O, r⟩ := R; r.pushSh (h O r).2
  have R2 := R1.perm (List.Perm.swap _ _ _)
  have R3 := R2.updOwn (o := .lst xs') (d' := .list ds') fun O' R' z oa => ?_
  · exact R3.perm (List.Perm.swap _ _ _)
  · have Rc : RelO Z H src ((some (.ref a), some (.own (.list ds))) :: L) O' := ⟨R'.oc, fun e he => R'.ent e (by
      rcases List.mem_cons.mp he with rfl | he
      · simp
      · simp [he]), (List.pairwise_cons.mp ((List.Perm.swap (some w, some (SV.sh d)) (some (V.ref a), some (SV.own (.list ds))) L).pairwise_iff (R := Apart) (fun h => h.symm) |>.mp R'.ap)).2, R'.src, R'.base, R'.live⟩
    exact ⟨xs', upd_same, rpA_upd oa (h O' Rc).1⟩
def mAppend : D → List D → Option (D × SV)
  | .list xs, [x] => if xs.length < sizeLine then some (.list (xs ++ [x]), .sh .none) else none
  | _, _ => none
theorem mt_appendR : MtR X "list.append" (rM X.K mAppend) := by
  intro pins s σ H x xs v us Q I rx rs h
  obtain ⟨Z, src, L, a, dO, ds, dO', r, hK, rfl, R, h1, e, q⟩ := h
  obtain ⟨O, R0⟩ := id R
  unfold mAppend at e
  split at e
  · rename_i ys y
    split at e
    · rename_i hz
      cases e
      obtain ⟨zs, ha, ra, oa⟩ := R0.ownList List.mem_cons_self
      have h2 := h1.rp R0
      cases h2 with
      | cons h2 h3 =>
        cases h3
        refine mt_append pins s σ H _ _ v us Q I rx rs ⟨a, zs, _, rfl, rfl, ha, by rw [ra.length]; exact hz, q _ _ (R.listTo fun O' R' => ⟨?_, .non⟩)⟩
        obtain ⟨zs', ha', ra', _⟩ := R'.ownList List.mem_cons_self
        rw [ha] at ha'; cases ha'
        exact ra'.append (h1.rp R')
    · cases e
  · cases e
def mPop : D → List D → Option (D × SV)
  | .list xs, [] => (xs[xs.length - 1]?).map fun y => (.list xs.dropLast, .sh y)
  | .list xs, [.int i] => if 0 ≤ i ∧ i < 2 ^ 63 then (xs[i.toNat]?).map fun y => (.list (xs.eraseIdx i.toNat), .sh y) else none
  | _, _ => none
theorem RpA.dropLast {K} {vs : List V} {ds : List D} (h : RpA K H O vs ds) : RpA K H O vs.dropLast ds.dropLast := by
  rw [List.dropLast_eq_take, List.dropLast_eq_take, h.length]; exact h.take _
theorem mt_popR : MtR X "list.pop" (rM X.K mPop) := by
  intro pins s σ H x xs v us Q I rx rs h
  obtain ⟨Z, src, L, a, dO, ds, dO', r, hK, rfl, R, h1, e, q⟩ := h
  obtain ⟨O, R0⟩ := id R
  have h2 := h1.rp R0
  unfold mPop at e
  split at e
  · obtain ⟨y, e1, e2⟩ := Option.map_eq_some_iff.mp e
    cases e2
    cases h2
    obtain ⟨zs, ha, ra, oa⟩ := R0.ownList List.mem_cons_self
    obtain ⟨w, e3, rw'⟩ := ra.get e1
    refine mt_pop pins s σ H _ _ v us Q I rx rs ⟨a, zs, w, rfl, rfl, ha, by rw [ra.length]; exact e3, q _ _ (R.listTo fun O' R' => ?_)⟩
    obtain ⟨zs', ha', ra', _⟩ := R'.ownList List.mem_cons_self
    rw [ha] at ha'; cases ha'
    obtain ⟨w', e3', rw''⟩ := ra'.get e1
    rw [e3] at e3'; cases e3'
    exact ⟨ra'.dropLast, rw''⟩
  · rename_i i
    split at e
    · rename_i hz
      obtain ⟨y, e1, e2⟩ := Option.map_eq_some_iff.mp e
      cases e2
      obtain ⟨zs, ha, ra, oa⟩ := R0.ownList List.mem_cons_self
      obtain ⟨w, e3, rw'⟩ := ra.get e1
      cases h2 with
      | cons h2 h3 =>
        cases h3
        have e5 := h2.int_inv
        subst e5
        have hlt : i.toNat < zs.length := (List.getElem?_eq_some_iff.mp e3).1
        refine mt_popAt pins s σ H _ _ v us Q I rx rs ⟨a, zs, i, i.toNat, w, rfl, rfl, ha, by omega, hz.2, ?_, e3, q _ _ (R.listTo fun O' R' => ?_)⟩
        · have z : ixN zs.length i = some i.toNat := by unfold ixN; rw [if_pos hz.1, if_pos (by omega)]
          exact (ixN_seq z).1
        · obtain ⟨zs', ha', ra', _⟩ := R'.ownList List.mem_cons_self
          rw [ha] at ha'; cases ha'
          obtain ⟨w', e3', rw''⟩ := ra'.get e1
          rw [e3] at e3'; cases e3'
          exact ⟨ra'.eraseIdx _, rw''⟩
    · cases e
  · cases e
end
end Pw
set_option Elab.async false
set_option linter.all false
set_option maxRecDepth 100000
namespace Pw
open PySem PySem.Spec PyProof.Rows L2
section
variable {X : Cx} {Z : Zx} {W : WX} {e a b tg : Expr} {f fa : Ev} {fb : Vw} {H : Hp} {σ σ' : L2.St} {T T' : List Ent} {s s' : S} {L : List Ent} {src : Option Src} {O : Addr → Prop} {v : V} {c : Tt} {m m1 m2 : Sm}
/-! ### blocks -/
def cSkip : Sm := fun s => .ok .nx s
def cSeq (m1 m2 : Sm) : Sm := fun s => (m1 s).bind fun fl s1 => match fl with
  | .nx => m2 s1
  | fl => .ok fl s1
theorem snB_nil : SnB X Z W [] cSkip := fun _ => pss_imp pss_nil fun D σ H ⟨T, s, R, q⟩ => q σ H R
theorem snB_one {st : Stmt} (h : SnS X Z W st m) : SnB X Z W [st] m := fun k => pss_one (h k)
theorem snB_cons {st : Stmt} {sts : List Stmt} (h : SnS X Z W st m1) (h2 : SnB X Z W sts m2) : SnB X Z W (st :: sts) (cSeq m1 m2) := fun k => pss_imp (pss_cons (h k) (h2 k)) fun D σ H ⟨T, s, R, q⟩ => by
  refine ⟨T, s, R, Res.sat_mono (Res.sat_bind.mp q) (fun fl s1 q => ?_) fun e s h => h⟩
  cases fl with
  | nx => exact fun σ1 H1 R1 => ⟨T, s1, R1, q⟩
  | ret r => exact q
  | bk => exact q
  | ct => exact q
theorem snS_pass {pos} : SnS X Z W (.Pass pos) cSkip := fun _ => ps_imp ps_pass fun D σ H ⟨T, s, R, q⟩ => q σ H R
def cBk : Sm := fun s => .ok .bk s
def cCt : Sm := fun s => .ok .ct s
theorem snS_break {pos} : SnS X Z W (.Break pos) cBk := fun _ => ps_imp ps_break fun D σ H ⟨T, s, R, q⟩ => q σ H R
theorem snS_continue {pos} : SnS X Z W (.Continue pos) cCt := fun _ => ps_imp ps_continue fun D σ H ⟨T, s, R, q⟩ => q σ H R
def cExpr (f : Ev) : Sm := fun s => (f s).bind fun _ s1 => .ok .nx s1
theorem snS_expr {pos} (he : SnE X Z W e f) (hs : swapsWith e none pos.line X.env = pure false := by rfl) : SnS X Z W (.Expr e pos) (cExpr f) := fun k => ps_imp (ps_expr (he k) hs) fun D σ H ⟨T, s, R, q⟩ =>
  ⟨T, s, R, Res.sat_mono (Res.sat_bind.mp q) (fun r s1 q v H1 R1 => q σ H1 R1.pop) fun e s h => h σ⟩
def cRet (f : Ev) : Sm := fun s => (f s).bind fun r s1 => .ok (.ret r) s1
theorem snS_ret {pos} (he : SnE X Z W e f) : SnS X Z W (.Return (some e) pos) (cRet f) := fun k => ps_imp (ps_ret (he k)) fun D σ H ⟨T, s, R, q⟩ =>
  ⟨T, s, R, Res.sat_mono (Res.sat_bind.mp q) (fun r s1 q v H1 R1 => q v σ H1 R1) fun e s h => h σ⟩
theorem snS_retN {pos} : SnS X Z W (.Return none pos) (cRet (cD .none)) := fun k => ps_imp ps_retN fun D σ H ⟨T, s, R, q⟩ => q _ σ H ⟨R.1, R.2.non⟩
def cIfS (c : Tt) (m1 m2 : Sm) : Sm := fun s => (c s).bind fun b s1 => if b = true then m1 s1 else m2 s1
theorem snS_if {t : Expr} {sa sb : List Stmt} {pos} (hc : SnT X Z W t c) (ha : SnB X Z W sa m1) (hb : SnB X Z W sb m2) : SnS X Z W (.If t sa sb pos) (cIfS c m1 m2) := fun k => ps_imp (ps_if (hc k) (ha k) (hb k)) fun D σ H ⟨T, s, R, q⟩ => by
  refine ⟨T, s, R, Res.sat_mono (Res.sat_bind.mp q) (fun b s1 q H1 R1 => ?_) fun e s h => h σ⟩
  cases b with
  | true => exact ⟨T, s1, R1, q⟩
  | false => exact ⟨T, s1, R1, q⟩
/-! ### while -/
def whileL (c : Tt) (m : Sm) : Nat → S → Res Fl
  | 0, _ => .err
  | n + 1, s => (c s).bind fun b s1 => if b = true then (m s1).bind fun fl s2 => match fl with
      | .nx => whileL c m n s2
      | .ct => whileL c m n s2
      | .bk => .ok .nx s2
      | .ret r => .ok (.ret r) s2
    else .ok .nx s1
def FUEL : Nat := 1000000000
def cWhile (c : Tt) (m : Sm) : Sm := fun s => whileL c m FUEL s
theorem snS_while {t : Expr} {body : List Stmt} {pos} (hp : PassesOwn (model X.prog X.w) X.A X.env X.xe) (hc : SnT X Z W t c) (hb : SnB X Z W body m) : SnS X Z W (.While t body [] pos) (cWhile c m) := fun k => ps_imp (ps_while hp (hc k) (hb k)) fun D σ H ⟨T, s, R, q⟩ => by
  refine ⟨fun n σ H => ∃ s, RelS Z H σ T s ∧ (whileL c m n s).sat (FlP Z T D) (ExS Z T W), ⟨FUEL, s, R, q⟩, ?_⟩
  rintro n σ H ⟨s, R, q⟩
  cases n with
  | zero => exact q.elim
  | succ n =>
    refine ⟨T, s, R, Res.sat_mono (Res.sat_bind.mp q) (fun b s1 q H1 R1 => ?_) fun e s h => h σ⟩
    cases b with
    | false => exact q σ H1 R1
    | true =>
      refine ⟨fun σ' H' => ∃ s, RelS Z H' σ' T s ∧ (whileL c m n s).sat (FlP Z T D) (ExS Z T W), fun σ' H' h => ⟨n, Nat.lt_succ_self n, h⟩, T, s1, R1, Res.sat_mono (Res.sat_bind.mp q) (fun fl s2 q => ?_) fun e s h => h⟩
      cases fl with
      | nx => exact fun σ2 H2 R2 => ⟨s2, R2, q⟩
      | ct => exact fun σ2 H2 R2 => ⟨s2, R2, q⟩
      | bk => exact fun σ2 H2 R2 => q σ2 H2 R2
      | ret r => exact q
/-! ### what is walked -/
abbrev Itf := S → Res (List SV)
/-- the iterator gives these, one by one, as long as what is walked stands -/
def JSpecD (Z : Zx) (E : List Ent) (J : It) (ds : List D) : Prop := ∀ H src L, Rel Z H src L → (∀ x ∈ E, x ∈ L) → ∀ i,
  (∀ d, ds[i]? = some d → J.go i H ∧ ∀ x H', J.yld i H x H' → Rel Z H' src ((some x, some (.sh d)) :: L)) ∧ (ds.length ≤ i → J.stop i H)
def JSpec (Z : Zx) (E : List Ent) (J : It) (ds : List SV) : Prop := ∀ H src L, Rel Z H src L → (∀ x ∈ E, x ∈ L) → ∀ i,
  (∀ d, ds[i]? = some d → J.go i H ∧ ∀ x H', J.yld i H x H' → Rel Z H' src ((some x, some d) :: L)) ∧ (ds.length ≤ i → J.stop i H)
def shs (ds : List D) : List SV := ds.map .sh
theorem JSpecD.up {E : List Ent} {J : It} {ds : List D} (h : JSpecD Z E J ds) : JSpec Z E J (shs ds) := fun H src L R hE i => ⟨fun d hd => by
  unfold shs at hd
  rw [List.getElem?_map] at hd
  obtain ⟨c, hc, rfl⟩ := Option.map_eq_some_iff.mp hd
  exact (h H src L R hE i).1 c hc, fun hi => (h H src L R hE i).2 (by simpa [shs] using hi)⟩
def LI (Z : Zx) (W : WX) (f : Itf) : TI := fun σ H R => ∃ T s, RelS Z H σ T s ∧ (f s).sat (fun ds s' => ∀ J H' T', RelS Z H' σ (T' ++ T) s' → JSpec Z T' J ds → R J H') (ExP Z σ T W)
def SnI (X : Cx) (Z : Zx) (W : WX) (tg iter : Expr) (f : Itf) : Prop := X.K = Z.K → PI X tg iter (LI Z W f)
def forL (g : Tg) (m : Sm) : List SV → S → Res Fl
  | [], s => .ok .nx s
  | d :: ds, s => match g d s with
    | none => .err
    | some s1 => (m s1).bind fun fl s2 => match fl with
      | .nx => forL g m ds s2
      | .ct => forL g m ds s2
      | .bk => .ok .nx s2
      | .ret r => .ok (.ret r) s2
def cFor (f : Itf) (g : Tg) (m : Sm) : Sm := fun s => (f s).bind fun ds s1 => forL g m ds s1
theorem drop_at {α : Type} {l : List α} {i : Nat} {d : α} (h : l[i]? = some d) : l.drop i = d :: l.drop (i + 1) := by
  obtain ⟨hi, e⟩ := List.getElem?_eq_some_iff.mp h
  rw [List.drop_eq_getElem_cons hi, e]
theorem FlP.less {D : Ends} {fl : Fl} (T' : List Ent) (q : FlP Z T D fl s) : FlP Z (T' ++ T) D fl s := by
  cases fl with
  | nx => exact fun σ H R => q σ H R.popN
  | bk => exact fun σ H R => q σ H R.popN
  | ct => exact fun σ H R => q σ H R.popN
  | ret r => exact fun v σ H R => q v σ H (RelS.popN (T' := T') (R.perm List.perm_middle.symm))
theorem ExP.less {e : Ex} (T' : List Ent) (q : ExP Z σ T W e s) : ExP Z σ (T' ++ T) W e s := fun dd H R => q dd H (RelS.popN (T' := T') (R.perm List.perm_middle.symm))
theorem snS_for {iter : Expr} {body : List Stmt} {fi : Itf} {g : Tg} {is : List Nat} {pos} (hp : PassesOwn (model X.prog X.w) X.A X.env X.xe) (hc : X.calm = true) (hi : SnI X Z W tg iter fi) (hg : SnG X Z tg g is) (hb : SnB X Z W body m)
    (hs : ∀ x, foldedSetIterable iter X.env x = pure x := by intro _; rfl) : SnS X Z W (.For tg iter body [] pos) (cFor fi g m) := fun k => ps_imp (ps_for hp hc (hi k) (hg k) (hb k) hs) fun D σ H ⟨T, s, R, q⟩ => by
  refine ⟨T, s, R, Res.sat_mono (Res.sat_bind.mp q) (fun ds s1 q J H1 T' R1 hJ => ?_) fun e s h => h σ⟩
  refine ⟨fun i n σ H => ∃ s, i + n = ds.length ∧ RelS Z H σ (T' ++ T) s ∧ (forL g m (ds.drop i) s).sat (FlP Z T D) (ExS Z T W), ⟨ds.length, s1, by simp, R1, q⟩, ?_⟩
  rintro i n σ H ⟨s, en, R, q⟩
  have hJ' := hJ H s.src _ R.2 (fun x hx => List.mem_append_left _ (List.mem_append_left _ hx)) i
  cases e : ds[i]? with
  | none =>
    have hi : ds.length ≤ i := List.getElem?_eq_none_iff.mp e
    rw [List.drop_eq_nil_of_le hi] at q
    exact .inl ⟨hJ'.2 hi, q σ H R.popN⟩
  | some d =>
    rw [drop_at e] at q
    obtain ⟨go, yl⟩ := hJ'.1 d e
    have hi : i < ds.length := (List.getElem?_eq_some_iff.mp e).1
    refine .inr ⟨go, fun σ' H' => ∃ s, RelS Z H' σ' (T' ++ T) s ∧ (forL g m (ds.drop (i + 1)) s).sat (FlP Z T D) (ExS Z T W), fun σ' H' ⟨s, R, q⟩ => ⟨n - 1, by omega, s, by omega, R, q⟩, fun x H' hy => ?_⟩
    unfold forL at q
    cases e2 : g d s with
    | none => rw [e2] at q; exact q.elim
    | some s2 =>
      rw [e2] at q
      refine ⟨T' ++ T, s, d, s2, ⟨R.1, yl x H' hy⟩, e2, fun σ2 R2 _ => ⟨T' ++ T, s2, R2, Res.sat_mono (Res.sat_bind.mp q) (fun fl s3 q => ?_) fun e s h σ => (h σ).less T'⟩⟩
      cases fl with
      | nx => exact fun σ3 H3 R3 => ⟨s3, R3, q⟩
      | ct => exact fun σ3 H3 R3 => ⟨s3, R3, q⟩
      | bk => exact fun σ3 H3 R3 => q σ3 H3 R3.popN
      | ret r => exact FlP.less (fl := .ret r) (D := D) T' q
/-! ### comprehensions -/
def W0 : WX := fun _ _ _ _ => False
def Res.quiet {α : Type} : Res α → Res α
  | .exc _ _ => .err
  | r => r
theorem sat_quiet {α : Type} {r : Res α} {Q : α → S → Prop} {E E' : Ex → S → Prop} (h : r.quiet.sat Q E) : r.sat Q E' := by
  cases r <;> first | exact h | exact h.elim
def cYes : Tt := fun s => .ok true s
def SnTs (X : Cx) (Z : Zx) (W : WX) (ifs : List Expr) (f : Tt) : Prop := X.K = Z.K → PTs X ifs (LT Z W f)
theorem pts_imp {ifs : List Expr} {t t' : TT} (h : PTs X ifs t) (i : ∀ σ H Q, t' σ H Q → t σ H Q) : PTs X ifs t' := ⟨fun pins s σ H Q I q => h.run pins s σ H Q I (i σ H Q q)⟩
theorem snTs_nil : SnTs X Z W [] cYes := fun _ => pts_imp pts_nil fun σ H Q ⟨T, s, R, q⟩ => q H R
theorem snTs_one (h : SnT X Z W e c) : SnTs X Z W [e] c := fun k => pts_one (h k)
def wipeS : List Nat → S → S
  | [], s => s
  | v :: vs, s => { wipeS vs s with sl := (wipeS vs s).sl.set v none }
def backS : List Nat → S → S → S
  | [], _, s => s
  | v :: vs, s0, s => backS vs s0 { s with sl := s.sl.set v (((wipeS vs s0).sl[v]?).join) }
theorem wipeS_src : ∀ (vs : List Nat) (s : S), (wipeS vs s).src = s.src
  | [], _ => rfl
  | v :: vs, s => wipeS_src vs s
theorem RelS.wiped : ∀ (vs : List Nat) {s : S}, RelS Z H σ T s → ∃ E, RelS Z H (wipe σ vs) (E ++ T) (wipeS vs s) ∧ ∀ {H' : Hp} {T2 : List Ent} {s' : S}, RelS Z H' (L2.wipe σ vs) (T2 ++ (E ++ T)) s' → RelS Z H' σ (T2 ++ T) (backS vs s s')
  | [], s, R => ⟨[], R, fun R' => R'⟩
  | v :: vs, s, R => by
    obtain ⟨E, R1, back⟩ := RelS.wiped vs R
    by_cases hv : v < (L2.wipe σ vs).length
    · have h1 : (L2.wipe σ vs)[v]? = some (L2.wipe σ vs)[v] := List.getElem?_eq_getElem hv
      have hv2 : v < (wipeS vs s).sl.length := R1.1 ▸ hv
      have h2 : (wipeS vs s).sl[v]? = some (wipeS vs s).sl[v] := List.getElem?_eq_getElem hv2
      have R2 := Rel.takeSlot R1.2 h1 h2
      have R3 : Rel Z H (wipeS vs s).src ((none, none) :: ((((L2.wipe σ vs)[v], (wipeS vs s).sl[v]) :: (E ++ T)) ++ List.zip (L2.wipe σ vs) ((wipeS vs s).sl.set v none))) := Rel.triv R2
      have R4 := Rel.putSlot (i := v) R3 (by simpa using R1.1)
      rw [List.set_set] at R4
      refine ⟨((L2.wipe σ vs)[v], (wipeS vs s).sl[v]) :: E, ⟨by unfold L2.wipe wipeS; simpa using R1.1, R4⟩, fun {H' T2 s'} R' => ?_⟩
      have R' : RelS Z H' ((L2.wipe σ vs).set v none) (T2 ++ ((((L2.wipe σ vs)[v], (wipeS vs s).sl[v]) :: E) ++ T)) s' := R'
      unfold backS
      refine back (T2 := T2) ?_
      rw [h2]
      have R5 : Rel Z H' s'.src (((L2.wipe σ vs)[v], (wipeS vs s).sl[v]) :: ((T2 ++ (E ++ T)) ++ List.zip ((L2.wipe σ vs).set v none) s'.sl)) := by
        refine R'.2.perm ?_
        simp only [List.append_assoc, List.cons_append]
        exact List.perm_middle
      have R6 := Rel.putSlot (i := v) R5 R'.1
      rw [List.set_set, set_id _ v _ h1] at R6
      exact ⟨by have := R'.1; simpa using this, R6⟩
    · have e1 : (L2.wipe σ vs).set v none = L2.wipe σ vs := List.set_eq_of_length_le (by omega)
      have e2 : (wipeS vs s).sl.set v none = (wipeS vs s).sl := List.set_eq_of_length_le (by rw [← R1.1]; omega)
      refine ⟨E, by unfold L2.wipe wipeS; rw [e1, e2]; exact R1, fun {H' T2 s'} R' => ?_⟩
      unfold L2.wipe at R'
      rw [e1] at R'
      unfold backS
      rw [List.set_eq_of_length_le (by rw [← R'.1]; omega)]
      exact back R'
theorem wipe_at (σ : L2.St) (j : Nat) : ∀ vs : List Nat, (wipe σ vs)[j]? = if j ∈ vs then (if j < σ.length then some none else none) else σ[j]?
  | [] => by simp [wipe]
  | v :: vs => by
    unfold wipe
    by_cases e : v = j
    · subst e
      rw [List.getElem?_set]
      simp [wipe_length]
    · rw [List.getElem?_set_ne e, wipe_at σ j vs]
      simp [Ne.symm e]
theorem wipe_eq {vs is : List Nat} {τ : L2.St} (h : SameOff is (wipe σ vs) τ) (hs : ∀ i ∈ is, i ∈ vs) : wipe τ vs = wipe σ vs := by
  apply List.ext_getElem?
  intro j
  have hl : τ.length = σ.length := h.1.trans (wipe_length _ _)
  rw [wipe_at, wipe_at, hl]
  by_cases hj : j ∈ vs
  · rw [if_pos hj, if_pos hj]
  · rw [if_neg hj, if_neg hj, h.2 j fun z => hj (hs j z), wipe_at, if_neg hj]
theorem RelS.wipeAgain {vs is : List Nat} {τ : L2.St} (R : RelS Z H τ T s) (h : SameOff is (wipe σ vs) τ) (hs : ∀ i ∈ is, i ∈ vs) : RelS Z H (wipe σ vs) T (wipeS vs s) := by
  obtain ⟨E, R1, _⟩ := RelS.wiped vs R
  rw [wipe_eq h hs] at R1
  exact R1.popN
def compL (g : Tg) (c : Tt) (f : Ev) (vs : List Nat) : List SV → List D → S → Res (List D)
  | [], acc, s => .ok acc s
  | d :: ds, acc, s => match g d s with
    | none => .err
    | some s1 => (c s1).quiet.bind fun b s2 => if b = true then (f s2).quiet.bind fun r s3 => match r.settle with
        | .sh x => if acc.length < sizeLine then compL g c f vs ds (acc ++ [x]) (wipeS vs s3) else .err
        | _ => .err
      else compL g c f vs ds acc (wipeS vs s2)
def cComp (fi : Itf) (g : Tg) (c : Tt) (f : Ev) (vs : List Nat) : Ev := fun s => (fi s).bind fun ds s1 => (compL g c f vs ds [] (wipeS vs s1)).quiet.bind fun acc s2 => .ok (.own (.list acc)) (backS vs s1 s2)
theorem wipe_wipe (σ : L2.St) (vs : List Nat) : wipe (wipe σ vs) vs = wipe σ vs := wipe_eq (is := []) ⟨rfl, fun _ _ => rfl⟩ (fun _ h => by cases h)
theorem rd_comp {fi : Itf} {g : Tg} {vs is : List Nat} (hs : ∀ i ∈ is, i ∈ vs) {Q : VK} (q : LE Z W (cComp fi g c f vs) σ H Q) : tLc (LI Z W fi) (LG Z g is) (LT Z W0 c) (LE Z W0 f) vs σ H Q := by
  obtain ⟨T, s, R, q⟩ := q
  refine ⟨T, s, R, Res.sat_mono (Res.sat_bind.mp q) (fun ds s1 q J H1 T' R1 hJ D hD => ?_) fun e s h => h⟩
  obtain ⟨E, R2, back⟩ := RelS.wiped vs R1
  have R3 : RelS Z (upd H1 D (.lst [])) (wipe σ vs) ((some (.ref D), some (.own (.list []))) :: (E ++ (T' ++ T))) (wipeS vs s1) := ⟨R2.1, R2.2.newListOf hD fun O R => .nil⟩
  refine ⟨fun i n H => ∃ s acc, i + n = ds.length ∧ RelS Z H (wipe σ vs) ((some (.ref D), some (.own (.list acc))) :: (E ++ (T' ++ T))) s ∧ (compL g c f vs (ds.drop i) acc s).sat (fun acc s2 => ∀ v H', RelS Z H' σ ((some v, some (.own (.list acc))) :: T) (backS vs s1 s2) → Q v H') (fun _ _ => False), ⟨ds.length, wipeS vs s1, [], by simp, R3, ?_⟩, ?_⟩
  · exact Res.sat_mono (sat_quiet (E' := fun _ _ => False) (Res.sat_bind.mp q)) (fun acc s2 q => q) fun _ _ h => h
  rintro i n H ⟨s, acc, en, R, q⟩
  have hJ' := hJ H s.src _ R.2 (fun x hx => List.mem_append_left _ (List.mem_cons_of_mem _ (List.mem_append_right _ (List.mem_append_left _ hx)))) i
  cases e : ds[i]? with
  | none =>
    have hi : ds.length ≤ i := List.getElem?_eq_none_iff.mp e
    rw [List.drop_eq_nil_of_le hi] at q
    refine .inl ⟨hJ'.2 hi, q _ _ ?_⟩
    have R4 := back (T2 := [(some (.ref D), some (.own (.list acc)))]) R
    exact RelS.popN (T' := T') (R4.perm (by simpa using (List.perm_middle (a := (some (V.ref D), some (SV.own (.list acc)))) (l₁ := T') (l₂ := T)).symm))
  | some d =>
    rw [drop_at e] at q
    obtain ⟨go, yl⟩ := hJ'.1 d e
    have hi : i < ds.length := (List.getElem?_eq_some_iff.mp e).1
    refine .inr ⟨go, fun H' => ∃ s acc, RelS Z H' (wipe σ vs) ((some (.ref D), some (.own (.list acc))) :: (E ++ (T' ++ T))) s ∧ (compL g c f vs (ds.drop (i + 1)) acc s).sat (fun acc s2 => ∀ v H', RelS Z H' σ ((some v, some (.own (.list acc))) :: T) (backS vs s1 s2) → Q v H') (fun _ _ => False), fun H' ⟨s, acc, R, q⟩ => ⟨n - 1, by omega, s, acc, by omega, R, q⟩, fun x H' hy => ?_⟩
    unfold compL at q
    cases e2 : g d s with
    | none => rw [e2] at q; exact q.elim
    | some s2 =>
      rw [e2] at q
      refine ⟨(some (.ref D), some (.own (.list acc))) :: (E ++ (T' ++ T)), s, d, s2, ⟨R.1, yl x H' hy⟩, e2, fun σ2 R5 off => ⟨wipe_eq off hs, _, s2, R5, Res.sat_mono (sat_quiet (E' := fun _ _ => False) (Res.sat_bind.mp q)) (fun b s3 q H3 R6 => ?_) fun _ _ h => h.elim⟩⟩
      cases b with
      | false => exact ⟨wipeS vs s3, acc, R6.wipeAgain off hs, q⟩
      | true =>
        refine ⟨_, s3, R6, Res.sat_mono (sat_quiet (E' := fun _ _ => False) (Res.sat_bind.mp q)) (fun r s4 q y H4 R7 => ?_) fun _ _ h => h.elim⟩
        have R8 := R7.settleAny
        split at q
        · rename_i x' ex
          rw [ex] at R8
          split at q
          · rename_i hz
            obtain ⟨O, R9⟩ := id R8.2
            obtain ⟨xs, hx, rx, oD⟩ := R9.ownList (a := D) (ds := acc) (by simp)
            refine ⟨xs, hx, by rw [rx.length]; exact hz, wipeS vs s4, acc ++ [x'], ?_, q⟩
            have R10 : Rel Z H4 s4.src ((some (.ref D), some (.own (.list acc))) :: (some y, some (.sh x')) :: ((E ++ (T' ++ T)) ++ List.zip σ2 s4.sl)) := R8.2.perm (List.Perm.swap _ _ _)
            have R11 := R10.updOwn (o := .lst (xs ++ [y])) (d' := .list (acc ++ [x'])) fun O' R' z oa => by
              obtain ⟨w, e1, hw⟩ := R'.ent (some y, some (.sh x')) (by simp) _ rfl
              cases e1
              obtain ⟨ys, e3, ry⟩ := z
              rw [hx] at e3; cases e3
              exact ⟨_, upd_same, rpA_upd oa (ry.append (.cons hw .nil))⟩
            have R12 := (R11.perm (List.Perm.swap _ _ _)).pop
            have R13 : RelS Z (upd H4 D (.lst (xs ++ [y]))) σ2 ((some (.ref D), some (.own (.list (acc ++ [x'])))) :: (E ++ (T' ++ T))) s4 := ⟨R8.1, R12⟩
            exact R13.wipeAgain off hs
          · exact q.elim
        · exact q.elim
theorem snE_lc {elt iter : Expr} {ifs : List Expr} {scope : Scope} {own : List (Str × Nat)} {pos : Pos} {fi : Itf} {g : Tg} {is : List Nat} (hc : X.calm = true) (hN : X.N.Nodup) (hi : SnI X Z W tg iter fi) (ok : BlkOk X.N X.env.scope scope own) (hsub : ∀ i ∈ is, i ∈ own.map (·.2))
    (hg : ∀ (s : Shared) (H : Hp) (C : Addr) (cl : List (Str × Addr)) (fp : List Addr), SnG (X.blk s H scope (compEnvC scope cl C X.env) fp) Z tg g is)
    (ht : ∀ (s : Shared) (H : Hp) (C : Addr) (cl : List (Str × Addr)) (fp : List Addr), SnTs (X.blk s H scope (compEnvC scope cl C X.env) fp) Z W0 ifs c)
    (he : ∀ (s : Shared) (H : Hp) (C : Addr) (cl : List (Str × Addr)) (fp : List Addr), SnE (X.blk s H scope (compEnvC scope cl C X.env) fp) Z W0 elt f) (hs : ∀ x, foldedSetIterable iter X.env x = pure x := by intro _; rfl) :
    SnE X Z W (.ListComp elt [⟨tg, iter, ifs, 0⟩] scope pos) (cComp fi g c f (own.map (·.2))) := fun k =>
  pe_imp (pe_lc hc hN (hi k) ok (fun s H C cl fp => hg s H C cl fp k) (fun s H C cl fp => ht s H C cl fp k) (fun s H C cl fp => he s H C cl fp k) hs) fun σ H Q q => rd_comp hsub q
theorem snS_setLc {i : Nat} {y : Str} {py : Pos} {elt iter : Expr} {ifs : List Expr} {scope : Scope} {own : List (Str × Nat)} {pos spos : Pos} {fi : Itf} {g : Tg} {is : List Nat} (hc : X.calm = true) (hN : X.N.Nodup) (hy : X.N[i]? = some y) (hyl : X.env.scope.names.lookup y = some .local)
    (hsw : swapsWith (.ListComp elt [⟨tg, iter, ifs, 0⟩] scope pos) (some (.Name y py)) spos.line X.env = pure true) (hi : SnI X Z W tg iter fi) (ok : BlkOk X.N X.env.scope scope own) (hsub : ∀ i ∈ is, i ∈ own.map (·.2))
    (hg : ∀ (s : Shared) (H : Hp) (C : Addr) (cl : List (Str × Addr)) (fp : List Addr), SnG (X.blk s H scope (compEnvC scope cl C X.env) fp) Z tg g is)
    (ht : ∀ (s : Shared) (H : Hp) (C : Addr) (cl : List (Str × Addr)) (fp : List Addr), SnTs (X.blk s H scope (compEnvC scope cl C X.env) fp) Z W0 ifs c)
    (he : ∀ (s : Shared) (H : Hp) (C : Addr) (cl : List (Str × Addr)) (fp : List Addr), SnE (X.blk s H scope (compEnvC scope cl C X.env) fp) Z W0 elt f) (hs : ∀ x, foldedSetIterable iter X.env x = pure x := by intro _; rfl) :
    SnS X Z W (.Assign [.Name y py] (.ListComp elt [⟨tg, iter, ifs, 0⟩] scope pos) spos) (cAsg (cComp fi g c f (own.map (·.2))) (gNm i)) := fun k =>
  ps_imp (ps_setLc hc hN hy hyl hsw (hi k) ok (fun s H C cl fp => hg s H C cl fp k) (fun s H C cl fp => ht s H C cl fp k) (fun s H C cl fp => he s H C cl fp k) hs) fun D σ H ⟨T, s, R, q⟩ => by
    refine rd_comp (Z := Z) (W := W) (σ := σ) (H := H) (Q := fun x H1 => gName i x σ H1 D.nx) hsub ⟨T, s, R, Res.sat_mono (Res.sat_bind.mp q) (fun r s1 q v H1 R1 => q _ _ R1.put) fun e s h => h σ⟩
end
end Pw
set_option Elab.async false
set_option linter.all false
set_option maxRecDepth 100000
namespace Pw
open PySem PySem.Spec PyProof.Rows L2 RZ
section
variable {X : Cx} {Z : Zx} {W : WX} {e a b tg : Expr} {f fa : Ev} {fb : Vw} {H : Hp} {σ σ' : L2.St} {T T' : List Ent} {s s' : S} {L : List Ent} {src : Option Src} {O : Addr → Prop} {v : V}
theorem pi_imp {iter : Expr} {t t' : TI} (h : PI X tg iter t) (i : ∀ σ H R, t' σ H R → t σ H R) : PI X tg iter t' := ⟨fun pins s σ H R I q => h.run pins s σ H R I (i σ H R q)⟩
/-- a list, a tuple or a text is walked -/
def iAny (K : PySem.W.Frag) (tl : TE) : TI := fun σ H R => tl σ H fun x H1 => (∃ a xs, x = .ref a ∧ SqL K H1 a xs ∧ R (Itl K a) H1) ∨ (∃ a xs, x = .ref a ∧ SqT K H1 a xs ∧ R (Itt K a) H1) ∨ ∃ z, x = .str z ∧ R (Its z) H1
theorem pi_any {l : Expr} {tl : TE} (hl : PE X l tl) : PI X tg l (iAny X.K tl) := by
  refine ⟨fun pins s σ H R I h => thn (hl.run pins s σ H _ I h) fun v s1 ⟨x, H1, I1, r1, q1⟩ => ?_⟩
  have k1 : ∀ o, Inv X pins σ H1 { s1 with heap := s1.heap.push o } := fun o => I1.kept (t' := s1.toks) fun b o e => Heap.get?_push_of_some _ e
  have k2 : ∀ b, b ∈ [s1.heap.objs.size] → FpOk X pins H1 b := fun b hb => by
    cases List.mem_singleton.mp hb
    exact I1.fpOk (Nat.le_refl _) (I1.hok.fresh (Nat.le_refl _))
  rcases q1 with ⟨a, xs, rfl, hq, q⟩ | ⟨a, xs, rfl, hq, q⟩ | ⟨z, rfl, q⟩
  · cases r1
    obtain ⟨its, rv, p, hz⟩ := I1.list hq
    exact wpAny_pyIter_list p.isList ⟨_, [_], _, _, H1, rfl, k1 _, turn_list a _, ⟨_, Heap.get?_push_size _ rfl, rfl, rfl⟩, k2, q⟩
  · cases r1
    obtain ⟨its, rv, p, hz⟩ := I1.tuple hq
    exact wpAny_pyIter_tuple (show s1.heap.IsTuple a its.toArray from p) ⟨_, [_], _, _, H1, rfl, k1 _, turn_tuple a _, ⟨_, Heap.get?_push_size _ rfl, rfl, rfl⟩, k2, q⟩
  · obtain ⟨t, rfl⟩ := r1
    cases ha : z.cps.all (· < 128)
    · exact wpAny_pyIter_wide ha (pi_one (tk := s1.toks) I1 _ (turn_str _ z t _ (.inr rfl)) ⟨_, Heap.get?_push_size _ rfl, rfl, rfl⟩ q)
    · exact wpAny_pyIter_ascii ha (pi_one (tk := s1.toks) I1 _ (turn_str _ z t _ (.inl rfl)) ⟨_, Heap.get?_push_size _ rfl, rfl, rfl⟩ q)
def chars (z : Str) : List D := z.cps.toList.map fun c => .str ⟨#[c]⟩
def itemsOf : D → Option (List D)
  | .list xs => some xs
  | .tuple xs => some xs
  | .str z => some (chars z)
  | _ => none
def cIt (f : Ev) : Itf := fun s => (f s).bind fun r s1 => match r.settle with
  | .sh d => Res.opt ((itemsOf d).map shs) s1
  | .scr ns => .ok (shs (ns.map .int)) s1
  | .fns as => .ok (as.map .fn) s1
  | _ => .err
theorem shRp {x : Ent} {d : D} {w : V} (hx : (some w, some (SV.sh d)) ∈ L) (r : RelO Z H src L O) : Rp Z.K H O w d := by
  obtain ⟨w', e, z⟩ := r.ent _ hx _ rfl
  cases e; exact z
theorem RelO.atSh (r : RelO Z H src L O) {w : V} {d : D} (h : Rp Z.K H O w d) : Rel Z H src ((some w, some (.sh d)) :: L) := r.pushSh h
theorem Rp.lstK {K} (h : Rp K H O v (.list ds)) : ∃ a xs, v = .ref a ∧ SqL K H a xs ∧ RpA K H O xs ds := by
  cases h with | lst e _ r => exact ⟨_, _, rfl, SqL.of e, r⟩
theorem Rp.tupK' {K} (h : Rp K H O v (.tuple ds)) : ∃ a xs, v = .ref a ∧ SqT K H a xs ∧ RpA K H O xs ds := by
  cases h with
  | tup e _ r => exact ⟨_, _, rfl, SqT.of e, r⟩
  | tupK e1 e2 e3 e4 e5 r => exact ⟨_, _, rfl, .inr ⟨_, _, _, e1, e2, e3, e4, e5⟩, r⟩
theorem jspec_list {a : Addr} {ds : List D} (E : List Ent) (hE : (some (V.ref a), some (SV.sh (.list ds))) ∈ E) : JSpecD Z E (Itl Z.K a) ds := by
  intro H src L R hL i
  have hm := hL _ hE
  obtain ⟨O, R0⟩ := id R
  obtain ⟨a', xs, e1, hq, ra⟩ := (shRp (x := (none, none)) hm R0).lstK
  cases e1
  refine ⟨fun d hd => ?_, fun hi => ⟨xs, hq, by rw [ra.length]; exact hi⟩⟩
  obtain ⟨x, hx, rx⟩ := ra.get hd
  refine ⟨⟨xs, x, hq, hx⟩, fun y H' ⟨e, hy⟩ => ?_⟩
  subst e
  have := hy xs hq
  rw [hx] at this; cases this
  exact R0.atSh rx
theorem jspec_tup {a : Addr} {ds : List D} (E : List Ent) (hE : (some (V.ref a), some (SV.sh (.tuple ds))) ∈ E) : JSpecD Z E (Itt Z.K a) ds := by
  intro H src L R hL i
  have hm := hL _ hE
  obtain ⟨O, R0⟩ := id R
  obtain ⟨a', xs, e1, hq, ra⟩ := (shRp (x := (none, none)) hm R0).tupK'
  cases e1
  refine ⟨fun d hd => ?_, fun hi => ⟨xs, hq, by rw [ra.length]; exact hi⟩⟩
  obtain ⟨x, hx, rx⟩ := ra.get hd
  refine ⟨⟨xs, x, hq, hx⟩, fun y H' ⟨e, hy⟩ => ?_⟩
  subst e
  have := hy xs hq
  rw [hx] at this; cases this
  exact R0.atSh rx
theorem jspec_str {z : Str} (E : List Ent) : JSpecD Z E (Its z) (chars z) := by
  intro H src L R hL i
  refine ⟨fun d hd => ?_, fun hi => by show z.cps.size ≤ i; simpa [chars] using hi⟩
  unfold chars at hd
  rw [List.getElem?_map] at hd
  obtain ⟨c, hc, rfl⟩ := Option.map_eq_some_iff.mp hd
  have hlt : i < z.cps.size := by simpa using (List.getElem?_eq_some_iff.mp hc).1
  refine ⟨hlt, fun y H' ⟨e, c', hc', hy⟩ => ?_⟩
  subst e hy
  have : z.cps[i]? = some c := by simpa using hc
  rw [this] at hc'; cases hc'
  exact R.str _
theorem jspec_scr {a : Addr} {ns : List Int} (E : List Ent) (hE : (some (V.ref a), some (SV.scr ns)) ∈ E) : JSpecD Z E (Itl Z.K a) (ns.map .int) := by
  intro H src L R hL i
  have hm := hL _ hE
  obtain ⟨O, R0⟩ := id R
  obtain ⟨w, e1, a', e2, hq⟩ := R0.ent _ hm _ rfl
  cases e1; cases e2
  have hq : SqL Z.K H a (ns.map V.int) := hq.elim (fun z => .inl z.1) .inr
  refine ⟨fun d hd => ?_, fun hi => ⟨_, hq, by simpa using hi⟩⟩
  rw [List.getElem?_map] at hd
  obtain ⟨c, hc, rfl⟩ := Option.map_eq_some_iff.mp hd
  have hx : (ns.map V.int)[i]? = some (.int c) := by rw [List.getElem?_map, hc]; rfl
  refine ⟨⟨_, _, hq, hx⟩, fun y H' ⟨e, hy⟩ => ?_⟩
  subst e
  have := hy _ hq
  rw [hx] at this; cases this
  exact R.int c
theorem jspec_fns {a : Addr} {as : List Addr} (E : List Ent) (hE : (some (V.ref a), some (SV.fns as)) ∈ E) : JSpec Z E (Itt Z.K a) (as.map .fn) := by
  intro H src L R hL i
  have hm := hL _ hE
  obtain ⟨O, R0⟩ := id R
  obtain ⟨w, e1, a', e2, n, hq⟩ := R0.ent _ hm _ rfl
  cases e1; cases e2
  have hq : SqT Z.K H a (as.map V.ref) := SqT.of hq
  refine ⟨fun d hd => ?_, fun hi => ⟨_, hq, by simpa using hi⟩⟩
  rw [List.getElem?_map] at hd
  obtain ⟨c, hc, rfl⟩ := Option.map_eq_some_iff.mp hd
  have hx : (as.map V.ref)[i]? = some (.ref c) := by rw [List.getElem?_map, hc]; rfl
  refine ⟨⟨_, _, hq, hx⟩, fun y H' ⟨e, hy⟩ => ?_⟩
  subst e
  have := hy _ hq
  rw [hx] at this; cases this
  exact ⟨O, R0.push mild_fn fun s q => by cases q; exact ⟨_, rfl, rfl⟩⟩
theorem snI_any {iter : Expr} (h : SnE X Z W iter f) : SnI X Z W tg iter (cIt f) := fun k => pi_imp (pi_any (h k)) fun σ H R q => by
  rw [k]
  obtain ⟨T, s, Q, q⟩ := q
  refine ⟨T, s, Q, Res.sat_mono (Res.sat_bind.mp q) (fun r s1 q v H1 R1 => ?_) fun e s h => h⟩
  have R1 := R1.settleAny
  split at q
  · rename_i d ed
    rw [ed] at R1
    obtain ⟨ds', e, q⟩ := sat_opt q
    obtain ⟨ds, e9, e0⟩ := Option.map_eq_some_iff.mp e
    subst e0
    clear e
    have e := e9
    clear e9
    obtain ⟨O, R0⟩ := id R1.2
    have hr := shRp (x := (none, none)) (w := v) (d := d) (by simp) R0
    unfold itemsOf at e
    split at e
    · cases e
      obtain ⟨a, xs, rfl, hq, ra⟩ := hr.lstK
      exact .inl ⟨a, xs, rfl, hq, q _ H1 [_] R1 (JSpecD.up (jspec_list _ (by simp)))⟩
    · cases e
      obtain ⟨a, xs, rfl, hq, ra⟩ := hr.tupK'
      exact .inr (.inl ⟨a, xs, rfl, hq, q _ H1 [_] R1 (JSpecD.up (jspec_tup _ (by simp)))⟩)
    · cases e
      cases hr.str_inv
      exact .inr (.inr ⟨_, rfl, q _ H1 [_] R1 (JSpecD.up (jspec_str _))⟩)
    · cases e
  · rename_i ns ed
    rw [ed] at R1
    obtain ⟨O, R0⟩ := id R1.2
    obtain ⟨w, e1, a, e2, hq⟩ := R0.ent (some v, some (.scr ns)) (by simp) _ rfl
    cases e1
    subst e2
    exact .inl ⟨a, _, rfl, hq.elim (fun z => .inl z.1) .inr, q _ H1 [_] R1 (JSpecD.up (jspec_scr _ (by simp)))⟩
  · rename_i as ed
    rw [ed] at R1
    obtain ⟨O, R0⟩ := id R1.2
    obtain ⟨w, e1, a, e2, n, hq⟩ := R0.ent (some v, some (.fns as)) (by simp) _ rfl
    cases e1
    subst e2
    exact .inr (.inl ⟨a, _, rfl, SqT.of hq, q _ H1 [_] R1 (jspec_fns _ (by simp))⟩)
  · exact q.elim
/-! ### ranges -/
def rgD (lo : Int) (n : Nat) : List D := (List.range n).map fun (i : Nat) => .int (lo + i)
theorem jspec_range {lo : Int} {n : Nat} (E : List Ent) : JSpecD Z E (Itr lo n) (rgD lo n) := by
  intro H src L R hL i
  refine ⟨fun d hd => ?_, fun hi => by show n ≤ i; simpa [rgD] using hi⟩
  unfold rgD at hd
  rw [List.getElem?_map] at hd
  obtain ⟨c, hc, rfl⟩ := Option.map_eq_some_iff.mp hd
  obtain ⟨hlt, e⟩ := List.getElem?_eq_some_iff.mp hc
  have hlt : i < n := by simpa using hlt
  refine ⟨hlt, fun y H' ⟨e1, hy⟩ => ?_⟩
  subst e1 hy
  have : c = i := by simpa using e.symm
  subst this
  exact R.int _
def cRange1 (ga : Ag) : Itf := fun s => (ga s).bind fun rs s1 => match rs with
  | [.sh (.int j)] => if -(2 ^ 62) ≤ j ∧ j < 2 ^ 62 then .ok (shs (rgD 0 j.toNat)) s1 else .err
  | _ => .err
def cRange2 (ga : Ag) : Itf := fun s => (ga s).bind fun rs s1 => match rs with
  | [.sh (.int i), .sh (.int j)] => if -(2 ^ 62) ≤ i ∧ i < 2 ^ 62 ∧ -(2 ^ 62) ≤ j ∧ j < 2 ^ 62 then .ok (shs (rgD i (j - i).toNat)) s1 else .err
  | _ => .err
theorem ents_one {vs : List V} {d : D} (hl : vs.length = 1) (R : RelS Z H σ (ents vs [.sh d] ++ T) s) : ∃ v, vs = [v] ∧ (some v, some (SV.sh d)) ∈ ents vs [.sh d] := by
  match vs, hl with
  | [v], _ => exact ⟨v, rfl, by simp [ents]⟩
theorem ents_two {vs : List V} {d d' : D} (hl : vs.length = 2) (R : RelS Z H σ (ents vs [.sh d, .sh d'] ++ T) s) : ∃ v w, vs = [v, w] ∧ (some v, some (SV.sh d)) ∈ ents vs [.sh d, .sh d'] ∧ (some w, some (SV.sh d')) ∈ ents vs [.sh d, .sh d'] := by
  match vs, hl with
  | [v, w], _ => exact ⟨v, w, rfl, by simp [ents], by simp [ents]⟩
theorem snI_range1 {ga : Ag} {p pos : Pos} (hg : Gl X "range") (hm : X.mg "range" = none) (ha : SnA X Z W [a] ga) (hs : starEach [a] X.env = [(false, eval a X.env)] := by rfl) : SnI X Z W tg (.Call (.Name "range" p) [a] [] pos) (cRange1 ga) := fun k => pi_imp (pi_range1 hg hm (ha k) hs) fun σ H R q => by
  obtain ⟨T, s, Q, q⟩ := q
  refine ⟨T, s, Q, Res.sat_mono (Res.sat_bind.mp q) (fun rs s1 q vs H1 hl R1 => ?_) fun e s h => h⟩
  split at q
  · rename_i j
    split at q
    · rename_i hz
      obtain ⟨v, rfl, hv⟩ := ents_one (by simpa using hl) R1
      obtain ⟨O, R0⟩ := id R1.2
      have hr := shRp (x := (none, none)) (List.mem_append_left _ (List.mem_append_left _ hv)) R0
      cases hr.int_inv
      exact ⟨j, rfl, hz.1, hz.2, q _ H1 (ents _ _) R1 (JSpecD.up (jspec_range _))⟩
    · exact q.elim
  · exact q.elim
theorem snI_range2 {ga : Ag} {p pos : Pos} (hg : Gl X "range") (hm : X.mg "range" = none) (ha : SnA X Z W [a, b] ga) (hs : starEach [a, b] X.env = [(false, eval a X.env), (false, eval b X.env)] := by rfl) (hs2 : starEach [b] X.env = [(false, eval b X.env)] := by rfl) : SnI X Z W tg (.Call (.Name "range" p) [a, b] [] pos) (cRange2 ga) := fun k => pi_imp (pi_range2 hg hm (ha k) hs hs2) fun σ H R q => by
  obtain ⟨T, s, Q, q⟩ := q
  refine ⟨T, s, Q, Res.sat_mono (Res.sat_bind.mp q) (fun rs s1 q vs H1 hl R1 => ?_) fun e s h => h⟩
  split at q
  · rename_i i j
    split at q
    · rename_i hz
      obtain ⟨v, w, rfl, hv, hw⟩ := ents_two (by simpa using hl) R1
      obtain ⟨O, R0⟩ := id R1.2
      have hr := shRp (x := (none, none)) (List.mem_append_left _ (List.mem_append_left _ hv)) R0
      have hr2 := shRp (x := (none, none)) (List.mem_append_left _ (List.mem_append_left _ hw)) R0
      cases hr.int_inv
      cases hr2.int_inv
      exact ⟨i, j, rfl, hz, q _ H1 (ents _ _) R1 (JSpecD.up (jspec_range _))⟩
    · exact q.elim
  · exact q.elim
/-! ### enumerate, zip -/
def enumD (xs : List D) : List D := xs.zipIdx.map fun p => .tuple [.int (p.2 : Nat), p.1]
def cEnum (ga : Ag) : Itf := fun s => (ga s).bind fun rs s1 => match rs with
  | [.sh (.list xs)] => .ok (shs (enumD xs)) s1
  | _ => .err
theorem Rel.newPair {p : Addr} {v w : V} {d d' : D} (R : Rel Z H src L) (hp : H p = none) (h : ∀ O, RelO Z H src L O → Rp Z.K H O v d ∧ Rp Z.K H O w d') : Rel Z (upd H p (.tup [v, w])) src ((some (.ref p), some (.sh (.tuple [d, d']))) :: L) := R.newTup hp fun O r => .cons (h O r).1 (.cons (h O r).2 .nil)
theorem jspec_enum {a : Addr} {ds : List D} (E : List Ent) (hE : (some (V.ref a), some (SV.sh (.list ds))) ∈ E) : JSpecD Z E (Ite Z.K a) (enumD ds) := by
  intro H src L R hL i
  have hm := hL _ hE
  obtain ⟨O, R0⟩ := id R
  obtain ⟨a', xs, e1, hq, ra⟩ := (shRp (x := (none, none)) hm R0).lstK
  cases e1
  refine ⟨fun d hd => ?_, fun hi => ⟨xs, hq, by rw [ra.length]; simpa [enumD] using hi⟩⟩
  unfold enumD at hd
  rw [List.getElem?_map, List.getElem?_zipIdx] at hd
  simp only [Option.map_map, Option.map_eq_some_iff, Function.comp, Nat.zero_add] at hd
  obtain ⟨d0, hd0, rfl⟩ := hd
  obtain ⟨x, hx, rx⟩ := ra.get hd0
  refine ⟨⟨xs, x, hq, hx⟩, fun y H' ⟨p, z, e, hp, e2, hy⟩ => ?_⟩
  subst e e2
  have := hy xs hq
  rw [hx] at this; cases this
  refine R.newPair hp fun O' R' => ⟨.int _, ?_⟩
  obtain ⟨a', xs', e1, hq', ra'⟩ := (shRp (x := (none, none)) hm R').lstK
  cases e1
  obtain ⟨x', hx', rx'⟩ := ra'.get hd0
  have := hy xs' hq'
  rw [hx'] at this; cases this
  exact rx'
theorem snI_enum {ga : Ag} {p pos tpos : Pos} {elts : List Expr} {kk : Nat} (hg : Gl X "enumerate") (hm : X.mg "enumerate" = none) (ha : SnA X Z W [a] ga) (hs : starEach [a] X.env = [(false, eval a X.env)] := by rfl) : SnI X Z W (.Tuple elts kk tpos) (.Call (.Name "enumerate" p) [a] [] pos) (cEnum ga) := fun k => pi_imp (pi_enum hg hm (ha k) hs) fun σ H R q => by
  rw [k]
  obtain ⟨T, s, Q, q⟩ := q
  refine ⟨T, s, Q, Res.sat_mono (Res.sat_bind.mp q) (fun rs s1 q vs H1 hl R1 => ?_) fun e s h => h⟩
  split at q
  · rename_i ds
    obtain ⟨v, rfl, hv⟩ := ents_one (by simpa using hl) R1
    obtain ⟨O, R0⟩ := id R1.2
    obtain ⟨a', xs, rfl, hq, ra⟩ := (shRp (x := (none, none)) (List.mem_append_left _ (List.mem_append_left _ hv)) R0).lstK
    exact ⟨a', xs, rfl, hq, q _ H1 (ents _ _) R1 (JSpecD.up (jspec_enum _ hv))⟩
  · exact q.elim
def zipD (xs ys : List D) : List D := (List.zip xs ys).map fun p => .tuple [p.1, p.2]
def cZip (ga : Ag) : Itf := fun s => (ga s).bind fun rs s1 => match rs with
  | [.sh (.list xs), .sh (.list ys)] => .ok (shs (zipD xs ys)) s1
  | [.sh (.tuple xs), .sh (.tuple ys)] => .ok (shs (zipD xs ys)) s1
  | _ => .err
theorem zip_some {α β : Type} : ∀ {xs : List α} {ys : List β} {i : Nat} {p : α × β}, (List.zip xs ys)[i]? = some p → xs[i]? = some p.1 ∧ ys[i]? = some p.2
  | [], ys, i, p, h => by simp at h
  | _ :: _, [], i, p, h => by simp at h
  | x :: xs, y :: ys, 0, p, h => by simp at h; subst h; exact ⟨rfl, rfl⟩
  | x :: xs, y :: ys, i + 1, p, h => by simpa using zip_some (xs := xs) (ys := ys) (i := i) (by simpa using h)
theorem jspec_zip {a b : Addr} {ds es : List D} (E : List Ent) (hE : (some (V.ref a), some (SV.sh (.list ds))) ∈ E) (hF : (some (V.ref b), some (SV.sh (.list es))) ∈ E) : JSpecD Z E (Itz Z.K a b) (zipD ds es) := by
  intro H src L R hL i
  have hm := hL _ hE
  have hn := hL _ hF
  obtain ⟨O, R0⟩ := id R
  obtain ⟨a', xs, e1, hq, ra⟩ := (shRp (x := (none, none)) hm R0).lstK
  obtain ⟨b', ys, e2, hq2, rb⟩ := (shRp (x := (none, none)) hn R0).lstK
  cases e1; cases e2
  refine ⟨fun d hd => ?_, fun hi => ⟨xs, ys, hq, hq2, by rw [ra.length, rb.length]; simp [zipD] at hi; omega⟩⟩
  unfold zipD at hd
  rw [List.getElem?_map] at hd
  obtain ⟨⟨d1, d2⟩, hd0, rfl⟩ := Option.map_eq_some_iff.mp hd
  obtain ⟨hd1, hd2⟩ := zip_some hd0
  obtain ⟨x, hx, rx⟩ := ra.get hd1
  obtain ⟨y, hy, ry⟩ := rb.get hd2
  refine ⟨⟨xs, ys, x, y, hq, hq2, hx, hy⟩, fun u H' ⟨p, z, z', e, hp, e2, h1, h2⟩ => ?_⟩
  subst e e2
  have t1 := h1 xs hq
  rw [hx] at t1; cases t1
  have t2 := h2 ys hq2
  rw [hy] at t2; cases t2
  refine R.newPair hp fun O' R' => ?_
  obtain ⟨a', xs', e1, hq', ra'⟩ := (shRp (x := (none, none)) hm R').lstK
  obtain ⟨b', ys', e2, hq2', rb'⟩ := (shRp (x := (none, none)) hn R').lstK
  cases e1; cases e2
  obtain ⟨x', hx', rx'⟩ := ra'.get hd1
  obtain ⟨y', hy', ry'⟩ := rb'.get hd2
  have t1 := h1 xs' hq'
  rw [hx'] at t1; cases t1
  have t2 := h2 ys' hq2'
  rw [hy'] at t2; cases t2
  exact ⟨rx', ry'⟩
theorem jspec_zipT {a b : Addr} {ds es : List D} (E : List Ent) (hE : (some (V.ref a), some (SV.sh (.tuple ds))) ∈ E) (hF : (some (V.ref b), some (SV.sh (.tuple es))) ∈ E) : JSpecD Z E (ItzT Z.K a b) (zipD ds es) := by
  intro H src L R hL i
  have hm := hL _ hE
  have hn := hL _ hF
  obtain ⟨O, R0⟩ := id R
  obtain ⟨a', xs, e1, hq, ra⟩ := (shRp (x := (none, none)) hm R0).tupK'
  obtain ⟨b', ys, e2, hq2, rb⟩ := (shRp (x := (none, none)) hn R0).tupK'
  cases e1; cases e2
  refine ⟨fun d hd => ?_, fun hi => ⟨xs, ys, hq, hq2, by rw [ra.length, rb.length]; simp [zipD] at hi; omega⟩⟩
  unfold zipD at hd
  rw [List.getElem?_map] at hd
  obtain ⟨⟨d1, d2⟩, hd0, rfl⟩ := Option.map_eq_some_iff.mp hd
  obtain ⟨hd1, hd2⟩ := zip_some hd0
  obtain ⟨x, hx, rx⟩ := ra.get hd1
  obtain ⟨y, hy, ry⟩ := rb.get hd2
  refine ⟨⟨xs, ys, x, y, hq, hq2, hx, hy⟩, fun u H' ⟨p, z, z', e, hp, e2, h1, h2⟩ => ?_⟩
  subst e e2
  have t1 := h1 xs hq
  rw [hx] at t1; cases t1
  have t2 := h2 ys hq2
  rw [hy] at t2; cases t2
  refine R.newPair hp fun O' R' => ?_
  obtain ⟨a', xs', e1, hq', ra'⟩ := (shRp (x := (none, none)) hm R').tupK'
  obtain ⟨b', ys', e2, hq2', rb'⟩ := (shRp (x := (none, none)) hn R').tupK'
  cases e1; cases e2
  obtain ⟨x', hx', rx'⟩ := ra'.get hd1
  obtain ⟨y', hy', ry'⟩ := rb'.get hd2
  have t1 := h1 xs' hq'
  rw [hx'] at t1; cases t1
  have t2 := h2 ys' hq2'
  rw [hy'] at t2; cases t2
  exact ⟨rx', ry'⟩
theorem snI_zip {ga : Ag} {p pos tpos : Pos} {elts : List Expr} {kk : Nat} (hg : Gl X "zip") (hm : X.mg "zip" = none) (ha : SnA X Z W [a, b] ga) (hs : starEach [a, b] X.env = (false, eval a X.env) :: starEach [b] X.env := by rfl) (hpl : (backTo pos (starEach [b] X.env)).any (·.1) = false := by rfl) : SnI X Z W (.Tuple elts kk tpos) (.Call (.Name "zip" p) [a, b] [] pos) (cZip ga) := fun k => pi_imp (pi_zipA hg hm (ha k) hs hpl) fun σ H R q => by
  rw [k]
  obtain ⟨T, s, Q, q⟩ := q
  refine ⟨T, s, Q, Res.sat_mono (Res.sat_bind.mp q) (fun rs s1 q vs H1 hl R1 => ?_) fun e s h => h⟩
  split at q
  · obtain ⟨v, w, rfl, hv, hw⟩ := ents_two (by simpa using hl) R1
    obtain ⟨O, R0⟩ := id R1.2
    obtain ⟨a', xs, rfl, hq, ra⟩ := (shRp (x := (none, none)) (List.mem_append_left _ (List.mem_append_left _ hv)) R0).lstK
    obtain ⟨b', ys, rfl, hq2, rb⟩ := (shRp (x := (none, none)) (List.mem_append_left _ (List.mem_append_left _ hw)) R0).lstK
    exact ⟨a', b', xs, ys, rfl, .inl ⟨hq, hq2, q _ H1 (ents _ _) R1 (JSpecD.up (jspec_zip _ hv hw))⟩⟩
  · obtain ⟨v, w, rfl, hv, hw⟩ := ents_two (by simpa using hl) R1
    obtain ⟨O, R0⟩ := id R1.2
    obtain ⟨a', xs, rfl, hq, ra⟩ := (shRp (x := (none, none)) (List.mem_append_left _ (List.mem_append_left _ hv)) R0).tupK'
    obtain ⟨b', ys, rfl, hq2, rb⟩ := (shRp (x := (none, none)) (List.mem_append_left _ (List.mem_append_left _ hw)) R0).tupK'
    exact ⟨a', b', xs, ys, rfl, .inr ⟨hq, hq2, q _ H1 (ents _ _) R1 (JSpecD.up (jspec_zipT _ hv hw))⟩⟩
  · exact q.elim
end
end Pw
set_option Elab.async false
set_option linter.all false
set_option maxRecDepth 100000
namespace Pw
open PySem PySem.Spec PyProof.Rows L2
section
variable {Z : Zx} {H H' : Hp} {O : Addr → Prop} {src src' : Option Src} {L M Ar : List Ent} {v : V} {r : SV}
/-- the callee's frame of reference -/
def Zx.deep (Z : Zx) (H : Hp) (O : Addr → Prop) : Zx := ⟨Z.K, H, O, Z.A, none⟩
theorem inA_own (h : SrcOk Z.A H O src) : ∀ b, InA Z.A b → O b := fun b i => by
  cases src <;> cases e : Z.A <;> rw [e] at h i <;> first | exact i.elim | exact h.elim | skip
  obtain ⟨_, o1, o2, _⟩ := h
  rcases i with rfl | rfl
  · exact o1
  · exact o2
/-- arguments that own nothing, as the callee's world -/
theorem RelO.enter (R : RelO Z H src (Ar ++ L) O) (hm : ∀ e ∈ Ar, Mild e) (hx : ∀ e ∈ Ar, ∀ fs, e.2 ≠ some (.exn fs)) : RelO (Z.deep H O) H src Ar O := by
  refine ⟨fun _ z => z, fun e he s q => ?_, (List.pairwise_append.mp R.ap).1, R.src, fun b x e _ => e, R.live⟩
  obtain ⟨v, e1, k⟩ := R.ent e (List.mem_append_left _ he) s q
  refine ⟨v, e1, ?_⟩
  cases s with
  | own d => exact absurd q (hm e he d)
  | sh d => exact k
  | fn a => exact k
  | src => exact k
  | fns as => exact k
  | scr ns => exact k
  | exn fs => exact absurd q (hx e he fs)
  | exd fs => exact k
/-- the way back -/
theorem Rel.back (R : RelO Z H src (Ar ++ L) O) (R1 : Rel (Z.deep H O) H' src' ((some v, some r) :: M)) : Rel Z H' src' ((some v, some r) :: L) := by
  obtain ⟨O1, r1⟩ := R1
  have hsub : ∀ b, (O b ∨ ∃ d, r = .own d ∧ v = .ref b) → O1 b := fun b z => by
    rcases z with z | ⟨d, rfl, rfl⟩
    · exact r1.oc b z
    · obtain ⟨w, e1, a, e2, oa, _⟩ := r1.ent _ List.mem_cons_self _ rfl
      cases e1; cases e2; exact oa
  have hin := inA_own R.src
  have keep : ∀ b x, H b = some x → ¬ InA Z.A b → H' b = some x := r1.base
  have fresh : ∀ b d, r = .own d → v = .ref b → H b = none := fun b d e1 e2 => by
    subst e1 e2
    obtain ⟨w, e1, a, e2, oa, fa, _⟩ := r1.ent _ List.mem_cons_self _ rfl
    cases e1; cases e2; exact fa.1
  have t : Stp H H' O (fun b => O b ∨ ∃ d, r = .own d ∧ v = .ref b) (InA Z.A) :=
    ⟨keep, hin, fun b z => z.elim .inl fun ⟨d, e1, e2⟩ => .inr (fresh b d e1 e2), fun b z _ => .inl z⟩
  refine ⟨_, fun b z => .inl (R.oc b z), fun e he => ?_, List.pairwise_cons.mpr ⟨fun f hf => ?_, (List.pairwise_append.mp R.ap).2.1⟩, ?_, fun b x e n => keep b x (R.base b x e n) n, fun b z => r1.live b (hsub b z)⟩
  · rcases List.mem_cons.mp he with rfl | he
    · intro s q
      cases q
      obtain ⟨w, e1, k⟩ := r1.ent _ List.mem_cons_self _ rfl
      have e1 : some v = some w := e1
      cases e1
      refine ⟨v, rfl, ?_⟩
      cases r with
      | sh d => exact Rp.less k hsub
      | fn a => exact k
      | src => exact k
      | exn fs => obtain ⟨a, dd, xs, z, _⟩ := k; cases z
      | scr ns =>
        obtain ⟨a, e, q⟩ := k
        exact ⟨a, e, q.imp (fun q => ⟨q.1, fun z => q.2 (hsub _ z)⟩) id⟩
      | fns as => obtain ⟨a, e, n, q⟩ := k; exact ⟨a, e, fun z => n (hsub _ z), q⟩
      | exd fs =>
        obtain ⟨a, xs, e, n, q, z⟩ := k
        exact ⟨a, xs, e, fun y => n (hsub _ y), q, paired_imp z fun p q z => ⟨z.1, Rp.less z.2 hsub⟩⟩
      | own d =>
        obtain ⟨a, rfl, oa, fa, na, ra⟩ := k
        have ha : H a = none := fa.1
        refine ⟨a, rfl, .inr ⟨d, rfl, rfl⟩, ⟨R.fresh0 ha na, fun z => fa.2 (R.oc a z)⟩, na, ?_⟩
        cases d <;> first | exact ra.elim | skip
        · obtain ⟨xs, e, z⟩ := ra; exact ⟨xs, e, z.less hsub⟩
        · obtain ⟨xs, e, z⟩ := ra; exact ⟨xs, e, z.less hsub⟩
    · refine t.ent (fun d a h1 h2 z => ?_) (R.ent e (List.mem_append_right _ he))
      obtain ⟨w, e1, a', e2, oa, fa, na, _⟩ := R.ent e (List.mem_append_right _ he) _ h1
      rw [h2] at e1; cases e1; cases e2
      exact na z
  · intro d1 d2 a h1 h2 h3 h4
    have h3 : some v = some (V.ref a) := h3
    have h1 : some r = some (SV.own d1) := h1
    cases h3; cases h1
    obtain ⟨w, e1, a', e2, oa, _⟩ := R.ent f (List.mem_append_right _ hf) _ h2
    rw [h4] at e1; cases e1; cases e2
    obtain ⟨x, e⟩ := R.live _ oa
    rw [fresh _ _ rfl rfl] at e; cases e
  · have q : SrcOk Z.A H' O1 src' := r1.src
    have q0 := R.src
    cases src' <;> cases e : Z.A <;> rw [e] at q <;> first | exact q | exact q.elim | skip
    obtain ⟨n, o1, o2, h1, h2⟩ := q
    exact ⟨n, .inl (hin _ (by rw [e]; exact .inl rfl)), .inl (hin _ (by rw [e]; exact .inr rfl)), h1, h2⟩
theorem Rel.trivN (n : Nat) (h : Rel Z H src L) : Rel Z H src (List.replicate n (none, none) ++ L) := by
  induction n with
  | zero => exact h
  | succ n ih => rw [List.replicate_succ]; exact ih.triv
end
/-! ### functions over plain data -/
theorem zx_deep {Z : Zx} {H : Hp} {O : Addr → Prop} : (Z.deep H O).Xn = none := rfl
abbrev Fd := List SV → Option Src → Res SV
def padS (n : Nat) (as : List SV) : List (Option SV) := as.map some ++ List.replicate (n - as.length) none
def runFn (n : Nat) (m : Sm) : Fd := fun as src => (m ⟨padS n as, src⟩).bind fun fl s => match fl with
  | .ret r => .ok r s
  | .nx => .ok (.sh .none) s
  | _ => .err
def okA : List SV → Bool
  | [] => true
  | .own _ :: _ => false
  | .exn _ :: _ => false
  | _ :: r => okA r
theorem okA_mem : ∀ {vs : List V} {as : List SV}, okA as = true → ∀ e ∈ ents vs as, (∀ d, e.2 ≠ some (.own d)) ∧ ∀ fs, e.2 ≠ some (.exn fs)
  | [], _, _, e, he => by simp [ents] at he
  | _ :: _, [], _, e, he => by simp [ents] at he
  | v :: vs, a :: as, h, e, he => by
    simp only [ents, List.map_cons, List.zip_cons_cons, List.mem_cons] at he
    rcases he with rfl | he
    · constructor
      · intro d q
        cases q
        simp [okA] at h
      · intro d q
        cases q
        simp [okA] at h
    · refine okA_mem (vs := vs) (as := as) ?_ e he
      cases a <;> first | exact h | (simp [okA] at h)
def spF (K : PySem.W.Frag) (np : Nat) (F : Fd) : Sp := fun vs H Q E => vs.length = np ∧ ∃ (Z : Zx) (src : Option Src) (as : List SV) (L : List Ent), Z.K = K ∧ vs.length = as.length ∧ okA as = true ∧ Rel Z H src (ents vs as ++ L) ∧
  (F as src).sat (fun r s' => ∀ v H', Rel Z H' s'.src ((some v, some r) :: L) → Q v H') fun e s' => ∀ dd H', Rel Z H' s'.src ((some (.ref dd), some (.exd e.fs)) :: L) → E (.ref e.cls) (some dd) H'
/-- what a def promises, under no repr -/
structure FnG (P : Program) (w : World) (K : PySem.W.Frag) (mg : Str → Option Value) (base : Heap) (k : Nat) (f : Addr) (fd : FuncData) (ps : List Str) (sp : Sp) : Prop where
  cnt : ∀ vs H Q E, sp vs H Q E → vs.length = ps.length
  go : ∀ (A : Around) (outer : List Env) (s : Shared) (H : Hp) (args : Args) (us : List Value) (vs : List V) (Q : VK) (E : XK), Room k A → A.guards = some [] →
    Env0 P w K mg base A outer s H → BindsTo s fd args (ps.zip us) → Vals vs us → sp vs H Q E → codeAny (model P w) A (.call (.ref f) args) (CR (L2.CX P w) outer P w H s Q E) s
section
variable {P : Program} {w : World} {K : PySem.W.Frag} {mg : Str → Option Value} {base : Heap} {k j : Nat} {f : Addr} {fd : FuncData} {ps N : List Str} {sp sp' : Sp} {x qual : Str} {st : Stmt}
theorem FnG.mono (F : FnG P w K mg base j f fd ps sp) (h : j ≤ k) : FnG P w K mg base k f fd ps sp := ⟨F.cnt, fun A outer s H args us vs Q E hr => F.go A outer s H args us vs Q E (hr.mono h)⟩
theorem FnG.imp (F : FnG P w K mg base k f fd ps sp) (h : ∀ vs H Q E, sp' vs H Q E → sp vs H Q E) : FnG P w K mg base k f fd ps sp' :=
  ⟨fun vs H Q E q => F.cnt vs H Q E (h _ _ _ _ q), fun A outer s H args us vs Q E hr hg he hb hv hs => F.go A outer s H args us vs Q E hr hg he hb hv (h _ _ _ _ hs)⟩
/-- a def by its body, raw -/
theorem fnG_raw (F : Fun K x qual st f fd) (S : FnScope N ps (defScope st)) (cnt : ∀ vs H Q E, sp vs H Q E → vs.length = ps.length)
    (hb : ∀ (cdv : Value) (A : Around) (outer : List Env) (s : Shared) (H : Hp) (vs : List V) (Q : VK) (E : XK), Room k (A.deeper (envOfC qual (defScope st) s.heap.objs.size f cdv)) → A.guards = some [] → sp vs H Q E →
      ∃ t, PSs (cxOf (L2.CX P w) P w K mg base N qual (defScope st) f cdv A outer s H E) (defBody st) t ∧ t { nx := fun _ H' => Q .non H', rt := Q } (start N vs) H) : FnG P w K mg base (k + 1) f fd ps sp := by
  obtain ⟨oc, od, kV, doc, pm, an, cdv, ct, osl, rfl, lk, hcd⟩ := F.ex
  refine ⟨cnt, fun A outer s H args us vs Q E hr hg e0 hbi r hsp => ?_⟩
  have hkind : ∀ y ∈ ps.zip us, (defScope st).names.lookup y.1 = some .local ∨ ((defScope st).names.lookup y.1 = some .cell ∧ ((cellsFrom (s.heap.objs.size + 1) (defScope st).names []).lookup y.1).isSome = true) := by
    rintro ⟨n, v⟩ hy
    refine (S.par n (List.of_mem_zip hy).1).imp id fun q => ⟨q, PySem.W.cellsFrom_some _ _ _ (.inl q)⟩
  have kin : ∀ b o, base.get? b = some o → s.heap.get? b = some o := fun b o e => (e0.bs b o e).1
  have KX : K.In s.heap := e0.mod.kin.keeps kin
  refine codeAny_call_function hr.depth (KX _ _ lk) rfl S.co S.gen rfl (PySem.W.codeRec_of KX hcd) (hbi _ _ _ _ (wpAny_newFunctionEnv_cells S.kind hkind fun env he s1 y => ?_))
  subst he
  refine ⟨(e0.mod.nolimit.keeps kin).keeps y.toInCall.keep, codeAny_func ?_⟩
  obtain ⟨t, ht, hq⟩ := hb cdv A outer s H vs Q E (hr.deeper _) hg hsp
  refine wpAny_mono (ht.run [] s1 (start N vs) H _ (inv_start S hr.hd e0 (cnt _ _ _ _ hsp) r y) hq) (fun fl s' hs => ?_) fun e s' hs => hs
  have done : ∀ {σ' : L2.St} {H' : Hp} {v : V} {u : Value}, Inv (cxOf (L2.CX P w) P w K mg base N qual (defScope st) f cdv A outer s H E) [] σ' H' s' → RelV v u → Q v H' → CE outer P w H s Q u s' := by
    intro σ' H' v u J rv q
    exact ⟨v, H', J.os, J.bare, J.base, J.hok, rv, q⟩
  match fl, hs with
  | .ret u, ⟨v, σ', H', J, rv, q⟩ => exact done J rv q
  | .next, ⟨σ', H', J, q⟩ => exact done (v := V.non) (u := Value.none) J rfl q
  | .brk, ⟨_, _, _, q⟩ => exact q.elim
  | .cont, ⟨_, _, _, q⟩ => exact q.elim
theorem rel_pad {Z : Zx} {H : Hp} {src : Option Src} {n : Nat} : ∀ {vs : List V} {as : List SV}, vs.length = as.length → Rel Z H src (ents vs as) → Rel Z H src (List.zip (vs.map some ++ List.replicate n none) (as.map some ++ List.replicate n none)) := by
  intro vs as hl R
  rw [List.zip_append (by simpa using hl)]
  have e : List.zip (List.replicate n (none : Option V)) (List.replicate n (none : Option SV)) = List.replicate n (none, none) := by
    rw [List.zip_replicate, Nat.min_self]
  rw [e]
  exact (R.trivN n).perm List.perm_append_comm
/-- THE RULE: a def by what its body computes -/
theorem fnG_of {m : Sm} (F : Fun K x qual st f fd) (S : FnScope N ps (defScope st))
    (hb : ∀ (cdv : Value) (A : Around) (outer : List Env) (s : Shared) (H : Hp) (E : XK) (Z : Zx), Z.Xn = none → Room k (A.deeper (envOfC qual (defScope st) s.heap.objs.size f cdv)) → A.guards = some [] →
      SnB (cxOf (L2.CX P w) P w K mg base N qual (defScope st) f cdv A outer s H E) Z (fun cls d _ H => E cls d H) (defBody st) m) : FnG P w K mg base (k + 1) f fd ps (spF K ps.length (runFn N.length m)) := by
  refine fnG_raw F S (fun vs H Q E h => h.1) fun cdv A outer s H vs Q E hr hg h => ?_
  obtain ⟨hn, Z, src, as, L, zk, hl, ok, R, q⟩ := h
  obtain ⟨O, RO⟩ := R
  refine ⟨_, hb cdv A outer s H E (Z.deep H O) rfl hr hg zk.symm, [], ⟨padS N.length as, src⟩, ⟨?_, ?_⟩, ?_⟩
  · show (start N vs).length = (padS N.length as).length
    rw [L2.start, padS]
    simp [hl]
  · have R2 : Rel (Z.deep H O) H src (ents vs as) := ⟨O, RO.enter (fun e he => (okA_mem ok e he).1) fun e he => (okA_mem ok e he).2⟩
    have R3 := rel_pad (n := N.length - vs.length) hl R2
    have e : List.zip (start N vs) (padS N.length as) = List.zip (vs.map some ++ List.replicate (N.length - vs.length) none) (as.map some ++ List.replicate (N.length - vs.length) none) := by
      rw [L2.start, padS, hl]
    show Rel _ _ _ ([] ++ List.zip (start N vs) (padS N.length as))
    rw [List.nil_append, e]
    exact R3
  · refine Res.sat_mono (Res.sat_bind.mp q) (fun fl s1 q => ?_) fun e s1 q σ dd H1 R1 => q dd H1 (Rel.back RO R1.2)
    cases fl with
    | ret r => exact fun v σ H1 R1 => q v H1 (Rel.back RO R1.2)
    | nx => exact fun σ H1 R1 => q _ H1 (Rel.back RO (Rel.non R1.2))
    | bk => exact q.elim
    | ct => exact q.elim
end
/-! ### calls -/
section
variable {X : Cx} {Z : Zx} {W : WX} {e : Expr} {es : List Expr} {F : Fd} {ga : Ag} {k : Nat} {f : Addr} {fd : FuncData} {ps : List Str} {sp : Sp} {x : Str} {p pos : Pos} {t : TA} {H : Hp} {σ : L2.St}
def tG (sp : Sp) (E : L2.St → XK) (t : TA) : TE := fun σ H Q => t σ H fun vs H1 => sp vs H1 Q (E σ)
theorem runG {pins : List (Addr × Obj)} {s : Shared} {Q : VK} {us : List Value} {vs : List V} (G : FnG X.prog X.w X.K X.mg X.base k f fd ps sp) (hr : Room k X.A) (hg : X.A.guards = some []) (hb : Binds X.K fd ps []) (tk : Takes X W)
    (I : Inv X pins σ H s) (r : Vals vs us) (h : sp vs H Q (WE W σ)) : wpAny (model X.prog X.w) X.A (call (.ref f) us) (EP X pins σ Q) X.xe s := by
  have b := hb s us I.kIn (by rw [List.append_nil, ← r.length]; exact G.cnt _ _ _ _ h)
  rw [List.append_nil] at b
  refine wpAny_call (codeAny_mono (G.go X.A X.stack s H ⟨us, []⟩ us vs Q _ hr hg I.env0 b r h) fun res s' hq => ?_)
  match res, hq with
  | .error e, hq => exact passAt tk σ pins H s e s' I hq
  | .ok (.ret u), hq => exact I.after hq
theorem pe_G (G : FnG X.prog X.w X.K X.mg X.base k f fd ps sp) (hr : Room k X.A) (hgd : X.A.guards = some []) (hg : Gl X x) (hm : X.mg x = some (.ref f)) (hk : PySem.W.keepIn X.K (.ref f) = true) (hb : Binds X.K fd ps []) (tk : Takes X W)
    (ha : PA X (e :: es) t) (hdb : (x == ("__debug__" : Str)) = false := by decide) (he : starEach (e :: es) X.env = (false, eval e X.env) :: starEach es X.env := by rfl) (hpl : (backTo pos (starEach es X.env)).any (·.1) = false := by rfl) :
    PE X (.Call (.Name x p) (e :: es) [] pos) (tG sp (WE W) t) :=
  ⟨fun pins s σ H Q I h => wpAny_Call_Name_kw (ld_glob I hg hm (PySem.W.callWith_K (h₀ := X.base) I.ok.mod.kin hk (thn (ha.run pos pins s σ H _ I h) fun us s1 ⟨vs, H1, I1, r, q⟩ => ⟨I1.kIn, runG G hr hgd hb tk I1 r q⟩) he hpl) hdb)⟩
theorem pe_G0 (G : FnG X.prog X.w X.K X.mg X.base k f fd ps sp) (hr : Room k X.A) (hgd : X.A.guards = some []) (hg : Gl X x) (hm : X.mg x = some (.ref f)) (hk : PySem.W.keepIn X.K (.ref f) = true) (hb : Binds X.K fd ps []) (tk : Takes X W)
    (hdb : (x == ("__debug__" : Str)) = false := by decide) : PE X (.Call (.Name x p) [] [] pos) (tG sp (WE W) tNil) :=
  ⟨fun pins s σ H Q I h => wpAny_Call_Name_kw (ld_glob I hg hm (PySem.W.callWith_K0 I.kIn hk (runG (us := []) G hr hgd hb tk I .nil h)) hdb)⟩
def appF (n : Nat) (F : Fd) (rs : List SV) (s : S) : Res SV := if rs.length = n ∧ okA rs = true then match F rs s.src with
  | .ok r s2 => .ok r { s with src := s2.src }
  | .exc e s2 => .exc e { s with src := s2.src }
  | .err => .err
  else .err
def cCall (n : Nat) (F : Fd) (ga : Ag) : Ev := fun s => (ga s).bind fun rs s1 => appF n F rs s1
theorem spF_of {vs : List V} {rs : List SV} {T : List Ent} {s : S} {Q : VK} (zk : Z.K = X.K) (hl : vs.length = rs.length) (R : RelS Z H σ (ents vs rs ++ T) s)
    (q : (appF ps.length F rs s).sat (fun r s' => ∀ v H', RelS Z H' σ ((some v, some r) :: T) s' → Q v H') (ExP Z σ T W)) : spF X.K ps.length F vs H Q (WE W σ) := by
  unfold appF at q
  split at q
  · rename_i ok
    obtain ⟨hn, ok⟩ := ok
    refine ⟨hl.trans hn, Z, s.src, rs, T ++ List.zip σ s.sl, zk, hl, ok, by rw [← List.append_assoc]; exact R.2, ?_⟩
    cases e : F rs s.src with
    | ok r s2 => rw [e] at q; exact fun v H' R' => q v H' ⟨R.1, R'⟩
    | exc ex s2 => rw [e] at q; exact fun dd H' R' => q dd H' ⟨R.1, R'⟩
    | err => rw [e] at q; exact q.elim
  · exact q.elim
theorem snE_call (G : FnG X.prog X.w X.K X.mg X.base k f fd ps (spF X.K ps.length F)) (hr : Room k X.A) (hgd : X.A.guards = some []) (hg : Gl X x) (hm : X.mg x = some (.ref f)) (hk : PySem.W.keepIn X.K (.ref f) = true) (hb : Binds X.K fd ps []) (tk : Takes X W)
    (ha : SnA X Z W (e :: es) ga) (hdb : (x == ("__debug__" : Str)) = false := by decide) (he : starEach (e :: es) X.env = (false, eval e X.env) :: starEach es X.env := by rfl) (hpl : (backTo pos (starEach es X.env)).any (·.1) = false := by rfl) :
    SnE X Z W (.Call (.Name x p) (e :: es) [] pos) (cCall ps.length F ga) := fun zk => pe_imp (pe_G G hr hgd hg hm hk hb tk (ha zk) hdb he hpl) fun σ H Q ⟨T, s, R, q⟩ => by
  refine ⟨T, s, R, Res.sat_mono (Res.sat_bind.mp q) (fun rs s1 q vs H1 hl R1 => ?_) fun e s h => h⟩
  exact spF_of zk.symm hl R1 q
theorem snE_call0 (G : FnG X.prog X.w X.K X.mg X.base k f fd ps (spF X.K ps.length F)) (hr : Room k X.A) (hgd : X.A.guards = some []) (hg : Gl X x) (hm : X.mg x = some (.ref f)) (hk : PySem.W.keepIn X.K (.ref f) = true) (hb : Binds X.K fd ps []) (tk : Takes X W)
    (hdb : (x == ("__debug__" : Str)) = false := by decide) : SnE X Z W (.Call (.Name x p) [] [] pos) (cCall ps.length F cNil) := fun zk => pe_imp (pe_G0 G hr hgd hg hm hk hb tk hdb) fun σ H Q ⟨T, s, R, q⟩ =>
  spF_of (vs := []) (rs := []) zk.symm rfl R q
end
end Pw
set_option Elab.async false
set_option linter.all false
set_option maxRecDepth 100000
set_option maxHeartbeats 2000000
namespace Pw
open PySem PySem.Spec PyProof.Rows L2 PySem.W PySem.Calls PySem.HandSPX
/-! ### an error of the program's own, made -/
inductive Asgs : List Str → List Stmt → Prop
  | nil : Asgs [] []
  | cons {f : Str} {p1 p2 p3 p4 : Pos} {fs : List Str} {r : List Stmt} : Asgs fs r → Asgs (f :: fs) (.Assign [.Attribute (.Name "self" p1) f p2] (.Name f p3) p4 :: r)
inductive Nms : List Str → List Expr → Prop
  | nil : Nms [] []
  | cons {f : Str} {p : Pos} {fs : List Str} {r : List Expr} : Nms fs r → Nms (f :: fs) (.Name f p :: r)
abbrev iEnv (qual : Str) (scope : Scope) (L a : Addr) (cda : Addr) (cc : Addr) : Env := ksEnv qual scope L a (.ref cda) cc
/-- what the written part says of an error class at C whose __init__, at fI, hands its arguments on and keeps them as fs -/
structure ErC (P : Program) (K : Frag) (mg : Str → Option Value) (C fI : Addr) (qual : Str) (fs : List Str) : Prop where
  cls : ∃ nm q N bs bm sn sub ab col dd k0 k1 k2 k3 k5, K.lookup C = some (excClassObj nm q C N bs bm true sn sub ab col dd k0 k1 k2 k3 k5 "ValueError.__new__") ∧ refsVE bm = true
  sa : findIn K (.ref C) "__setattr__" = some (some (.builtin "object.__setattr__"))
  no : ∀ f ∈ fs, findIn K (.ref C) f = some none
  iC : findIn K (.ref C) "__init__" = some (some (.ref fI))
  tC : typeIn K (.ref fI) = some (.type "function")
  kC : keepIn K (.ref C) = true
  exC : subIn K (.ref C) (.type "BaseException") = some true
  veC : subIn K (.ref C) (.type "ValueError") = some true
  tyC : typeIn K (.ref C) = some (.type "type")
  sup : ks_superIn K C C "__init__" = some (some (.builtin "ValueError.__init__"))
  opq : nsIn K cStatics "thirdparty.any" = some none
  mgS : mg "super" = none
  top : (P.main.scope.names.lookup ("super" : Str)).isSome = false
  fn : ∃ (oc : Value) (od : Option Addr) (st : Stmt) (kV doc pm : Value) (an : Option Addr) (cda : Addr) (ct : Value) (cc : Addr) (osl : Array (Option Value)) (ccl cl : Value) (cdd cld : Option Addr) (ccs csl : Array (Option Value)) (cvs : Array Value) (file : Str) (tf : Tok) (p0 p1 p2 p3 p4 : Pos) (es : List Expr) (rest : List Stmt),
    K.lookup fI = some ⟨oc, od, .func (ksFn "__init__" qual (defArgs st) (defBody st) (defScope st) .none kV doc pm an (.ref cda) ct cc), osl⟩ ∧ codeIn K (.ref cda) qual = true ∧
    K.lookup cda = some ⟨ccl, cdd, .fields cvs, ccs⟩ ∧ cvs[2]? = some (.str file tf) ∧ ((P.main.file : Str) == file) = true ∧ K.lookup cc = some ⟨cl, cld, .cell (some (.ref C)), csl⟩ ∧
    defBody st = .Expr (.Call (.Attribute (.Call (.Name "super" p0) [] [] p1) "__init__" p2) es [] p3) p4 :: rest ∧ Nms fs es ∧ Asgs fs rest ∧
    (∀ env : Env, ∃ pl : Sem Bool, eval (.Call (.Attribute (.Call (.Name "super" p0) [] [] p1) "__init__" p2) es [] p3) env = (do
      let ov ← attributeBase (.Call (.Name "super" p0) [] [] p1) "__init__" env (eval (.Call (.Name "super" p0) [] [] p1) env)
      standAt p2.atName
      let (f, first) ← holding [ov] (getMethod ov "__init__" pl)
      callWith p3 f first (backTo p3 (starEach es env)) [])) ∧ (∀ env : Env, (backTo p3 (starEach es env)).any (·.1) = false) ∧
    (∃ ar, ((defArgs st).posonlyargs ++ (defArgs st).args).head? = some ar ∧ ar.arg = "self") ∧ (∃ nl more, defScope st = { kind := .function, names := nl, isGenerator := false, isCoroutine := false, more := more }) ∧
    (defScope st).names.lookup ("self" : Str) = some .local ∧ (∀ f ∈ fs, (defScope st).names.lookup f = some .local ∧ f ≠ "self" ∧ (f == ("__debug__" : Str)) = false) ∧
    (defScope st).names.lookup ("super" : Str) = some .globalImplicit ∧ (defScope st).names.lookup ("__class__" : Str) = some .free ∧ (∀ x ∈ (defScope st).names, x.2 ≠ .cell) ∧
    ∀ (x : Value) (us : List Value), us.length = fs.length → bindArgs (ksFn "__init__" qual (defArgs st) (defBody st) (defScope st) .none kV doc pm an (.ref cda) ct cc) ⟨x :: us, []⟩ = pure ((("self" : Str), x) :: fs.zip us)
  ne : fs ≠ []
  nd : fs.Nodup
  few : fs.length ≤ 20
section
variable {prog : Program} {w : World} {A : Around} {E : Value → Shared → Prop} {K : Frag} {mg : Str → Option Value} {C fI : Addr} {hp : Heap} {g : Array GenState} {d : Drawn} {t : Nat} {os : OsState}
theorem mw_call {C N : Addr} {nm q : Str} {bs bm : List Value} {hd : Bool} {sn : List Str} {sub : List Value} {ab : Bool} {col : Option Bool} {dd : Option Addr} {k0 k1 k2 k3 k5 : Option Value} {u x t0 : Addr} {rest : List Value} {Q : Value → Shared → Prop}
    (hC : hp.get? C = some (excClassObj nm q C N bs bm hd sn sub ab col dd k0 k1 k2 k3 k5 "ValueError.__new__")) (he : hp.get? x = some (excO C t0)) (hu : hp.get? u = some (kxs_mw "ValueError.__init__" x)) (hz : rest.length ≤ sizeLine)
    (hq : ∀ h' t1, (∀ b o, b ≠ x → hp.get? b = some o → h'.get? b = some o) → h'.get? x = some (excO C t1) → Q .none ⟨h', g, d, t, os⟩) :
    wpAny (model prog w) A (call (.ref u) rest) Q E ⟨hp, g, d, t, os⟩ := by
  refine wpAny_call (codeAny_of_tree ?_)
  show wpAny _ A.in1 (callAny (.ref u) ⟨rest, []⟩) _ _ _
  simp only [callAny]
  refine wpAny_bind (wpAny_load hu ?_)
  simp only [kxs_mw, show (Value.type "method-wrapper" == Value.type "method" || Value.type "method-wrapper" == Value.type "builtin_function_or_method" || Value.type "method-wrapper" == Value.type "method-wrapper") = true by decide, if_true]
  refine KFB.if_so (by decide) (wpAny_bind (check_bound_init F.excBase_ValueError.toExcCallFacts hC he rfl (wpAny_bind (wpAny_pure (wpAny_pure ?_)))))
  refine ⟨plainId_quiet F.excBase_ValueError.init.plain _, codeAny_builtin F.excBase_ValueError.initEntry ?_⟩
  exact exc_init_tree (cls := .ref C) (t0 := t0) (dv := none) (c2 := .none) (c3 := .none) (b4 := .bool false) he hz fun h' k e _ => hq h' _ k e
theorem asgs_run {P : Program} {qual : Str} {fs0 : List Str} (T : ErC P K mg C fI qual fs0) {env : Env} {m : Str → Option Value} {x dx : Addr} {fv : Array Value} {Q : Flow → Shared → Prop} (hk : env.scope.kind = .function) (hs : env.kindOf "self" = some .local) (hself : m "self" = some (.ref x)) :
    ∀ {fs : List Str} {rest : List Stmt}, Asgs fs rest → ∀ {vs : List V} {us : List Value} {hp : Heap} {t : Nat} {mA : Str → Option Value} {done : List (Str × V)}, vs.length = fs.length → Vals vs us →
    (∀ p ∈ fs.zip us, m p.1 = some p.2) → (∀ f ∈ fs, env.kindOf f = some .local ∧ (f == ("__debug__" : Str)) = false ∧ f ∈ fs0) → K.In hp → hp.Ns env.locals m → env.locals ≠ dx → K.lookup dx = none → hp.get? x = some { cls := .ref C, dict := some dx, data := .fields fv } → hp.Ns1 dx mA →
    (∀ f, L2.RelO (done.lookup f) (mA f)) → done.length + fs.length ≤ 900 →
    (∀ h' tk mB, (∀ b o, b ≠ dx → hp.get? b = some o → h'.get? b = some o) → h'.Ns1 dx mB → (∀ f, L2.RelO (((fs.zip vs).reverse ++ done).lookup f) (mB f)) → Q .next ⟨h', g, d, tk, os⟩) →
    wpAny (model prog w) A (execs rest env) Q E ⟨hp, g, d, t, os⟩ := by
  intro fs rest a
  induction a with
  | nil =>
    intro vs us hp t mA done hl _ _ _ _ _ _ _ _ hns r _ hq
    cases vs with
    | nil => exact wpAny_execs_nil (hq hp t mA (fun _ _ _ e => e) hns (by simpa using r))
    | cons _ _ => simp at hl
  | @cons f p1 p2 p3 p4 fs rest a ih =>
    intro vs us hp t mA done hl rr hm hf X hn hL hdk hx hns r hz hq
    cases rr with
    | nil => simp at hl
    | @cons v u vs us rv rr =>
    obtain ⟨nm, q, N, bs, bm, sn, sub, ab, col, dd, k0, k1, k2, k3, k5, hC, hbm⟩ := T.cls
    have hcl : clsIn K C = some { name := nm, bases := bs, mro := .ref C :: bm, ns := N, qualname := q, hasDict := true, slotNames := sn, subclasses := sub, abstract := ab, collection := col, hasDel := false } := by unfold clsIn; rw [hC] <;> rfl
    obtain ⟨f1, f2, f3⟩ := hf f List.mem_cons_self
    have hw := within_of r
    obtain ⟨oD, _, _, hoD, _, _⟩ := hns.count hw
    refine wpAny_execs_cons (plainObj_wpAny_Assign_Attribute (ESX.ldL hn (hm (f, u) (by simp)) (ESX.ldL hn hself ?_ hk hs) hk f1 f2))
    refine set_plain X (ox := { cls := .ref C, dict := some dx, data := .fields fv }) (od := some oD) ⟨hx, rfl, rfl, hoD⟩ T.sa ?_
    refine OEX.osa_old X hx hns hw (by rw [List.length_map]; omega) hcl (show refsVE (.ref C :: bm) = true from hbm) rfl (T.no f f3) fun h' tk' k hn' => ?_
    have hxd : x ≠ dx := fun z => by
      obtain ⟨o, es, ep, e1, e2, _⟩ := hns
      rw [← z, hx] at e1
      have z2 := Option.some.inj e1
      subst z2
      cases e2
    show wpAny _ _ (execs _ _) _ _ _
    refine ih (done := (f, v) :: done) (by simpa using hl) rr (fun p hp => hm p (by simp [hp])) (fun f hf' => hf f (List.mem_cons_of_mem _ hf')) ?_ ?_ hL hdk (k _ _ hxd hx) hn' (relO_put rv r) (by simp at hz ⊢; omega) fun h2 tk2 mB k2 n2 r2 => ?_
    · exact fun b o e => k b o (fun z => by rw [z, hdk] at e; cases e) (X b o e)
    · exact hn.at fun o e => k _ _ hL e
    · exact hq h2 tk2 mB (fun b o hb e => k2 b o hb (k b o hb e)) n2 (by simpa using r2)
/-- what __init__ leaves of the fresh error at x -/
structure InitLeft (h h' : Heap) (x C dx : Addr) (ws : List (Str × V)) : Prop where
  keep : ∀ b o, b ≠ x → h.get? b = some o → h'.get? b = some o
  obj : ∃ t1, h'.get? x = some { cls := .ref C, dict := some dx, data := .fields #[.ref t1, .none, .none, .none, .bool false, .none] }
  big : h.objs.size ≤ dx
  ne : dx ≠ x
  ns : ∃ mB, h'.Ns1 dx mB ∧ ∀ f, L2.RelO (ws.lookup f) (mB f)
theorem nms_run {M : Model} {env : Env} {m : Str → Option Value} {pos : Pos} {s : Shared} (hk : env.scope.kind = .function) (hn : s.heap.Ns env.locals m) : ∀ {fs : List Str} {es : List Expr}, Nms fs es → ∀ {us : List Value} {Q : List Value → Shared → Prop}, us.length = fs.length → (∀ p ∈ fs.zip us, m p.1 = some p.2) →
    (∀ f ∈ fs, env.kindOf f = some .local ∧ (f == ("__debug__" : Str)) = false) → Q us s → wpAny M A (spliced (backTo pos (starEach es env))) Q E s := by
  intro fs es a
  induction a with
  | nil =>
    intro us Q hl _ _ q
    cases us with
    | nil => exact Calls.spliced_nil q
    | cons _ _ => simp at hl
  | @cons f p fs es a ih =>
    intro us Q hl hm hf q
    cases us with
    | nil => simp at hl
    | cons u us =>
      obtain ⟨f1, f2⟩ := hf f List.mem_cons_self
      show wpAny M A (spliced ((false, eval (.Name f p) env) :: backTo pos (starEach es env))) Q E s
      exact Calls.spliced_cons (ESX.ldL hn (hm (f, u) (by simp)) (ih (by simpa using hl) (fun p hp => hm p (by simp [hp])) (fun f hf' => hf f (List.mem_cons_of_mem _ hf')) q) hk f1 f2)
theorem zip_fst {α β : Type} : ∀ {l : List α} {m : List β} {p : α × β}, p ∈ l.zip m → p.1 ∈ l
  | [], _, p, h => by simp at h
  | a :: l, [], p, h => by simp at h
  | a :: l, b :: m, p, h => by
    simp only [List.zip_cons_cons, List.mem_cons] at h
    rcases h with rfl | h
    · exact List.mem_cons_self
    · exact List.mem_cons_of_mem _ (zip_fst h)
theorem lookup_mem {α : Type} : ∀ {l : List (Str × α)} {p : Str × α}, (l.map (·.1)).Nodup → p ∈ l → l.lookup p.1 = some p.2
  | [], p, _, h => by simp at h
  | (k, v) :: l, p, nd, h => by
    simp only [List.map_cons, List.nodup_cons] at nd
    rcases List.mem_cons.mp h with rfl | h
    · simp [List.lookup]
    · have ne : (p.1 == k) = false := by
        simp only [beq_eq_false_iff_ne]
        intro e
        exact nd.1 (List.mem_map.mpr ⟨p, h, e⟩)
      rw [List.lookup, ne]
      exact lookup_mem nd.2 h
theorem zip_map_fst {α β : Type} : ∀ {l : List α} {m : List β}, l.length = m.length → (l.zip m).map (·.1) = l
  | [], _, _ => rfl
  | a :: l, [], h => by simp at h
  | a :: l, b :: m, h => by simp [zip_map_fst (l := l) (m := m) (by simpa using h)]
theorem own_mro {K : Frag} {C : Addr} {cd : ClassData} {bm : List Value} (hcl : clsIn K C = some cd) (h : cd.mro = .ref C :: bm := by rfl) : mroIn K C (.ref C) = some true := by
  unfold mroIn
  rw [hcl, Option.bind_some, h]
  rw [if_neg (by simp), List.contains_cons, beq_self_eq_true, Bool.true_or]
theorem er_init {P : Program} {w : World} {qual : Str} {fs : List Str} (T : ErC P K mg C fI qual fs) {x t0 : Addr} {vs : List V} {us : List Value} {R : Result → Shared → Prop} (X : K.In hp) (hlim : hp.NoLimit) (G : hp.Ns mainGlobals mg) {mb : Str → Option Value} (B : hp.Ns builtinsNs mb) (hB : mb "super" = some (.type "super"))
    (hx : hp.get? x = some (excO C t0)) (hnx : K.lookup x = none) (hroom : A.depth < recursionLimit) (hl : vs.length = fs.length) (r : Vals vs us)
    (hq : ∀ h' tk dx, InitLeft hp h' x C dx (fs.zip vs).reverse → R (.ok (.ret .none)) ⟨h', g, d, tk, os⟩) :
    codeAny (model P w) A (.call (.ref fI) ⟨.ref x :: us, []⟩) R ⟨hp, g, d, t, os⟩ := by
  obtain ⟨oc, od, st, kV, doc, pm, an, cda, ct, cc, osl, ccl, cl, cdd, cld, ccs, csl, cvs, file, tf, p0, p1, p2, p3, p4, es, rest, ho, hcd, hca, hcv, hfile, hcc, hbody, hnm, has, hev, hplain, ⟨ar, har, hars⟩, ⟨nl, more, hsc⟩, hself, hfs, hsup, hcls, hnc, hbind⟩ := T.fn
  obtain ⟨nm, q, N, bs, bm, sn, sub, ab, col, dd, k0, k1, k2, k3, k5, hC, hbm⟩ := T.cls
  have hcl : clsIn K C = some { name := nm, bases := bs, mro := .ref C :: bm, ns := N, qualname := q, hasDict := true, slotNames := sn, subclasses := sub, abstract := ab, collection := col, hasDel := false } := by unfold clsIn; rw [hC] <;> rfl
  have lu : us.length = fs.length := by rw [← r.length]; exact hl
  rw [hsc] at ho hself hfs hsup hcls hnc hbind
  refine ks_codeAny_call_defAt (fd := ksFn "__init__" qual (defArgs st) (defBody st) { kind := .function, names := nl, isGenerator := false, isCoroutine := false, more := more } .none kV doc pm an (.ref cda) ct cc) (body := defBody st) (binds := (("self" : Str), Value.ref x) :: fs.zip us) hroom (X _ _ ho) rfl hlim (codeRec_of X hcd) rfl
    (.of_eq (hbind _ us lu)) hnc (fun y hy => ?_) (fun h₁ hn k => ?_) rfl rfl rfl
  · rcases List.mem_cons.mp hy with rfl | hy
    · exact hself
    · exact (hfs _ (zip_fst hy)).1
  have X₁ : K.In h₁ := X.keeps k
  have hx₁ := k _ _ hx
  have hxL : hp.objs.size ≠ x := Nat.ne_of_gt (Heap.lt_size hx)
  have nd : (((("self" : Str), Value.ref x) :: fs.zip us).reverse.map (·.1)).Nodup := by
    rw [List.map_reverse, List.nodup_iff_pairwise_ne, List.pairwise_reverse, List.map_cons, zip_map_fst lu.symm]
    exact (List.nodup_cons.mpr ⟨fun z => (hfs _ z).2.1 rfl, T.nd⟩).imp fun h => Ne.symm h
  have hm : ∀ p ∈ (("self" : Str), Value.ref x) :: fs.zip us, (fun y => ((("self" : Str), Value.ref x) :: fs.zip us).reverse.lookup y) p.1 = some p.2 := fun p hp => lookup_mem nd (List.mem_reverse.mpr hp)
  rw [hbody]
  obtain ⟨pl, hev⟩ := hev (callEnv (ksFn "__init__" qual (defArgs st) (.Expr (.Call (.Attribute (.Call (.Name "super" p0) [] [] p1) "__init__" p2) es [] p3) p4 :: rest) { kind := .function, names := nl, isGenerator := false, isCoroutine := false, more := more } .none kV doc pm an (.ref cda) ct cc) hp.objs.size fI)
  refine ks_wpAt_execs_cons (ks_wpAt_Expr_any (ks_wpAt_MethodCall (pl := pl) ?_ hev) (by rfl) (by rfl))
  have hD1 := X₁ _ _ hC
  refine ks_wpAt_super_base (f := fI) (cc := cda) (ar := ar) hsup hcls (by decide) rfl (X₁ _ _ ho) rfl har rfl (X₁ _ _ hca) rfl hcv hfile T.top ?_
  refine ks_loadName_global rfl hsup (Calls.loadGlobal_builtin (G.keeps k) T.mgS (B.keeps k) hB ⟨rfl, ?_⟩)
  refine wpAny_loadName_free rfl hcls rfl ⟨_, X₁ _ _ hcc, rfl⟩ ?_
  rw [hars]
  refine wpAny_loadName_local rfl hself hn (hm _ List.mem_cons_self) ?_
  have I : InstAt h₁ x (excO C t0) C none := ⟨hx₁, rfl, rfl, trivial⟩
  refine ks_wpAny_isType_cls hD1 rfl ⟨rfl, ks_wpAny_call_super hD1 rfl hx₁ rfl (fun c e => by cases e) (looks_mroIn X₁ (own_mro hcl)) fun h₂ e₂ k₂ => ?_⟩
  have X₂ : K.In h₂ := X₁.keeps k₂
  have hx₂ := k₂ _ _ hx₁
  have I₂ : InstAt h₂ x (excO C t0) C none := ⟨hx₂, rfl, rfl, trivial⟩
  have hsu := T.sup
  unfold ks_superIn at hsu
  rw [hcl] at hsu
  refine kxs_getMethod kxs_ValueError e₂ (looks_opaque X₂ T.opq) (fun A Q E s k q => wpAny_bind ((looks_clsIn X₂ hcl) A _ E s k (wpAny_pure q))) rfl X₂ hsu (I₂.type.andThen (looks_subIn X₂ T.veC)) (ks_ne X₂ I₂ hcl) (by decide) ?_
  have kk : ∀ b o, hp.get? b = some o → (h₂.push (kxs_mw "ValueError.__init__" x)).get? b = some o := fun b o e => Heap.get?_push_of_some _ (k₂ _ _ (k _ _ e))
  have hn₃ : (h₂.push (kxs_mw "ValueError.__init__" x)).Ns hp.objs.size (fun y => ((("self" : Str), Value.ref x) :: fs.zip us).reverse.lookup y) := hn.at fun o e => Heap.get?_push_of_some _ (k₂ _ _ e)
  have hu : (h₂.push (kxs_mw "ValueError.__init__" x)).get? h₂.objs.size = some (kxs_mw "ValueError.__init__" x) := Heap.get?_push_at rfl rfl
  refine kxs_callWith (first := []) (i := "ValueError.__init__") (x := x) (hplain _) ?_
  have lz : us.length ≤ sizeLine := by rw [lu, sizeLine_eq]; have := T.few; omega
  have hkf : ∀ f ∈ fs, (iEnv qual { kind := .function, names := nl, isGenerator := false, isCoroutine := false, more := more } hp.objs.size fI cda cc).kindOf f = some .local ∧ (f == ("__debug__" : Str)) = false := fun f hf => ⟨(hfs f hf).1, (hfs f hf).2.2⟩
  have hne := T.ne
  have hnm0 := hnm
  cases hnm with
  | nil => exact absurd rfl hne
  | @cons f0 pf fs es hnm =>
  refine evalArgs_plain (nms_run (m := fun y => ((("self" : Str), Value.ref x) :: (f0 :: fs).zip us).reverse.lookup y) (env := iEnv qual { kind := .function, names := nl, isGenerator := false, isCoroutine := false, more := more } hp.objs.size fI cda cc) rfl hn₃ hnm0 lu (fun p hp => hm p (List.mem_cons_of_mem _ hp)) hkf ⟨hu, ?_⟩)
  refine mw_call (Heap.get?_push_of_some _ (k₂ _ _ hD1)) (Heap.get?_push_of_some _ hx₂) hu lz fun h₄ t1 k₄ hx₄ => ?_
  have hxK : ∀ b o, hp.get? b = some o → b ≠ x → h₄.get? b = some o := fun b o e n => k₄ b o n (kk b o e)
  have X₄ : K.In h₄ := fun b o e => hxK b o (X b o e) fun z => by rw [z, hnx] at e; cases e
  have hn₄ := hn₃.at fun o e => k₄ _ _ hxL e
  show _root_.PySem.wpAt _ _ _ (execs _ _) _ _ _
  refine wpAt_of_wpAny ?_
  cases has with
  | @cons f p1' p2' p3' p4' fs rest a =>
  cases r with
  | nil => simp at lu
  | @cons v u vs us rv rr =>
  refine wpAny_execs_cons (plainObj_wpAny_Assign_Attribute (ESX.ldL hn₄ (hm (f0, u) (by simp)) (ESX.ldL hn₄ (hm _ List.mem_cons_self) ?_ rfl hself) rfl (hfs f0 List.mem_cons_self).1 (hfs f0 List.mem_cons_self).2.2))
  refine set_plain X₄ (ox := excO C t1) (od := none) ⟨hx₄, rfl, rfl, trivial⟩ T.sa ?_
  refine exc_osa X₄ hx₄ hcl (show refsVE (.ref C :: bm) = true from hbm) rfl (T.no f0 List.mem_cons_self) fun h₅ tk₅ dx k₅ dn dne hx₅ hn₅ => ?_
  have lt0 : hp.objs.size < h₁.objs.size := hn.lt
  have lt4 : hp.objs.size < h₄.objs.size := hn₄.lt
  have hdk : K.lookup dx = none := by
    cases e : K.lookup dx with
    | none => rfl
    | some o => exact absurd (Heap.lt_size (X₄ _ _ e)) (Nat.not_lt.mpr dn)
  show wpAny _ _ (execs _ _) _ _ _
  refine asgs_run T (env := iEnv qual { kind := .function, names := nl, isGenerator := false, isCoroutine := false, more := more } hp.objs.size fI cda cc) (m := fun y => ((("self" : Str), Value.ref x) :: (f0 :: fs).zip (u :: us)).reverse.lookup y) (x := x) (dx := dx) (done := [(f0, v)]) rfl hself (hm _ List.mem_cons_self) a (by simpa using hl) rr (fun p hp => hm p (by simp [hp])) (fun f hf => ⟨(hkf f (List.mem_cons_of_mem _ hf)).1, (hkf f (List.mem_cons_of_mem _ hf)).2, List.mem_cons_of_mem _ hf⟩)
    (fun b o e => ?_) (hn₄.at fun o e => k₅ _ _ hxL e) (fun z => absurd (Nat.lt_of_lt_of_le lt4 dn) (by rw [← (show hp.objs.size = dx from z)]; exact Nat.lt_irrefl _)) hdk hx₅ hn₅ (relO_put (fs := []) rv fun g => trivial) (by have := T.few; simp at this ⊢; omega) fun h₆ tk₆ mB k₆ hn₆ r₆ => ?_
  · exact k₅ b o (fun z => by rw [z, hnx] at e; cases e) (X₄ b o e)
  · have hxd : x ≠ dx := dne.symm
    refine hq h₆ tk₆ dx ⟨fun b o hb e => k₆ b o ?_ (k₅ b o hb (hxK b o e hb)), ⟨t1, k₆ _ _ hxd hx₅⟩, Nat.le_of_lt (Nat.lt_of_lt_of_le lt4 dn), dne, mB, hn₆, by simpa using r₆⟩
    exact Nat.ne_of_lt (Nat.lt_of_lt_of_le (Heap.lt_size (hxK b o e hb)) dn)
/-- an error made -/
theorem er_made {P : Program} {w : World} {qual : Str} {fs : List Str} (T : ErC P K mg C fI qual fs) {vs : List V} {us : List Value} {R : Result → Shared → Prop} (X : K.In hp) (hlim : hp.NoLimit) (G : hp.Ns mainGlobals mg) {mb : Str → Option Value} (B : hp.Ns builtinsNs mb) (hB : mb "super" = some (.type "super"))
    (hroom : A.depth + 1 < recursionLimit) (hl : vs.length = fs.length) (r : Vals vs us)
    (hq : ∀ h' tk e dx, (∀ b o, hp.get? b = some o → h'.get? b = some o) → hp.objs.size ≤ e → (∃ t1, h'.get? e = some { cls := .ref C, dict := some dx, data := .fields #[.ref t1, .none, .none, .none, .bool false, .none] }) → hp.objs.size ≤ dx → dx ≠ e →
      (∃ mB, h'.Ns1 dx mB ∧ ∀ f, L2.RelO ((fs.zip vs).reverse.lookup f) (mB f)) → R (.ok (.ret (.ref e))) ⟨h', g, d, tk, os⟩) :
    codeAny (model P w) A (.call (.ref C) ⟨us, []⟩) R ⟨hp, g, d, t, os⟩ := by
  obtain ⟨nm, q, N, bs, bm, sn, sub, ab, col, dd, k0, k1, k2, k3, k5, hC, hbm⟩ := T.cls
  have k : ∀ b o, hp.get? b = some o → ((hp.push (kdv_tup us)).push (excO C hp.objs.size)).get? b = some o := fun b o e => Heap.get?_push_of_some _ (Heap.get?_push_of_some _ e)
  have hget : ((hp.push (kdv_tup us)).push (excO C hp.objs.size)).get? (hp.objs.size + 1) = some (excO C hp.objs.size) := by heap_get
  have hnx : K.lookup (hp.objs.size + 1) = none := by
    cases e : K.lookup (hp.objs.size + 1) with
    | none => rfl
    | some o => exact absurd (Nat.lt_of_succ_lt (Heap.lt_size (X _ _ e))) (Nat.lt_irrefl _)
  have lz : us.length ≤ sizeLine := by rw [← r.length, hl, sizeLine_eq]; have := T.few; omega
  refine call_own F.excBase_ValueError (fun Y => refsVE_contains Y bm hbm) (X _ _ hC) (looks_findIn X T.iC) (fun self => bind_fn X self T.tC) lz ?_
  refine er_init T (X.keeps k) (hlim.keeps k) (G.keeps k) (B.keeps k) hB hget hnx (by show A.depth + 1 < recursionLimit; exact hroom) hl r fun h' tk' dx M => ?_
  have old : ∀ b o, hp.get? b = some o → h'.get? b = some o := fun b o e => M.keep b o (Nat.ne_of_lt (Nat.lt_succ_of_lt (Heap.lt_size e))) (k b o e)
  have z : hp.objs.size + 1 + 1 ≤ dx := by
    first
      | (simpa only [Heap.size_push] using M.big)
      | exact M.big
      | (have q := M.big; rw [Heap.size_push, Heap.size_push] at q; exact q)
  exact ⟨rfl, hq h' tk' (hp.objs.size + 1) dx old (Nat.le_succ _) M.obj (Nat.le_trans (Nat.le_trans (Nat.le_succ _) (Nat.le_succ _)) z) M.ne M.ns⟩
end
/-- an error of the class at C is one that «except C» names -/
theorem exm_own {K : Frag} {C : Addr} (a : subIn K (.ref C) (.type "BaseException") = some true) (b : isClsIn K C = true) (c : typeIn K (.ref C) = some (.type "type")) (d : subIn K (.ref C) (.ref C) = some true) : exmOne K (.ref C) (.ref C) = some true := by
  have b' : (clsIn K C).isSome = true := b
  have e1 : ((clsIn K C).isSome && typeIn K (.ref C) == some (.type "type")) = true := by rw [b', c] <;> rfl
  have e0 : (subIn K (.ref C) (.type "BaseException") == some true) = true := by rw [a] <;> rfl
  show (if (subIn K (.ref C) (.type "BaseException") == some true) = true then (if ((clsIn K C).isSome && typeIn K (.ref C) == some (.type "type")) = true then subIn K (.ref C) (.ref C) else none) else none) = some true
  rw [if_pos e0, if_pos e1, d]
def clsDef (st : Stmt) : Stmt := match st with
  | .ClassDef (body := b :: _) .. => b
  | s => s
end Pw
set_option Elab.async false
set_option linter.all false
set_option maxRecDepth 100000
set_option maxHeartbeats 2000000
namespace Pw
open PySem PySem.Spec PyProof.Rows L2
section
variable {X : Cx} {Z : Zx} {W : WX} {a e : Expr} {es : List Expr} {ga : Ag} {k : Nat} {C fI : Addr} {qual x : Str} {fs : List Str} {p pos pos2 : Pos} {ta : TA} {H : Hp} {σ : L2.St} {T : List Ent} {s : S}
def tMkE (C : Addr) (fs : List Str) (ta : TA) : L2.St → Hp → XK → Prop := fun σ H Q => ta σ H fun vs H1 => vs.length = fs.length ∧ ∀ dd, H1 dd = none → Q (.ref C) (some dd) (upd H1 dd (.xd (fs.zip vs).reverse))
theorem pmk_er (Y : ErC X.prog X.K X.mg C fI qual fs) (hr : Room k X.A) (ha : PA X (a :: es) ta) (hg : Gl X x) (hm : X.mg x = some (.ref C)) (hdb : (x == ("__debug__" : Str)) = false := by decide)
    (hst : starEach (a :: es) X.env = (false, eval a X.env) :: starEach es X.env := by rfl) (hpl : (backTo pos (starEach es X.env)).any (·.1) = false := by rfl) : PMk X (.Call (.Name x p) (a :: es) [] pos) (tMkE C fs ta) := by
  intro pins s σ H Q I h
  refine wpAny_Call_Name_kw (ld_glob I hg hm (PySem.W.callWith_K (h₀ := X.base) I.ok.mod.kin Y.kC (thn (ha.run pos pins s σ H _ I h) fun us s1 ⟨vs, H1, I1, r1, hl, q1⟩ => ⟨I1.kIn, ?_⟩) hst hpl) hdb)
  have lim := I1.nolimit
  have K1 := I1.kIn
  obtain ⟨mb, B, hB⟩ := I1.mod.blt
  have B1 := B.keeps I1.bk
  have G1 := I1.mod.glob.keeps I1.bk
  obtain ⟨hp, g, dr, tk, os⟩ := s1
  refine wpAny_call (er_made Y K1 lim G1 B1 ((hB _ (by decide)).trans (by exact PyProof.Rows.Boot.«super»)) (by have := hr.dp; omega) hl r1 fun h' tk' e dx old big ho dbig dne hns => ?_)
  obtain ⟨t1, ho⟩ := ho
  obtain ⟨mB, hn, rel⟩ := hns
  obtain ⟨G, ga, gb⟩ := restrict h' fun b => decide (b ≠ e)
  have on : ∀ b, b ≠ e → G.get? b = h'.get? b := fun b hb => ga b (decide_eq_true hb)
  have off : G.get? e = none := gb e (by simp)
  have keepG : ∀ b o, hp.get? b = some o → G.get? b = some o := fun b o q => (on b (Nat.ne_of_lt (Nat.lt_of_lt_of_le (Heap.lt_size q) big))).trans (old b o q)
  have okX : ObjOk X.prog X.w (upd H1 dx (.xd (fs.zip vs).reverse)) G dx (.xd (fs.zip vs).reverse) := ⟨mB, hn.at fun o q => (on dx dne).trans q, rel⟩
  have J := I1.laid (t' := tk') keepG dbig okX
  refine ⟨e, _, _, ⟨G, g, dr, tk', os⟩, _, .ref C, some dx, rfl, J, fun b o q => ?_, off, ho, ⟨rfl, rfl⟩, rfl, rfl, ?_, rfl, I1.bare, raises_own Y.exC Y.tyC, q1 dx (I1.hok.fresh dbig)⟩
  · have hb : b ≠ e := fun z => by
      have q : G.get? b = some o := q
      rw [z, off] at q; cases q
    exact (on b hb).symm.trans q
  · rw [upd_ne (Ne.symm dne)]
    exact I1.hok.fresh big
def exFs (fs : List Str) (ds : List D) : List (Str × D) := (fs.zip ds).reverse
def cRaise (C : Addr) (fs : List Str) (ga : Ag) : Sm := fun s => (ga s).bind fun rs s1 => if rs.length = fs.length then match datas rs with
  | some ds => .exc ⟨C, exFs fs ds⟩ s1
  | none => .err
  else .err
theorem paired_app {α β : Type} {F : α → β → Prop} : ∀ {l₁ : List α} {l₂ : List β} {m₁ : List α} {m₂ : List β}, Paired F l₁ l₂ → Paired F m₁ m₂ → Paired F (l₁ ++ m₁) (l₂ ++ m₂)
  | _, _, _, _, .nil, q => q
  | _, _, _, _, .cons r t, q => .cons r (paired_app t q)
theorem rpF_zip {K} {O : Addr → Prop} : ∀ {fs : List Str} {vs : List V} {ds : List D}, RpA K H O vs ds → RpF K H O (fs.zip vs).reverse (exFs fs ds)
  | [], _, _, _ => by simp [exFs]; exact .nil
  | f :: fs, [], _, .nil => by simp [exFs]; exact .nil
  | f :: fs, v :: vs, d :: ds, .cons r t => by
    have := rpF_zip (fs := fs) t
    simp only [exFs, List.zip_cons_cons, List.reverse_cons] at this ⊢
    exact paired_app this (.cons ⟨rfl, r⟩ .nil)
theorem snS_raise (hc : X.calm = true) (Y : ErC X.prog X.K X.mg C fI qual fs) (hr : Room k X.A) (tk : Takes X W) (ha : SnA X Z W (a :: es) ga) (hg : Gl X x) (hm : X.mg x = some (.ref C)) (hdb : (x == ("__debug__" : Str)) = false := by decide)
    (hst : starEach (a :: es) X.env = (false, eval a X.env) :: starEach es X.env := by rfl) (hpl : (backTo pos (starEach es X.env)).any (·.1) = false := by rfl) :
    SnS X Z W (.Raise (some (.Call (.Name x p) (a :: es) [] pos)) none pos2) (cRaise C fs ga) := fun zk => ps_imp (ps_raise hc tk (pmk_er Y hr (ha zk) hg hm hdb hst hpl)) fun D σ H ⟨T, s, R, q⟩ => by
  refine ⟨T, s, R, Res.sat_mono (Res.sat_bind.mp q) (fun rs s1 q vs H1 hl R1 => ?_) fun e s h => h σ⟩
  split at q
  · rename_i hn
    split at q
    · rename_i ds ed
      refine ⟨hl.trans hn, fun dd hd => q σ dd _ ⟨R1.1, ?_⟩⟩
      obtain ⟨O, r⟩ := R1.2
      have ra : RpA Z.K H1 O vs ds := rpA_ents hl ed fun x hx => r.ent x (by simp [hx])
      have kk : ∀ b x, H1 b = some x → upd H1 dd (.xd (fs.zip vs).reverse) b = some x := fun b x e => by rw [upd_ne (ne_of_none e hd)]; exact e
      have r2 : RelO Z (upd H1 dd (.xd (fs.zip vs).reverse)) s1.src ((some (.ref dd), some (.exd (exFs fs ds))) :: (ents vs rs ++ T ++ List.zip σ s1.sl)) O := (r.new hd).push mild_exd fun s q => by
        cases q
        exact ⟨_, rfl, dd, _, rfl, r.fresh hd, upd_same, rpF_zip ((Stp.of_keep kk).rpA ra)⟩
      have r3 : Rel Z (upd H1 dd (.xd (fs.zip vs).reverse)) s1.src (ents vs rs ++ ((some (.ref dd), some (.exd (exFs fs ds))) :: (T ++ List.zip σ s1.sl))) := Rel.perm ⟨O, r2⟩ (by rw [List.append_assoc]; exact List.perm_middle.symm)
      exact Rel.popN _ r3
    · exact q.elim
  · exact q.elim
/-! ### try -/
def noExn : List (Option SV) → Bool
  | [] => true
  | some (.exn _) :: _ => false
  | _ :: r => noExn r
def Fl.noExn : Fl → Bool
  | .ret (.exn _) => false
  | _ => true
def Zx.at (Z : Zx) (a dd : Addr) : Zx := { Z with Xn := some (a, dd) }
def cTry (m : Sm) (C : Addr) (i : Nat) (ms : Sm) : Sm := fun s => match m s with
  | .ok fl s1 => .ok fl s1
  | .err => .err
  | .exc e s1 => if e.cls = C then (ms { s1 with sl := s1.sl.set i (some (.exn e.fs)) }).quiet.bind fun fl s2 => if fl.noExn = true ∧ noExn (s2.sl.set i none) = true then .ok fl { s2 with sl := s2.sl.set i none } else .err
    else .err
theorem Rel.xn {src : Option Src} {L : List Ent} {c : Option (Addr × Addr)} (h : Rel Z H src L) (hx : ∀ e ∈ L, ∀ fs, e.2 ≠ some (.exn fs)) : Rel { Z with Xn := c } H src L := by
  obtain ⟨O, r⟩ := h
  refine ⟨O, r.oc, fun e he s q => ?_, r.ap, r.src, r.base, r.live⟩
  obtain ⟨v, e1, k⟩ := r.ent e he s q
  refine ⟨v, e1, ?_⟩
  cases s <;> first | exact k | exact absurd q (hx e he _)
theorem Rel.noXn {src : Option Src} {L : List Ent} (h : Rel Z H src L) (hz : Z.Xn = none) : ∀ e ∈ L, ∀ fs, e.2 ≠ some (.exn fs) := fun e he fs q => by
  obtain ⟨O, r⟩ := h
  obtain ⟨v, e1, a, dd, xs, z, _⟩ := r.ent e he _ q
  rw [hz] at z; cases z
theorem noExn_zip : ∀ {sl : List (Option SV)} {σ : L2.St}, noExn sl = true → ∀ e ∈ List.zip σ sl, ∀ fs, e.2 ≠ some (.exn fs)
  | [], σ, _, e, he => by simp at he
  | _ :: _, [], _, e, he => by simp at he
  | o :: sl, v :: σ, h, e, he => by
    simp only [List.zip_cons_cons, List.mem_cons] at he
    rcases he with rfl | he
    · intro fs q
      cases q
      simp [noExn] at h
    · refine noExn_zip (sl := sl) (σ := σ) ?_ e he
      match o, h with
      | none, h => exact h
      | some (.sh _), h => exact h
      | some (.own _), h => exact h
      | some (.fn _), h => exact h
      | some .src, h => exact h
      | some (.exd _), h => exact h
      | some (.fns _), h => exact h
      | some (.scr _), h => exact h
theorem Rel.exn {src : Option Src} {i : Nat} {a dd : Addr} {fs : List (Str × D)} {sl : List (Option SV)} (h : Rel (Z.at a dd) H src ((some (.ref dd), some (.exd fs)) :: (T ++ List.zip σ sl))) (hl : σ.length = sl.length) : Rel (Z.at a dd) H src (T ++ List.zip (σ.set i (some (.ref a))) (sl.set i (some (.exn fs)))) := by
  refine Rel.putSlot (i := i) ?_ hl
  obtain ⟨O, r⟩ := h
  have hd := r.ent _ List.mem_cons_self _ rfl
  have r2 : Rel (Z.at a dd) H src (T ++ List.zip σ sl) := Rel.pop ⟨O, r⟩
  refine ⟨O, RelO.push ⟨r.oc, fun e he => r.ent e (List.mem_cons_of_mem _ he), (List.pairwise_cons.mp r.ap).2, r.src, r.base, r.live⟩ mild_exn fun s q => ?_⟩
  cases q
  obtain ⟨v, e1, b, xs, e2, n, q, z⟩ := hd
  cases e1; cases e2
  exact ⟨_, rfl, a, dd, xs, rfl, rfl, n, q, z⟩
theorem snS_try {n : Str} {i : Nat} {body suite : List Stmt} {b₀ : Stmt} {np pos' : Pos} {m ms : Sm} (hz : Z.Xn = none) (hs : X.stack = X.env :: X.outer) (hf : X.env.frame = some X.env.locals) (hN : X.N.Nodup) (hi : X.N[i]? = some n) (hln : X.env.kindOf n = some .local) (hc : Names X x (.ref C))
    (hx : PySem.W.exmOne X.K (.ref C) (.ref C) = some true)
    (hb : ∀ (W : WX) (pn : List (Addr × Obj)) (xe : Value → Shared → Prop), Takes (X.tr pn xe) W → PassesOwn (model X.prog X.w) X.A X.env xe → SnB (X.tr pn xe) Z W body m)
    (hsu : ∀ (a : Addr) (oe : Obj) (dd : Addr) (pn : List (Addr × Obj)), Zc (.ref C) (some dd) oe → (∃ vs, oe.data = .fields vs) → SnB (X.suite a ((a, oe) :: pn)) (Z.at a dd) W0 (b₀ :: suite) ms) :
    SnS X Z W (.Try body [.ExceptHandler (some (.Name x np)) (some n) (b₀ :: suite) pos'] [] [] pos) (cTry m C i ms) := fun zk => by
  refine ps_imp (ps_try_as (i := i) (c := .ref C) (tb := fun W => LS Z W m) (ts := fun a cls d D σ H => ∃ dd, cls = .ref C ∧ d = some dd ∧ LS (Z.at a dd) W0 ms D σ H) (Wout := fun _ _ _ _ => False) hs hf hN hi hln hc (fun u s' ⟨_, _, _, _, _, _, _, _, _, _, _, _, _, _, _, _, w⟩ => w.elim)
    (fun W pn xe tk po => hb W pn xe tk po zk) fun a oe cls d pn h1 h2 => ?_) fun D σ H ⟨T, s, R, q⟩ => ?_
  · refine ⟨fun pins s σ H D I ⟨dd, e1, e2, q⟩ => ?_⟩
    subst e1 e2
    exact (hsu a oe dd pn h1 h2 zk).run pins s σ H D I q
  · refine ⟨T, s, R, ?_⟩
    unfold cTry at q
    cases e : m s with
    | ok fl s1 => rw [e] at q; exact q
    | err => rw [e] at q; exact q.elim
    | exc ex s1 =>
      rw [e] at q
      dsimp only at q
      split at q
      · rename_i hcl
        intro σ1 dd H1 R1
        refine ⟨true, by rw [hcl]; exact hx, fun _ a ha => ⟨dd, by rw [hcl], rfl, ?_⟩, fun z => by cases z⟩
        have hnx := Rel.noXn R1.2 hz
        have R2 : Rel (Z.at a dd) H1 s1.src ((some (.ref dd), some (.exd ex.fs)) :: (T ++ List.zip σ1 s1.sl)) := Rel.xn R1.2 hnx
        refine ⟨T, { s1 with sl := s1.sl.set i (some (.exn ex.fs)) }, ⟨by simpa using R1.1, Rel.exn R2 R1.1⟩, Res.sat_mono (sat_quiet (E' := fun _ _ => False) (Res.sat_bind.mp q)) (fun fl s2 q => ?_) fun _ _ h => h.elim⟩
        split at q
        · rename_i hh
          have hT : ∀ e ∈ T, ∀ fs, e.2 ≠ some (.exn fs) := fun e he => hnx e (List.mem_cons_of_mem _ (List.mem_append_left _ he))
          have back : ∀ {σ2 : L2.St} {H2 : Hp} {T2 : List Ent}, (∀ e ∈ T2, ∀ fs, e.2 ≠ some (.exn fs)) → RelS (Z.at a dd) H2 σ2 (T2 ++ T) s2 → RelS Z H2 (σ2.set i none) (T2 ++ T) { s2 with sl := s2.sl.set i none } := fun {σ2 H2 T2} h2 R => by
            have R3 := Rel.putSlot (i := i) (ov := none) (os := none) R.2.triv R.1
            have R4 := Rel.xn (c := Z.Xn) R3 fun e he => by
              rcases List.mem_append.mp he with he | he
              · exact (List.mem_append.mp he).elim (h2 e) (hT e)
              · exact noExn_zip hh.2 e he
            exact ⟨by simpa using R.1, R4⟩
          cases fl with
          | nx => exact fun σ2 H2 R => q _ _ (back (T2 := []) (fun _ h => by simp at h) R)
          | bk => exact fun σ2 H2 R => q _ _ (back (T2 := []) (fun _ h => by simp at h) R)
          | ct => exact fun σ2 H2 R => q _ _ (back (T2 := []) (fun _ h => by simp at h) R)
          | ret r => exact fun v σ2 H2 R => q _ _ _ (back (T2 := [(some v, some r)]) (fun e he fs z => by
              cases List.mem_singleton.mp he
              cases z
              simp [Fl.noExn] at hh) R)
        · exact q.elim
      · exact q.elim
/-- the caught error's field -/
def cFld (i : Nat) (f : Str) : Ev := fun s => match s.sl[i]? with
  | some (some (.exn fs)) => Res.opt ((fs.lookup f).map .sh) s
  | _ => .err
theorem rpF_lookup {K} {O : Addr → Prop} {f : Str} {d : D} : ∀ {xs : List (Str × V)} {fs : List (Str × D)}, RpF K H O xs fs → fs.lookup f = some d → ∃ v, xs.lookup f = some v ∧ Rp K H O v d
  | _, _, .nil, h => by cases h
  | (g, v) :: xs, (g', d') :: fs, .cons ⟨e, r⟩ t, h => by
    have e : g = g' := e
    subst e
    by_cases q : (f == g) = true
    · simp only [List.lookup, q, Option.some.injEq] at h ⊢
      subst h
      exact ⟨v, rfl, r⟩
    · have q : (f == g) = false := by simpa using q
      simp only [List.lookup, q] at h ⊢
      exact rpF_lookup t h
theorem snE_fld {a dd : Addr} {oe : Obj} {pn : List (Addr × Obj)} {i : Nat} {n : Str} (Y : XfC X.K C) (hno : PySem.W.findIn X.K (.ref C) n = some none) (hz : Zc (.ref C) (some dd) oe) (hf : ∃ vs, oe.data = .fields vs) (he : PE (X.suite a ((a, oe) :: pn)) e (tVar i))
    (hb : attributeBase e n X.env (eval e X.env) = eval e X.env := by rfl) : SnE (X.suite a ((a, oe) :: pn)) (Z.at a dd) W (.Attribute e n pos) (cFld i n) := fun _ => pe_imp (pe_xf Y hno hz hf he hb) fun σ H Q ⟨T, s, R, q⟩ => by
  unfold cFld at q
  split at q
  · rename_i fs e1
    obtain ⟨r, er, q⟩ := sat_opt q
    obtain ⟨d, ed, e0⟩ := Option.map_eq_some_iff.mp er
    subst e0
    obtain ⟨v, hv, hm⟩ := R.slot e1
    obtain ⟨O, R0⟩ := id R.2
    obtain ⟨w, e2, b, dd', xs, z, e3, no, hx, rf⟩ := R0.ent _ hm _ rfl
    cases e2
    have z : some (a, dd) = some (b, dd') := z
    cases z
    obtain ⟨y, hy, ry⟩ := rpF_lookup rf ed
    exact ⟨v, hv, e3, rfl, dd, xs, y, rfl, hx, hy, q _ _ ⟨R.1, R0.atSh ry⟩⟩
  · exact q.elim
end
end Pw
set_option Elab.async false
set_option linter.all false
set_option maxRecDepth 100000
namespace Pw
open PySem PySem.Spec PyProof.Rows L2
/-! ### the drawn source -/
section
variable {Z : Zx} {H H' : Hp} {L : List Ent} {T : List Ent} {σ : L2.St} {s : S} {x y : Addr} {sr sr' : Src}
theorem Rel.srcTo (R : Rel Z H (some sr) L) (hA : Z.A = some (x, y)) (hk : ∀ b, b ≠ x → b ≠ y → H' b = H b) (hx : H' x = some (.dK (srcKv y sr'))) (hy : H' y = some (.lst (sr'.cells.map V.int))) : Rel Z H' (some sr') L := by
  obtain ⟨O, r⟩ := R
  have q := r.src
  rw [hA] at q
  obtain ⟨n, o1, o2, _, _⟩ := q
  have hin : ∀ b, InA Z.A b ↔ b = x ∨ b = y := fun b => by rw [hA]; exact Iff.rfl
  have t : Stp H H' O O (fun b => b = x ∨ b = y) := ⟨fun b z e n => by rw [hk b (fun q => n (.inl q)) fun q => n (.inr q)]; exact e, fun b z => z.elim (fun z => z ▸ o1) fun z => z ▸ o2, fun _ z => .inl z, fun _ z _ => z⟩
  refine ⟨O, r.oc, fun e he => t.ent (fun d a h1 h2 z => ?_) (r.ent e he), r.ap, ?_, fun b z e nA => ?_, fun b z => ?_⟩
  · obtain ⟨w, e1, a', e2, _, _, na, _⟩ := r.ent e he _ h1
    rw [h2] at e1
    cases e1; cases e2
    exact na ((hin a).mpr z)
  · rw [hA]
    exact ⟨n, o1, o2, hx, hy⟩
  · rw [hk b (fun q => nA ((hin b).mpr (.inl q))) fun q => nA ((hin b).mpr (.inr q))]
    exact r.base b z e nA
  · by_cases e1 : b = x
    · exact ⟨_, e1 ▸ hx⟩
    · by_cases e2 : b = y
      · exact ⟨_, e2 ▸ hy⟩
      · rw [hk b e1 e2]; exact r.live b z
theorem RelS.src {i : Nat} (R : RelS Z H σ T s) (e : s.sl[i]? = some (some .src)) : ∃ x y sr, Z.A = some (x, y) ∧ σ[i]? = some (some (.ref x)) ∧ s.src = some sr ∧ x ≠ y ∧ H x = some (.dK (srcKv y sr)) ∧ H y = some (.lst (sr.cells.map V.int)) := by
  obtain ⟨v, hv, hm⟩ := R.slot e
  obtain ⟨O, r⟩ := R.2
  obtain ⟨w, e1, x, y, hA, e2⟩ := r.ent _ hm _ rfl
  cases e1; cases e2
  have q := r.src
  rw [hA] at q
  cases hs : s.src with
  | none => rw [hs] at q; exact q.elim
  | some sr =>
    rw [hs] at q
    exact ⟨x, y, sr, hA, hv, rfl, q.1, q.2.2.2.1, q.2.2.2.2⟩
end
section
variable {X : Cx} {Z : Zx} {W : WX} {o e : Expr} {f : Ev} {i : Nat} {k : Str} {kj : Nat} {kp pos pos' p apos cpos : Pos} {H : Hp} {σ : L2.St} {T : List Ent} {s : S}
def rKey : R2 := fun x y H Q => ∃ a kvs k v, x = .ref a ∧ H a = some (.dK kvs) ∧ y = kV k ∧ valV kvs k = some v ∧ Q v H
theorem ixKey (hu : X.A.units + 64 < cLine) : IxR X rKey := by
  intro value slice pins s σ H x y v u Q I rx ry h hs
  obtain ⟨a, kvs, k, w, rfl, ha, rfl, hv, q⟩ := h
  cases rx
  have g : DGet H a (kV k) (some w) := hv ▸ DGet.k (k := k) ha
  exact subTail (dict_typeIs I g) PySem.F.slot_dict_getitem.lookup (d_getItem (by omega) I g ry fun w' s3 I3 rw' => ⟨w, H, I3, rw', q⟩) hs
theorem pe_key (hu : X.A.units + 64 < cLine) (ho : PE X o (tVar i)) (hs : PlainIx (.Constant (.str k) kj kp)) : PE X (.Subscript o (.Constant (.str k) kj kp) pos) (tOp rKey (tVar i) (tC (.str k))) := pe_ix (ixKey hu) ho pe_str hs
def SelOk (k : Str) (sel : Src → Int) : Prop := ∀ y s, valV (srcKv y s) (.inr k) = some (.int (sel s))
def cSrcG (i : Nat) (sel : Src → Int) : Ev := fun s => match s.sl[i]?, s.src with
  | some (some .src), some sr => .ok (.sh (.int (sel sr))) s
  | _, _ => .err
theorem snE_srcG {sel : Src → Int} (hk : SelOk k sel) (hu : X.A.units + 64 < cLine) (ho : PE X o (tVar i)) (hs : PlainIx (.Constant (.str k) kj kp)) : SnE X Z W (.Subscript o (.Constant (.str k) kj kp) pos) (cSrcG i sel) := fun _ => pe_imp (pe_key hu ho hs) fun σ H Q ⟨T, s, R, q⟩ => by
  unfold cSrcG at q
  split at q
  · rename_i sr e1 e2
    obtain ⟨x, y, sr', hA, hv, e3, ne, hx, hy⟩ := R.src e1
    rw [e2] at e3; cases e3
    exact ⟨.ref x, hv, x, _, .inr k, _, rfl, hx, rfl, hk y sr, q _ _ ⟨R.1, R.2.int _⟩⟩
  · exact q.elim
theorem valCells (y : Addr) (s : Src) : valV (srcKv y s) (.inr "cells") = some (.ref y) := rfl
theorem pe_cells (hu : X.A.units + 64 < cLine) (ho : PE X o (tVar i)) (hs : PlainIx (.Constant (.str "cells") kj kp)) : PE X (.Subscript o (.Constant (.str "cells") kj kp) pos) (fun σ H Q => ∃ x y s, σ[i]? = some (some (.ref x)) ∧ H x = some (.dK (srcKv y s)) ∧ Q (.ref y) H) :=
  pe_imp (pe_key hu ho hs) fun σ H Q ⟨x, y, s, h1, h2, q⟩ => ⟨.ref x, h1, x, _, .inr "cells", _, rfl, h2, rfl, valCells y s, q⟩
def cSrcLen (i : Nat) : Ev := fun s => match s.sl[i]?, s.src with
  | some (some .src), some sr => .ok (.sh (.int sr.cells.length)) s
  | _, _ => .err
theorem snE_srcLen {c : Expr} (hc : PE X c (fun σ H Q => ∃ x y s, σ[i]? = some (some (.ref x)) ∧ H x = some (.dK (srcKv y s)) ∧ Q (.ref y) H)) (hg : Gl X "len") (hm : X.mg "len" = none) (he : starEach (c :: []) X.env = (false, eval c X.env) :: starEach [] X.env := by rfl) :
    SnE X Z W (.Call (.Name "len" p) [c] [] pos) (cSrcLen i) := fun k => pe_imp (pe_callB call_len hg hm PyProof.Rows.Boot.«len» (pa_cons hc pa_nil he) (he := he)) fun σ H Q ⟨T, s, R, q⟩ => by
  unfold cSrcLen at q
  split at q
  · rename_i sr e1 e2
    obtain ⟨x, y, sr', hA, hv, e3, ne, hx, hy⟩ := R.src e1
    rw [e2] at e3; cases e3
    refine ⟨x, y, sr, hv, hx, .ref y, _, rfl, .inl ⟨_, SqL.of hy, rfl⟩, ?_⟩
    rw [List.length_map]
    exact q _ _ ⟨R.1, R.2.int _⟩
  · exact q.elim
def cSrcPop (i : Nat) : Ev := fun s => match s.sl[i]?, s.src with
  | some (some .src), some sr => match sr.cells[sr.cells.length - 1]? with
    | some n => .ok (.sh (.int n)) { s with src := some { sr with cells := sr.cells.dropLast } }
    | none => .err
  | _, _ => .err
theorem snE_srcPop {c : Expr} (hc : PE X c (fun σ H Q => ∃ x y s, σ[i]? = some (some (.ref x)) ∧ H x = some (.dK (srcKv y s)) ∧ Q (.ref y) H))
    (hbase : attributeBase c "pop" X.env (eval c X.env) = eval c X.env := by rfl) (hline : (apos.endLine == cpos.line) = true := by rfl) : SnE X Z W (.Call (.Attribute c "pop" apos) [] [] cpos) (cSrcPop i) := fun k =>
  pe_imp (pe_bm0 PySem.F.plainAttrs_list PySem.F.slot_list_pop PySem.F.type_list_pop mt_pop hc hbase hline) fun σ H Q ⟨T, s, R, q⟩ => by
  unfold cSrcPop at q
  split at q
  · rename_i sr e1 e2
    obtain ⟨x, y, sr', hA, hv, e3, ne, hx, hy⟩ := R.src e1
    rw [e2] at e3; cases e3
    split at q
    · rename_i n e4
      refine ⟨x, y, sr, hv, hx, .inl ⟨rfl, _, SqL.of hy⟩, y, _, .int n, rfl, rfl, hy, by rw [List.length_map, List.getElem?_map, e4]; rfl, q _ _ ⟨R.1, ?_⟩⟩
      have R2 : Rel Z H (some sr) (T ++ List.zip σ s.sl) := by rw [← e2]; exact R.2
      exact (R2.srcTo (sr' := { sr with cells := sr.cells.dropLast }) hA (fun b _ h => upd_ne h) (by rw [upd_ne ne]; exact hx) (by rw [upd_same, List.map_dropLast])).int n
    · exact q.elim
  · exact q.elim
def PutOk (k : Str) (put : Src → Int → Src) : Prop := ∀ y s n, putK (srcKv y s) (.inr k) (.int n) = srcKv y (put s n) ∧ (put s n).cells = s.cells
def cSrcSet (i : Nat) (put : Src → Int → Src) (f : Ev) : Sm := fun s => (f s).bind fun r s1 => match r, s1.sl[i]?, s1.src with
  | .sh (.int n), some (some .src), some sr => .ok .nx { s1 with src := some (put sr n) }
  | _, _, _ => .err
theorem snS_srcSet {put : Src → Int → Src} (hk : PutOk k put) (hu : X.A.units + 64 < cLine) (ho : PE X o (tVar i)) (he : SnE X Z W e f) (hs : swapsWithSole [.Subscript o (.Constant (.str k) kj kp) pos'] e pos.line X.env = pure false := by rfl)
    (hw : swappedStores [.Subscript o (.Constant (.str k) kj kp) pos'] e X.env = pure none := by rfl) (h1 : (assignEach [.Subscript o (.Constant (.str k) kj kp) pos'] X.env).map (·.2) = [assign (.Subscript o (.Constant (.str k) kj kp) pos') X.env] := by rfl)
    (ha : ∀ v, assign (.Subscript o (.Constant (.str k) kj kp) pos') X.env v = (do
      let ov ← holding [v] (eval o X.env)
      let iv ← holding [v, ov] (eval (.Constant (.str k) kj kp) X.env)
      standAt pos'
      holding [v, ov, iv] (setItem ov iv v)
      release [v, ov, iv] []) := by intro _; rfl) : SnS X Z W (.Assign [.Subscript o (.Constant (.str k) kj kp) pos'] e pos) (cSrcSet i put f) := fun zk => ps_imp (ps_asg (he zk) (pg_sub ho pe_str (set_dict (by omega)) ha) hs hw h1) fun D σ H ⟨T, s, R, q⟩ => by
  refine ⟨T, s, R, Res.sat_mono (Res.sat_bind.mp q) (fun r s1 q v H1 R1 => ?_) fun e s h => h σ⟩
  split at q
  · rename_i n sr e1 e2
    obtain ⟨x, y, sr', hA, hv, e3, ne, hx, hy⟩ := RelS.src R1 e1
    rw [e2] at e3; cases e3
    obtain ⟨O, R0⟩ := id R1.2
    have hr := shRp (x := (none, none)) (w := v) (d := .int n) (by simp) R0
    cases hr.int_inv
    obtain ⟨k1, k2⟩ := hk y sr n
    refine ⟨.ref x, hv, x, _, rfl, DPut.k (k := .inr k) hx (by show 4 < sizeLine; decide), q σ _ ⟨R1.1, ?_⟩⟩
    have R2 : Rel Z H1 (some sr) (T ++ List.zip σ s1.sl) := by rw [← e2]; exact R1.2.pop
    exact R2.srcTo hA (fun b h _ => upd_ne h) (by rw [upd_same, k1]) (by rw [upd_ne (Ne.symm ne), k2]; exact hy)
  · exact q.elim
theorem sel_left : SelOk "left" Src.left := fun _ _ => rfl
theorem sel_mixed : SelOk "mixed" Src.mixed := fun _ _ => rfl
theorem sel_turn : SelOk "turn" Src.turn := fun _ _ => rfl
def putLeft (s : Src) (n : Int) : Src := { s with left := n }
def putMixed (s : Src) (n : Int) : Src := { s with mixed := n }
def putTurn (s : Src) (n : Int) : Src := { s with turn := n }
theorem put_left : PutOk "left" putLeft := fun _ _ _ => ⟨rfl, rfl⟩
theorem put_mixed : PutOk "mixed" putMixed := fun _ _ _ => ⟨rfl, rfl⟩
theorem put_turn : PutOk "turn" putTurn := fun _ _ _ => ⟨rfl, rfl⟩
end
end Pw
set_option Elab.async false
set_option linter.all false
set_option maxRecDepth 100000
namespace Pw
open PySem PySem.Spec PyProof.Rows L2
section
variable {X : Cx} {Z : Zx} {W : WX} {o e a b : Expr} {es : List Expr} {f fa : Ev} {fb : Vw} {ga : Ag} {i : Nat} {x : Str} {p p1 p2 p3 pos pos' apos cpos : Pos} {H : Hp} {σ : L2.St} {T : List Ent} {s : S} {L : List Ent} {src : Option Src} {O : Addr → Prop} {v : V}
/-! ### module constants, functions by name -/
theorem snE_glob {d : D} (hg : Gl X x) (h : ∃ u, X.mg x = some u ∧ RelV (vOf d) u) (hf : flat d) (hd : (x == ("__debug__" : Str)) = false := by decide) : SnE X Z W (.Name x pos) (cD d) := snE_C (C8.pe_gc hg h hd) hf rfl
def cFn (a : Addr) : Ev := fun s => .ok (.fn a) s
theorem snE_fn {c : Addr} (hg : Gl X x) (hm : X.mg x = some (.ref c)) (hd : (x == ("__debug__" : Str)) = false := by decide) : SnE X Z W (.Name x pos) (cFn c) := fun _ => pe_imp (pe_glob (v := .ref c) hg hm rfl hd) fun σ H Q ⟨T, s, R, q⟩ => by
  refine q _ _ ⟨R.1, ?_⟩
  obtain ⟨O, r⟩ := R.2
  exact ⟨O, r.push mild_fn fun s q => by cases q; exact ⟨_, rfl, rfl⟩⟩
/-! ### built-ins of several arguments -/
def rCN (K : PySem.W.Frag) (g : List D → Option SV) : List V → Hp → VK → Prop := fun xs H Q => ∃ Z src L ds r, Z.K = K ∧ Rel Z H src L ∧ AllSh L xs ds ∧ g ds = some r ∧ ∀ v H', Rel Z H' src ((some v, some r) :: L) → Q v H'
def cCallN (g : List D → Option SV) (ga : Ag) : Ev := fun s => (ga s).bind fun rs s1 => match datas rs with
  | some ds => Res.opt (g ds) s1
  | none => .err
theorem rd_callN {g : List D → Option SV} {Q : VK} (q : LE Z W (cCallN g ga) σ H Q) : LA Z W ga σ H fun xs H1 => rCN Z.K g xs H1 Q := by
  obtain ⟨T, s, R, q⟩ := q
  refine ⟨T, s, R, Res.sat_mono (Res.sat_bind.mp q) (fun rs s1 q vs H1 hl R1 => ?_) fun e s h => h⟩
  split at q
  · rename_i ds ed
    obtain ⟨r, er, q⟩ := sat_opt q
    have e3 := datas_sh ed
    subst e3
    refine ⟨Z, s1.src, _, ds, r, rfl, R1.2, ⟨by simpa using hl, fun e he => List.mem_append_left _ (List.mem_append_left _ he)⟩, er, fun v H' R2 => q v H' ⟨R1.1, ?_⟩⟩
    have R3 : Rel Z H' s1.src (ents vs (ds.map .sh) ++ ((some v, some r) :: (T ++ List.zip σ s1.sl))) := R2.perm (by rw [List.append_assoc]; exact List.perm_middle.symm)
    exact Rel.popN _ R3
  · exact q.elim
theorem snE_callN {id : String} {g : List D → Option SV} (hc : CallR X (.builtin id) (rCN X.K g)) (hg : Gl X x) (hm : X.mg x = none) (hv : bootBuiltins x = some (.builtin id)) (ha : SnA X Z W (e :: es) ga) (hn : x ≠ "__name__" := by decide) (hdb : (x == ("__debug__" : Str)) = false := by decide)
    (he : starEach (e :: es) X.env = (false, eval e X.env) :: starEach es X.env := by rfl) (hpl : (backTo pos (starEach es X.env)).any (·.1) = false := by rfl) : SnE X Z W (.Call (.Name x p) (e :: es) [] pos) (cCallN g ga) := fun k =>
  pe_imp (pe_callB hc hg hm hv (ha k) hn hdb he hpl) fun σ H Q q => by
    have q := rd_callN q
    rw [← k] at q
    exact q
theorem AllSh.two {xs : List V} {d d' : D} (h : AllSh L xs [d, d']) : ∃ u v, xs = [u, v] ∧ (some u, some (SV.sh d)) ∈ L ∧ (some v, some (SV.sh d')) ∈ L := by
  obtain ⟨hl, h⟩ := h
  match xs, hl with
  | [u, v], _ => exact ⟨u, v, rfl, h _ (by simp [ents]), h _ (by simp [ents])⟩
def dMax2 : List D → Option SV
  | [.int i, .int j] => some (.sh (.int (if j > i then j else i)))
  | _ => none
def dMin2 : List D → Option SV
  | [.int i, .int j] => some (.sh (.int (if j < i then j else i)))
  | _ => none
theorem call_maxN (hc : X.calm = true) : CallR X (.builtin "max") (rCN X.K dMax2) := by
  intro pins s σ H xs us Q I rx h
  obtain ⟨Z, src, L, ds, r, hK, R, hs, e, q⟩ := h
  unfold dMax2 at e
  split at e
  · cases e
    obtain ⟨u, v, rfl, h1, h2⟩ := hs.two
    obtain ⟨O, R0⟩ := id R
    cases (shRp (x := (none, none)) h1 R0).int_inv
    cases (shRp (x := (none, none)) h2 R0).int_inv
    exact call_max2 hc pins s σ H _ us Q I rx ⟨_, _, rfl, q _ _ (R.int _)⟩
  · cases e
theorem call_minN (hc : X.calm = true) : CallR X (.builtin "min") (rCN X.K dMin2) := by
  intro pins s σ H xs us Q I rx h
  obtain ⟨Z, src, L, ds, r, hK, R, hs, e, q⟩ := h
  unfold dMin2 at e
  split at e
  · cases e
    obtain ⟨u, v, rfl, h1, h2⟩ := hs.two
    obtain ⟨O, R0⟩ := id R
    cases (shRp (x := (none, none)) h1 R0).int_inv
    cases (shRp (x := (none, none)) h2 R0).int_inv
    exact call_min2 hc pins s σ H _ us Q I rx ⟨_, _, rfl, q _ _ (R.int _)⟩
  · cases e
/-! ### bit_length -/
def cBits (f : Vw) : Ev := fun s => (f s).bind fun d s1 => match d with
  | .int n => .ok (.sh (.int (Builtin.Int.intBits n : Nat))) s1
  | _ => .err
theorem snE_bits (ho : SnV X Z W o fb) (hbase : attributeBase o "bit_length" X.env (eval o X.env) = eval o X.env := by rfl) (hline : (apos.endLine == pos.line) = true := by rfl) : SnE X Z W (.Call (.Attribute o "bit_length" apos) [] [] pos) (cBits fb) := fun k => pe_imp (pe_bits (ho k) hbase hline) fun σ H Q ⟨T, s, R, q⟩ => by
  refine ⟨T, s, R, Res.sat_mono (Res.sat_bind.mp q) (fun d s1 q v H1 T' R1 hv => ?_) fun e s h => h⟩
  split at q
  · obtain ⟨O, R0⟩ := id R1.2
    exact ⟨_, R0.int hv, q _ _ ⟨R1.1, Rel.int (RelS.popN R1).2 _⟩⟩
  · exact q.elim
/-! ### the list turned about -/
def cRev (f : Vw) : Ev := fun s => (f s).bind fun d s1 => match d with
  | .list ds => .ok (.own (.list ds.reverse)) s1
  | _ => .err
theorem snE_rev {k : Nat} (ho : SnV X Z W e fb) : SnE X Z W (.Subscript e (.Slice none none (some (.UnaryOp .USub (.Constant (.int 1) k p1) p2)) p3) pos) (cRev fb) := fun kz => pe_imp (pe_revL (ho kz)) fun σ H Q ⟨T, s, R, q⟩ => by
  refine ⟨T, s, R, Res.sat_mono (Res.sat_bind.mp q) (fun d s1 q v H1 T' R1 hv => ?_) fun e s h => h⟩
  split at q
  · obtain ⟨O, R0⟩ := id R1.2
    obtain ⟨c, xs, e1, hc, ra⟩ := R0.list hv
    refine ⟨c, xs, e1, SqL.of hc, fun p hp => q _ _ ⟨R1.1, ?_⟩⟩
    have R2 := R1.2.newListOf hp (xs := xs.reverse) fun O' R' => by
      obtain ⟨c', xs', e1', hc', ra'⟩ := R'.list hv
      rw [e1] at e1'
      cases e1'
      rw [hc] at hc'
      cases hc'
      exact ra'.reverse
    have R3 : Rel Z (upd H1 p (.lst xs.reverse)) s1.src (T' ++ ((some (.ref p), some (.own (.list _))) :: (T ++ List.zip σ s1.sl))) := R2.perm (by rw [List.append_assoc]; exact List.perm_middle.symm)
    exact Rel.popN _ R3
  · exact q.elim
/-! ### slices -/
def bnd (b : Option Vw) : S → Res (Option Int) := fun s => match b with
  | none => .ok none s
  | some f => (f s).bind fun d s1 => match d with
    | .int i => .ok (some i) s1
    | _ => .err
def SnO (X : Cx) (Z : Zx) (W : WX) (e : Option Expr) (b : Option Vw) : Prop := match e, b with
  | none, none => True
  | some e, some f => SnV X Z W e f
  | _, _ => False
def LO (Z : Zx) (W : WX) (b : Option Vw) : TO := fun σ H Q => ∃ T s, RelS Z H σ T s ∧ (bnd b s).sat (fun d s' => ∀ H', RelS Z H' σ T s' → Q d H') (ExP Z σ T W)
theorem po_of {e : Option Expr} {b : Option Vw} (h : SnO X Z W e b) (k : X.K = Z.K) : PO X e (LO Z W b) := by
  match e, b, h with
  | none, none, _ =>
    have := po_none (X := X)
    exact ⟨fun pins s σ H Q I ⟨T, s1, R, q⟩ => this.run pins s σ H Q I (q H R)⟩
  | some e, some f, h =>
    have := po_some (h k)
    refine ⟨fun pins s σ H Q I ⟨T, s1, R, q⟩ => this.run pins s σ H Q I ⟨T, s1, R, Res.sat_mono (Res.sat_bind.mp q) (fun d s2 q v H1 T' R1 hv => ?_) fun e s h => h⟩⟩
    split at q
    · obtain ⟨O, R0⟩ := id R1.2
      exact ⟨_, R0.int hv, q _ R1.popN⟩
    · exact q.elim
def cutD (ds : List D) (lo hi : Option Int) : List D := (ds.drop (HT.sIx ds.length 0 lo)).take (HT.sIx ds.length ds.length hi - HT.sIx ds.length 0 lo)
def dSl (d : D) (lo hi : Option Int) : Option SV := match d with
  | .list ds => some (.own (.list (cutD ds lo hi)))
  | .tuple ds => if HT.sIx ds.length 0 lo = 0 ∧ HT.sIx ds.length ds.length hi = ds.length then none else some (.sh (.tuple (cutD ds lo hi)))
  | .str z => if z.length ≤ sizeLine then some (.sh (.str (Txt.slice z lo hi))) else none
  | _ => none
def rSlD (K : PySem.W.Frag) : V → Option Int → Option Int → Hp → VK → Prop := fun x lo hi H Q => ∃ Z src L d r, Z.K = K ∧ Rel Z H src L ∧ Has L x d ∧ dSl d lo hi = some r ∧ ∀ v H', Rel Z H' src ((some v, some r) :: L) → Q v H'
theorem cut_rp {K} {O : Addr → Prop} {xs : List V} {ds : List D} {lo hi : Option Int} (r : RpA K H O xs ds) : RpA K H O (cutV xs lo hi) (cutD ds lo hi) := by
  unfold cutV cutD
  rw [r.length]
  exact (r.drop _).take _
theorem slR : SlR X (rSlD X.K) := by
  intro pins s σ H x v vl vu lo hi sl Q I rx hs pl pu h
  obtain ⟨Z, src, L, d, r, hK, R, hx, e, q⟩ := h
  obtain ⟨O, R0⟩ := id R
  unfold dSl at e
  split at e
  · cases e
    obtain ⟨c, xs, e1, hc, ra⟩ := R0.list hx
    refine sl_list pins s σ H x v vl vu lo hi sl Q I rx hs pl pu ⟨c, xs, e1, SqL.of hc, fun p hp => q _ _ (R.newListOf hp fun O' R' => ?_)⟩
    obtain ⟨c', xs', e1', hc', ra'⟩ := R'.list hx
    rw [e1] at e1'
    cases e1'
    rw [hc] at hc'
    cases hc'
    exact cut_rp ra'
  · split at e
    · cases e
    · rename_i hw
      cases e
      obtain ⟨c, xs, e1, hc, ra⟩ := R0.tuple hx
      rw [hK] at hc
      refine sl_tup pins s σ H x v vl vu lo hi sl Q I rx hs pl pu ⟨c, xs, e1, hc, by rw [ra.length]; exact hw, fun p hp => q _ _ (R.newTup hp fun O' R' => ?_)⟩
      obtain ⟨c', xs', e1', hc', ra'⟩ := R'.tuple hx
      rw [hK] at hc'
      rw [e1] at e1'
      cases e1'
      have := I.tuple_inj hc hc'
      subst this
      exact cut_rp ra'
  · split at e
    · rename_i hz
      cases e
      exact C8.sl_txt pins s σ H x v vl vu lo hi sl Q I rx hs pl pu ⟨_, R0.str hx, hz, q _ _ (R.str _)⟩
    · cases e
  · cases e
/-- the receiver's value is kept -/
def cSlE (f : Ev) (lo hi : Option Vw) : Ev := fun s => (f s).bind fun r s1 => (bnd lo s1).bind fun l s2 => (bnd hi s2).bind fun h s3 => match r.dat with
  | some d => Res.opt (dSl d l h) s3
  | none => .err
/-- the receiver's name is read late -/
def cSlV (i : Nat) (lo hi : Option Vw) : Ev := fun s => match datAt s i with
  | some _ => (bnd lo s).bind fun l s2 => (bnd hi s2).bind fun h s3 => match datAt s3 i with
    | some d => Res.opt (dSl d l h) s3
    | none => .err
  | none => .err
theorem exP_pop {e : Ex} {x : Ent} (h : ExP Z σ (x :: T) W e s) (hx : ∀ dd H', RelS Z H' σ ((some (.ref dd), some (.exd e.fs)) :: T) s → RelS Z H' σ ((some (.ref dd), some (.exd e.fs)) :: x :: T) s) : ExP Z σ T W e s := fun dd H' R => h dd H' (hx dd H' R)
theorem exP_popT {e : Ex} {x : Ent} (h : ExP Z σ T W e s) : ExP Z σ (x :: T) W e s := fun dd H' R => h dd H' ⟨R.1, (R.perm (List.Perm.swap _ _ _)).pop.2⟩
theorem snE_slE {lo hi : Option Expr} {l h : Option Vw} (ha : SnE X Z W e fa) (hl : SnO X Z W lo l) (hh : SnO X Z W hi h) : SnE X Z W (.Subscript e (.Slice lo hi none p2) pos) (cSlE fa l h) := fun k => pe_imp (pe_slice slR (ha k) (po_of hl k) (po_of hh k)) fun σ H Q ⟨T, s, R, q⟩ => by
  refine ⟨T, s, R, Res.sat_mono (Res.sat_bind.mp q) (fun r s1 q v H1 R1 => ?_) fun e s h => h⟩
  refine ⟨_, s1, R1, Res.sat_mono (Res.sat_bind.mp q) (fun l s2 q H2 R2 => ?_) fun e s h => exP_popT h⟩
  refine ⟨_, s2, R2, Res.sat_mono (Res.sat_bind.mp q) (fun h s3 q H3 R3 => ?_) fun e s h => exP_popT h⟩
  split at q
  · rename_i d ed
    obtain ⟨r', er, q⟩ := sat_opt q
    exact ⟨Z, s3.src, _, d, r', k.symm, R3.2, ⟨r, by simp, ed⟩, er, fun w H' R' => q w H' ⟨R3.1, (Rel.perm R' (List.Perm.swap _ _ _)).pop⟩⟩
  · exact q.elim
theorem snE_slV {lo hi : Option Expr} {l h : Option Vw} (ho : PE X e (tVar i)) (hl : SnO X Z W lo l) (hh : SnO X Z W hi h) : SnE X Z W (.Subscript e (.Slice lo hi none p2) pos) (cSlV i l h) := fun k => pe_imp (pe_slice slR ho (po_of hl k) (po_of hh k)) fun σ H Q ⟨T, s, R, q⟩ => by
  unfold cSlV at q
  split at q
  · rename_i d0 e0
    obtain ⟨v, hv, _⟩ := R.datAt e0
    refine ⟨v, hv, T, s, R, Res.sat_mono (Res.sat_bind.mp q) (fun l s2 q H2 R2 => ?_) fun e s h => h⟩
    refine ⟨T, s2, R2, Res.sat_mono (Res.sat_bind.mp q) (fun h s3 q H3 R3 => ?_) fun e s h => h⟩
    split at q
    · rename_i d ed
      obtain ⟨r', er, q⟩ := sat_opt q
      obtain ⟨v', hv', hm⟩ := R3.datAt ed
      rw [hv] at hv'
      cases hv'
      exact ⟨Z, s3.src, _, d, r', k.symm, R3.2, hm, er, fun w H' R' => q w H' ⟨R3.1, R'⟩⟩
    · exact q.elim
  · exact q.elim
/-! ### lists of a range, of a dict's items -/
def cListRg (f : Vw) : Ev := fun s => (f s).bind fun d s1 => match d with
  | .int j => if -(2 ^ 62) ≤ j ∧ j < 2 ^ 62 ∧ j.toNat ≤ 2 ^ 24 then .ok (.own (.list (rgD 0 j.toNat))) s1 else .err
  | _ => .err
def cListRg2 (f g : Vw) : Ev := fun s => (f s).bind fun d s1 => match d with
  | .int i => (g s1).bind fun d' s2 => match d' with
    | .int j => if -(2 ^ 62) ≤ i ∧ i < 2 ^ 62 ∧ -(2 ^ 62) ≤ j ∧ j < 2 ^ 62 ∧ (j - i).toNat ≤ 2 ^ 24 then .ok (.own (.list (rgD i (j - i).toNat))) s2 else .err
    | _ => .err
  | _ => .err
theorem rp_rg {K} {O : Addr → Prop} {i j : Int} : RpA K H O (rgV i j) (rgD i (j - i).toNat) := by
  unfold rgV rgD
  generalize (j - i).toNat = n
  induction n with
  | zero => exact .nil
  | succ n ih =>
    rw [List.range_succ, List.map_append, List.map_append]
    exact ih.append (.cons (.int _) .nil)
theorem rel_rg {i j : Int} {q : Addr} (R : RelS Z H σ T s) (hq : H q = none) : RelS Z (upd H q (.lst (rgV i j))) σ ((some (.ref q), some (.own (.list (rgD i (j - i).toNat)))) :: T) s := ⟨R.1, R.2.newListOf hq fun O _ => rp_rg⟩
theorem snE_listRg1 (hc : X.calm = true) (hgl : Gl X "list") (hml : X.mg "list" = none) (hg : Gl X "range") (hm : X.mg "range" = none) (ha : SnV X Z W a fb) (na : starEach [a] X.env = (false, eval a X.env) :: starEach [] X.env := by rfl)
    (nb : starEach [.Call (.Name "range" p1) [a] [] p2] X.env = (false, eval (.Call (.Name "range" p1) [a] [] p2) X.env) :: starEach [] X.env := by rfl) : SnE X Z W (.Call (.Name "list" p) [.Call (.Name "range" p1) [a] [] p2] [] pos) (cListRg fb) := fun k =>
  pe_imp (pe_listRg hc hgl hml (prg_1 hg hm (ha k) na) nb) fun σ H Q ⟨T, s, R, q⟩ => by
  refine ⟨T, s, R, Res.sat_mono (Res.sat_bind.mp q) (fun d s1 q v H1 T' R1 hv => ?_) fun e s h => h⟩
  split at q
  · rename_i j
    split at q
    · rename_i hz
      obtain ⟨O, R0⟩ := id R1.2
      refine ⟨j, R0.int hv, ⟨by decide, by decide, hz.1, hz.2.1, by rw [Int.sub_zero]; exact hz.2.2⟩, fun p hp => q _ _ ?_⟩
      have := rel_rg (i := 0) (j := j) R1.popN hp
      rwa [Int.sub_zero] at this
    · exact q.elim
  · exact q.elim
theorem snE_listRg2 {fc : Vw} (hc : X.calm = true) (hgl : Gl X "list") (hml : X.mg "list" = none) (hg : Gl X "range") (hm : X.mg "range" = none) (ha : SnV X Z W a fb) (hb : SnV X Z W b fc) (na : starEach [a, b] X.env = (false, eval a X.env) :: starEach [b] X.env := by rfl) (nb : starEach [b] X.env = (false, eval b X.env) :: starEach [] X.env := by rfl)
    (nc : starEach [.Call (.Name "range" p1) [a, b] [] p2] X.env = (false, eval (.Call (.Name "range" p1) [a, b] [] p2) X.env) :: starEach [] X.env := by rfl) (hp : (backTo p2 (starEach [b] X.env)).any (·.1) = false := by rfl) : SnE X Z W (.Call (.Name "list" p) [.Call (.Name "range" p1) [a, b] [] p2] [] pos) (cListRg2 fb fc) := fun k =>
  pe_imp (pe_listRg hc hgl hml (prg_2 hg hm (ha k) (hb k) na nb hp) nc) fun σ H Q ⟨T, s, R, q⟩ => by
  refine ⟨T, s, R, Res.sat_mono (Res.sat_bind.mp q) (fun d s1 q v H1 T' R1 hv => ?_) fun e s h => h⟩
  split at q
  · rename_i i
    refine ⟨T' ++ T, s1, R1, Res.sat_mono (Res.sat_bind.mp q) (fun d s2 q v2 H2 T2 R2 hv2 => ?_) fun e s h => h.less T'⟩
    obtain ⟨O, R0⟩ := id R1.2
    have ev := R0.int hv
    split at q
    · rename_i j
      split at q
      · rename_i hz
        obtain ⟨O2, R02⟩ := id R2.2
        exact ⟨i, j, ev, R02.int hv2, hz, fun p hp => q _ _ (rel_rg R2.popN.popN hp)⟩
      · exact q.elim
    · exact q.elim
  · exact q.elim
def itemsD (ds : List (D × D)) : List D := ds.map fun p => .tuple [p.1, p.2]
def cItems (f : Vw) : Ev := fun s => (f s).bind fun d s1 => match d with
  | .dict ds => .ok (.own (.list (itemsD ds))) s1
  | _ => .err
theorem rp_key {K} {O : Addr → Prop} (k : Key) : Rp K H O (kV k) (keyD k) := by
  cases k
  · exact .int _
  · exact .str _
theorem rp_items {K} {O O2 : Addr → Prop} {H' : Hp} (hk : ∀ b o, H b = some o → H' b = some o) (ho : ∀ b, O2 b → O b ∨ H b = none) : ∀ {kvs : List (Key × V)} {ds : List (D × D)} {ts : List Addr}, RpD K H O kvs ds → (∀ t ∈ ts, ¬ O2 t) → Paired (fun (t : Addr) (q : Key × V) => H' t = some (.tup [kV q.1, q.2])) ts kvs → RpA K H' O2 (ts.map V.ref) (itemsD ds)
  | _, _, [], .nil, _, _ => .nil
  | _, _, _ :: _, .nil, _, p => by cases p
  | _, _, [], .cons _ _, _, p => by cases p
  | _, _, t :: ts, .cons (k := k) r rs, hn, .cons h p => .cons (.tup h (hn t List.mem_cons_self) (.cons (rp_key _) (.cons (r.keep (fun b x e _ => hk b x e) ho) .nil))) (rp_items hk ho rs (fun t ht => hn t (List.mem_cons_of_mem _ ht)) p)
theorem Rel.grown (R : Rel Z H src L) {H' : Hp} (hk : ∀ b o, H b = some o → H' b = some o) : Rel Z H' src L := by
  obtain ⟨O, r⟩ := R
  exact ⟨O, r.oc, fun e he => (Stp.of_keep hk).ent .none (r.ent e he), r.ap, srcOk_step _ (fun b x _ e => hk b x e) (fun _ _ o => o) r.src, fun b x e n => hk b x (r.base b x e n), fun b z => let ⟨x, e⟩ := r.live b z; ⟨x, hk b x e⟩⟩
/-- an object that came beside, told as a list -/
theorem Rel.ownAt {H' : Hp} {p : Addr} {vs : List V} {ds : List D} (R : Rel Z H src L) (hk : ∀ b o, H b = some o → H' b = some o) (hp : H p = none) (hv : H' p = some (.lst vs)) (hr : ∀ O, RelO Z H src L O → RpA Z.K H' (fun b => O b ∨ b = p) vs ds) : Rel Z H' src ((some (.ref p), some (.own (.list ds))) :: L) := by
  obtain ⟨O, r⟩ := R
  have t : Stp H H' O (fun b => O b ∨ b = p) (fun _ => False) := ⟨fun b x e _ => hk b x e, fun _ z => z.elim, fun b z => z.elim .inl fun z => .inr (z ▸ hp), fun _ z _ => .inl z⟩
  have nA := r.freshA hp (srcOk_some r.src)
  refine ⟨fun b => O b ∨ b = p, fun b z => .inl (r.oc b z), fun f hf => ?_, List.pairwise_cons.mpr ⟨fun f hf => ?_, r.ap⟩, srcOk_step _ (fun b x _ e => hk b x e) (fun _ _ o => .inl o) r.src, fun b x e n => hk b x (r.base b x e n), fun b z => ?_⟩
  · rcases List.mem_cons.mp hf with rfl | hf
    · intro s q
      cases q
      exact ⟨_, rfl, p, rfl, .inr rfl, ⟨r.fresh0 hp nA, fun z => r.fresh hp (r.oc p z)⟩, nA, vs, hv, hr O r⟩
    · exact t.ent .none (r.ent f hf)
  · intro d1 d2 a h1 h2 h3 h4
    obtain ⟨w, e1, a', e2, oa, _⟩ := r.ent f hf _ h2
    rw [e1] at h4
    have h3 : some (V.ref p) = some (V.ref a) := h3
    injection h3 with h3
    injection h3 with h3
    injection h4 with h4
    rw [e2] at h4
    injection h4 with h4
    rw [h4, ← h3] at oa
    exact r.fresh hp oa
  · rcases z with z | rfl
    · obtain ⟨x, e⟩ := r.live b z
      exact ⟨x, hk b x e⟩
    · exact ⟨_, hv⟩
theorem snE_items (hc : X.calm = true) (he : SnV X Z W e fb) (hg : Gl X "list") (hm : X.mg "list" = none) (hbase : attributeBase e "items" X.env (eval e X.env) = eval e X.env := by rfl) (hline : (apos.endLine == cpos.line) = true := by rfl)
    (hs : starEach [.Call (.Attribute e "items" apos) [] [] cpos] X.env = (false, eval (.Call (.Attribute e "items" apos) [] [] cpos) X.env) :: starEach [] X.env := by rfl) : SnE X Z W (.Call (.Name "list" p) [.Call (.Attribute e "items" apos) [] [] cpos] [] pos) (cItems fb) := fun k =>
  pe_imp (LiI.pe_listItems hc (he k) hg hm PyProof.Rows.Boot.«list» hbase hline hs) fun σ H Q ⟨T, s, R, q⟩ => by
  refine ⟨T, s, R, Res.sat_mono (Res.sat_bind.mp q) (fun d s1 q v H1 T' R1 hv => ?_) fun e s h => h⟩
  split at q
  · obtain ⟨O, R0⟩ := id R1.2
    obtain ⟨c, xs, e1, hc, ra⟩ := R0.dict hv
    refine ⟨c, xs, e1, hc, fun H2 p ts hk hp hts hpts hl hpair => q _ _ ⟨R1.1, ?_⟩⟩
    have R2 := R1.2.ownAt hk hp hl fun O' R' => by
      obtain ⟨c', xs', e1', hc', ra'⟩ := R'.dict hv
      rw [e1] at e1'
      cases e1'
      rw [hc] at hc'
      cases hc'
      refine rp_items hk (fun b z => z.elim .inl fun z => .inr (z ▸ hp)) ra' (fun t ht z => ?_) hpair
      rcases z with z | rfl
      · exact R'.fresh (hts t ht) z
      · exact hpts ht
    have R3 : Rel Z H2 s1.src (T' ++ ((some (.ref p), some (.own (.list (itemsD _)))) :: (T ++ List.zip σ s1.sl))) := R2.perm (by rw [List.append_assoc]; exact List.perm_middle.symm)
    exact Rel.popN _ R3
  · exact q.elim
end
end Pw
set_option Elab.async false
set_option linter.all false
set_option maxRecDepth 100000
namespace Pw
open PySem PySem.Spec PyProof.Rows L2
section
variable {X : Cx} {Z : Zx} {W : WX} {o e a b : Expr} {es : List Expr} {f fa : Ev} {fb : Vw} {ga : Ag} {i k : Nat} {x : Str} {p p1 p2 pos : Pos} {H : Hp} {σ : L2.St} {T : List Ent} {s : S} {L : List Ent} {src : Option Src} {O : Addr → Prop} {v : V}
/-! ### displays of dicts -/
def cNewD : Ev := fun s => .ok (.own (.dict [])) s
theorem snE_newD : SnE X Z W (.Dict [] [] pos) cNewD := fun _ => pe_imp pe_dnewK fun σ H Q ⟨T, s, R, q⟩ p hp => q _ _ ⟨R.1, R.2.newDictOf hp fun O _ => .nil⟩
def cPairs : List (Ev × Ev) → S → Res (List (D × D))
  | [], s => .ok [] s
  | (fk, fv) :: r, s => (fk s).bind fun k s1 => (fv s1).bind fun v s2 => match k.settle, v.settle with
    | .sh dk, .sh dv => (cPairs r s2).bind fun ps s3 => .ok ((dk, dv) :: ps) s3
    | _, _ => .err
def keysD : List (D × D) → Option (List (Key × D))
  | [] => some []
  | (.int i, d) :: r => (keysD r).map ((.inl i, d) :: ·)
  | (.str i, d) :: r => (keysD r).map ((.inr i, d) :: ·)
  | _ => none
def putAll (ds : List (D × D)) (ps : List (Key × D)) : List (D × D) := ps.foldl (fun a p => dPut a p.1 p.2) ds
def cDisp (fs : List (Ev × Ev)) : Ev := fun s => (cPairs fs s).bind fun ps s1 => match keysD ps with
  | some ks => if ks.length ≤ 15 then .ok (.own (.dict (putAll [] ks))) s1 else .err
  | none => .err
def trsOf (Z : Zx) (W : WX) (fs : List (Ev × Ev)) : List (TE × TE) := fs.map fun f => (LE Z W f.1, LE Z W f.2)
inductive SnPs (X : Cx) (Z : Zx) (W : WX) : List (Option Expr) → List Expr → List (Ev × Ev) → Prop
  | nil : SnPs X Z W [] [] []
  | cons {k v : Expr} {ks : List (Option Expr)} {vs : List Expr} {fk fv : Ev} {fs : List (Ev × Ev)} : SnE X Z W k fk → SnE X Z W v fv → SnPs X Z W ks vs fs → SnPs X Z W (some k :: ks) (v :: vs) ((fk, fv) :: fs)
theorem SnPs.pps {ks : List (Option Expr)} {vs : List Expr} {fs : List (Ev × Ev)} (h : SnPs X Z W ks vs fs) (zk : X.K = Z.K) : PPs X pos ks vs (trsOf Z W fs) := by
  induction h with
  | nil => exact pps_nil
  | cons h1 h2 _ ih => exact pps_cons (h1 zk) (h2 zk) ih
def pEnts (ps : List (V × V)) (ds : List (D × D)) : List Ent := (List.zip ps ds).flatMap fun p => [(some p.1.1, some (.sh p.2.1)), (some p.1.2, some (.sh p.2.2))]
theorem rd_pairs : ∀ (fs : List (Ev × Ev)) {T : List Ent} {s : S} {H : Hp} {Q : List (V × V) → Hp → Prop}, RelS Z H σ T s → (cPairs fs s).sat (fun ds s' => ∀ ps H', ps.length = ds.length → RelS Z H' σ (pEnts ps ds ++ T) s' → Q ps H') (ExP Z σ T W) → tPairs (trsOf Z W fs) σ H Q
  | [], T, s, H, Q, R, q => q [] H rfl R
  | (fk, fv) :: fs, T, s, H, Q, R, q => by
    refine ⟨T, s, R, Res.sat_mono (Res.sat_bind.mp q) (fun k s1 q v H1 R1 => ?_) fun e s h => h⟩
    refine ⟨_, s1, R1, Res.sat_mono (Res.sat_bind.mp q) (fun k2 s2 q v2 H2 R2 => ?_) fun e s h => exP_popT h⟩
    have R3 := RelS.settleAny (RelS.perm R2.settleAny (List.Perm.swap _ _ _))
    split at q
    · rename_i dk dv e1 e2
      rw [e1, e2] at R3
      refine rd_pairs fs R3 (Res.sat_mono (Res.sat_bind.mp q) (fun ds s3 q ps H3 hl R4 => ?_) fun e s h => exP_popT (exP_popT h))
      refine q ((v, v2) :: ps) H3 (by simpa using hl) (R4.perm ?_)
      have e : pEnts ((v, v2) :: ps) ((dk, dv) :: ds) = (some v, some (.sh dk)) :: (some v2, some (.sh dv)) :: pEnts ps ds := rfl
      rw [e]
      exact List.perm_middle.trans ((List.perm_middle).cons _)
    · exact q.elim
theorem rp_keyInv {K} {O : Addr → Prop} {w : V} {d : D} {c : Key} (h : Rp K H O w d) (e : d = keyD c) : w = kV c := by
  subst e
  cases c
  · exact h.int_inv
  · exact h.str_inv
theorem pairs_keys (hR : RelO Z H src L O) : ∀ {ps : List (V × V)} {ds : List (D × D)} {ks : List (Key × D)}, ps.length = ds.length → (∀ e ∈ pEnts ps ds, e ∈ L) → keysD ds = some ks → ∃ kvs : List (Key × V), ps = kvs.map (fun kv => (kV kv.1, kv.2)) ∧ Paired (fun (p : Key × V) (q : Key × D) => p.1 = q.1 ∧ Rp Z.K H O p.2 q.2) kvs ks
  | [], [], ks, _, _, e => by cases e; exact ⟨[], rfl, .nil⟩
  | [], _ :: _, _, h, _, _ => by simp at h
  | _ :: _, [], _, h, _, _ => by simp at h
  | (v, w) :: ps, (dk, dv) :: ds, ks, hl, hm, e => by
    have m1 := hm (some v, some (.sh dk)) (by simp [pEnts])
    have m2 := hm (some w, some (.sh dv)) (by simp [pEnts])
    have hm' : ∀ e ∈ pEnts ps ds, e ∈ L := fun e he => hm e (by simp only [pEnts, List.zip_cons_cons, List.flatMap_cons]; exact List.mem_append_right _ he)
    have r1 := shRp (x := (none, none)) m1 hR
    have r2 := shRp (x := (none, none)) m2 hR
    cases dk <;> simp only [keysD, reduceCtorEq] at e
    · obtain ⟨ks', e1, rfl⟩ := Option.map_eq_some_iff.mp e
      obtain ⟨kvs, rfl, pr⟩ := pairs_keys hR (by simpa using hl) hm' e1
      cases r1.int_inv
      exact ⟨(.inl _, w) :: kvs, rfl, .cons ⟨rfl, r2⟩ pr⟩
    · obtain ⟨ks', e1, rfl⟩ := Option.map_eq_some_iff.mp e
      obtain ⟨kvs, rfl, pr⟩ := pairs_keys hR (by simpa using hl) hm' e1
      cases r1.str_inv
      exact ⟨(.inr _, w) :: kvs, rfl, .cons ⟨rfl, r2⟩ pr⟩
theorem kV_inj {a b : Key} (h : kV a = kV b) : a = b := by
  cases a <;> cases b <;> first | (cases h; rfl) | (cases h)
theorem map_inj_kv : ∀ {l m : List (Key × V)}, l.map (fun kv => (kV kv.1, kv.2)) = m.map (fun kv => (kV kv.1, kv.2)) → l = m
  | [], [], _ => rfl
  | [], _ :: _, h => by simp at h
  | _ :: _, [], h => by simp at h
  | (a, b) :: l, (c, d) :: m, h => by
    simp only [List.map_cons, List.cons.injEq, Prod.mk.injEq] at h
    obtain ⟨⟨h1, h2⟩, h3⟩ := h
    rw [kV_inj h1, h2, map_inj_kv h3]
theorem merge_rp {K} {O : Addr → Prop} : ∀ {kvs : List (Key × V)} {ks : List (Key × D)} {acc : List (Key × V)} {ds : List (D × D)}, Paired (fun (p : Key × V) (q : Key × D) => p.1 = q.1 ∧ Rp K H O p.2 q.2) kvs ks → RpD K H O acc ds → RpD K H O (mergeK acc kvs) (putAll ds ks)
  | _, _, _, _, .nil, r => r
  | _, _, _, _, .cons (a := p) (b := q) h t, r => by
    obtain ⟨h1, h2⟩ := h
    have := merge_rp t (r.put p.1 h2)
    unfold mergeK putAll at this ⊢
    rw [List.foldl_cons, List.foldl_cons, ← h1]
    exact this
theorem snE_disp {ks : List (Option Expr)} {vs : List Expr} {fs : List (Ev × Ev)} (h : SnPs X Z W ks vs fs) (hall : ks.all (·.isSome) = true := by rfl) (hl : ks.length = vs.length := by rfl) (h0 : ks ≠ [] := by decide) (h15 : ks.length ≤ 15 := by decide) : SnE X Z W (.Dict ks vs pos) (cDisp fs) := fun zk =>
  pe_imp (pe_disp (h.pps zk) hall hl h0 h15) fun σ H Q ⟨T, s, R, q⟩ p hp => by
  have R1 : RelS Z (upd H p (.dK [])) σ ((some (.ref p), some (.own (.dict []))) :: T) s := ⟨R.1, R.2.newDictOf hp fun O _ => .nil⟩
  refine rd_pairs fs R1 (Res.sat_mono (Res.sat_bind.mp q) (fun ds s1 q ps H1 hlen R2 => ?_) fun e s h => exP_popT h)
  split at q
  · rename_i kk ek
    split at q
    · rename_i hz
      have R3 : Rel Z H1 s1.src ((some (.ref p), some (.own (.dict []))) :: (pEnts ps ds ++ (T ++ List.zip σ s1.sl))) := R2.2.perm (by rw [List.append_assoc, List.cons_append]; exact List.perm_middle)
      obtain ⟨O, R0⟩ := id R3
      obtain ⟨w, e1, c, e2, oc, _, _, ys, hy, ry⟩ := R0.ent _ List.mem_cons_self _ rfl
      cases e1; cases e2
      cases ry
      have hm : ∀ e ∈ pEnts ps ds, e ∈ (some (V.ref p), some (SV.own (.dict []))) :: (pEnts ps ds ++ (T ++ List.zip σ s1.sl)) := fun e he => List.mem_cons_of_mem _ (List.mem_append_left _ he)
      obtain ⟨kvs, ep, pr⟩ := pairs_keys R0 hlen hm ek
      have lk : kvs.length ≤ 15 := by rw [Paired.length pr]; exact hz
      refine ⟨hy, kvs, ep, lk, q _ _ ⟨R2.1, ?_⟩⟩
      have R4 := R3.updOwn (o := .dK (mergeK [] kvs)) (d' := .dict (putAll [] kk)) fun O' R' rO oa => by
        obtain ⟨kvs', ep', pr'⟩ := pairs_keys R' hlen hm ek
        have ee : kvs' = kvs := by
          have : kvs'.map (fun kv => (kV kv.1, kv.2)) = kvs.map (fun kv => (kV kv.1, kv.2)) := ep'.symm.trans ep
          exact map_inj_kv this
        subst ee
        refine ⟨_, upd_same, (merge_rp pr' .nil).keep (fun b x e n => ?_) fun b z => .inl z⟩
        rw [upd_ne (fun z => n (by rw [z]; exact oa))]
        exact e
      have R5 : Rel Z (upd H1 p (.dK (mergeK [] kvs))) s1.src (pEnts ps ds ++ ((some (.ref p), some (.own (.dict (putAll [] kk)))) :: (T ++ List.zip σ s1.sl))) := R4.perm List.perm_middle.symm
      exact Rel.popN _ R5
    · exact q.elim
  · exact q.elim
/-! ### a tuple of functions -/
def fnsOf : List SV → Option (List Addr)
  | [] => some []
  | .fn a :: r => (fnsOf r).map (a :: ·)
  | _ => none
def cTupF (g : Ag) : Ev := fun s => (g s).bind fun rs s1 => match fnsOf rs with
  | some as => if as.length ≤ sizeLine then .ok (.fns as) s1 else .err
  | none => .err
theorem fns_vals : ∀ {vs : List V} {rs : List SV} {as : List Addr}, vs.length = rs.length → fnsOf rs = some as → (∀ e ∈ ents vs rs, EntOk Z H O e) → vs = as.map V.ref
  | [], [], as, _, e, _ => by cases e; rfl
  | v :: vs, r :: rs, as, hl, e, h => by
    cases r <;> first | (simp [fnsOf] at e; done) | skip
    rename_i c
    simp only [fnsOf, Option.map_eq_some_iff] at e
    obtain ⟨as', e1, rfl⟩ := e
    obtain ⟨w, e2, q⟩ := h (some v, some (.fn c)) (by simp [ents]) _ rfl
    cases e2
    have q : v = .ref c := q
    rw [q, fns_vals (vs := vs) (rs := rs) (by simpa using hl) e1 fun e he => h e (by simp only [ents, List.map_cons, List.zip_cons_cons]; exact List.mem_cons_of_mem _ he)]
    rfl
  | [], _ :: _, _, h, _, _ => by simp at h
  | _ :: _, [], _, h, _, _ => by simp at h
theorem snE_tupF {g : Ag} {x1} (h : SnA X Z W es g) : SnE X Z W (.Tuple es x1 pos) (cTupF g) := fun k => pe_imp (pe_tup (h k)) fun σ H Q ⟨T, s, R, q⟩ => by
  refine ⟨T, s, R, Res.sat_mono (Res.sat_bind.mp q) (fun rs s1 q vs H1 hl R1 => ?_) fun e s h => h⟩
  split at q
  · rename_i as e
    split at q
    · rename_i hz
      obtain ⟨O, r⟩ := R1.2
      have ev := fns_vals hl e fun x hx => r.ent x (by simp [hx])
      subst ev
      refine ⟨by simpa using hz, fun p hp => q _ _ ⟨R1.1, ?_⟩⟩
      have r2 : RelO Z (upd H1 p (.tup (as.map V.ref))) s1.src ((some (.ref p), some (.fns as)) :: (ents (as.map V.ref) rs ++ T ++ List.zip σ s1.sl)) O := (r.new hp).push mild_fns fun s q => by
        cases q
        exact ⟨_, rfl, p, rfl, r.fresh hp, upd_same⟩
      have r3 : Rel Z (upd H1 p (.tup (as.map V.ref))) s1.src (ents (as.map V.ref) rs ++ ((some (.ref p), some (.fns as)) :: (T ++ List.zip σ s1.sl))) := Rel.perm ⟨O, r2⟩ (by rw [List.append_assoc]; exact List.perm_middle.symm)
      exact Rel.popN _ r3
    · exact q.elim
  · exact q.elim
/-! ### a function that a name holds -/
abbrev Tab := Addr → Option (Nat × Fd)
structure HeldG (P : Program) (w : World) (K : PySem.W.Frag) (mg : Str → Option Value) (base : Heap) (k : Nat) (c : Addr) (np : Nat) (F : Fd) : Prop where
  ex : ∃ (fd : FuncData) (ps : List Str), ps.length = np ∧ FnG P w K mg base k c fd ps (spF K np F) ∧ PySem.W.keepIn K (.ref c) = true ∧ Binds K fd ps []
def cCallL (i : Nat) (tab : Tab) (ga : Ag) : Ev := fun s => match s.sl[i]? with
  | some (some (.fn c)) => match tab c with
    | some (np, F) => (ga s).bind fun rs s1 => appF np F rs s1
    | none => .err
  | _ => .err
theorem pe_GL {t : TA} {c : Addr} {fd : FuncData} {ps : List Str} {sp : Sp} (G : FnG X.prog X.w X.K X.mg X.base k c fd ps sp) (hr : Room k X.A) (hgd : X.A.guards = some []) (hx : PE X (.Name x p) (tVar i)) (hk : PySem.W.keepIn X.K (.ref c) = true) (hb : Binds X.K fd ps []) (tk : Takes X W) (ha : PA X (e :: es) t)
    (he : starEach (e :: es) X.env = (false, eval e X.env) :: starEach es X.env := by rfl) (hpl : (backTo pos (starEach es X.env)).any (·.1) = false := by rfl) : PE X (.Call (.Name x p) (e :: es) [] pos) (fun σ H Q => σ[i]? = some (some (.ref c)) ∧ tG sp (WE W) t σ H Q) := by
  refine ⟨fun pins s σ H Q I ⟨hs, h⟩ => wpAny_Call_Name_kw (thn (hx.run pins s σ H (fun v H1 => v = .ref c ∧ H1 = H) I ⟨.ref c, hs, rfl, rfl⟩) fun u s1 ⟨v, H1, I1, r1, q1, q2⟩ => ?_)⟩
  subst q1 q2
  cases r1
  exact PySem.W.callWith_K (h₀ := X.base) I.ok.mod.kin hk (thn (ha.run pos pins s1 σ _ _ I1 h) fun us s2 ⟨vs, H2, I2, r, q⟩ => ⟨I2.kIn, runG G hr hgd hb tk I2 r q⟩) he hpl
theorem snE_callL {tab : Tab} (A : ∀ c np F, tab c = some (np, F) → HeldG X.prog X.w X.K X.mg X.base k c np F) (hr : Room k X.A) (hgd : X.A.guards = some []) (hx : PE X (.Name x p) (tVar i)) (tk : Takes X W) (ha : SnA X Z W (e :: es) ga)
    (he : starEach (e :: es) X.env = (false, eval e X.env) :: starEach es X.env := by rfl) (hpl : (backTo pos (starEach es X.env)).any (·.1) = false := by rfl) : SnE X Z W (.Call (.Name x p) (e :: es) [] pos) (cCallL i tab ga) := fun zk => by
  refine ⟨fun pins s σ H Q I ⟨T, s0, R, q⟩ => ?_⟩
  unfold cCallL at q
  split at q
  · rename_i c e0
    split at q
    · rename_i np F et
      obtain ⟨fd, ps, hn, G, hk, hb⟩ := (A c np F et).ex
      subst hn
      obtain ⟨v, hv, hm⟩ := R.slot e0
      obtain ⟨O, R0⟩ := id R.2
      obtain ⟨w, e1, e2⟩ := R0.ent _ hm _ rfl
      cases e1
      have e2 : v = .ref c := e2
      subst e2
      refine (pe_GL G hr hgd hx hk hb tk (ha zk) he hpl).run pins s σ H Q I ⟨hv, T, s0, R, Res.sat_mono (Res.sat_bind.mp q) (fun rs s1 q vs H1 hl R1 => ?_) fun e s h => h⟩
      exact spF_of zk.symm hl R1 q
    · exact q.elim
  · exact q.elim
end
end Pw
set_option Elab.async false
set_option linter.all false
set_option maxRecDepth 100000
namespace Pw
open PySem PySem.Spec PyProof.Rows L2
section
variable {X : Cx} {Z : Zx} {W : WX} {o e a b c : Expr} {es : List Expr} {f fa fb' : Ev} {fb fc : Vw} {ga : Ag} {i k : Nat} {x : Str} {p p1 p2 pos : Pos} {H : Hp} {σ : L2.St} {T : List Ent} {s : S} {L : List Ent} {src : Option Src} {O : Addr → Prop} {v : V}
/-! ### a < b < c -/
def cChain (g g' : D → D → Option SV) (fa fb : Ev) (fc : Vw) : Ev := fun s => (fa s).bind fun r s1 => (fb s1).bind fun r' s2 => match r.dat, r'.dat with
  | some d, some d' => match g d d' with
    | some (.sh (.bool true)) => (fc s2).bind fun d3 s3 => Res.opt (g' d' d3) s3
    | some (.sh (.bool false)) => .ok (.sh (.bool false)) s2
    | _ => .err
  | _, _ => .err
theorem rd_chain {g g' : D → D → Option SV} {Q : VK} (q : LE Z W (cChain g g' fa fb' fc) σ H Q) : tChain (rD Z.K g) (rD Z.K g') (LE Z W fa) (LE Z W fb') (LV Z W fc) σ H Q := by
  obtain ⟨T, s, R, q⟩ := q
  refine ⟨T, s, R, Res.sat_mono (Res.sat_bind.mp q) (fun r s1 q v H1 R1 => ?_) fun e s h => h⟩
  refine ⟨_, s1, R1, Res.sat_mono (Res.sat_bind.mp q) (fun r' s2 q v' H2 R2 => ?_) fun e s h => exP_popT h⟩
  split at q
  · rename_i d d' e1 e2
    have h1 : Has ((some v', some r') :: (some v, some r) :: T ++ List.zip σ s2.sl) v d := ⟨r, by simp, e1⟩
    have h2 : Has ((some v', some r') :: (some v, some r) :: T ++ List.zip σ s2.sl) v' d' := ⟨r', by simp, e2⟩
    split at q
    · rename_i eg
      refine ⟨Z, s2.src, _, d, d', _, rfl, R2.2, h1, h2, eg, fun w H3 R3 => ⟨true, ?_, ?_⟩⟩
      · obtain ⟨O, R0⟩ := id R3
        exact R0.bl (i := true) ⟨.sh (.bool true), by simp, rfl⟩
      · rw [if_pos rfl]
        have R4 : RelS Z H3 σ ((some v', some r') :: (some v, some r) :: T) s2 := ⟨R2.1, Rel.pop R3⟩
        refine ⟨_, s2, R4, Res.sat_mono (Res.sat_bind.mp q) (fun d3 s3 q y H4 T' R5 hy => ?_) fun e s h => exP_popT (exP_popT h)⟩
        obtain ⟨r3, er, q⟩ := sat_opt q
        refine ⟨Z, s3.src, _, d', d3, r3, rfl, R5.2, ⟨r', by simp, e2⟩, hy, er, fun u H5 R6 => q u H5 ⟨R5.1, ?_⟩⟩
        have R7 : Rel Z H5 s3.src ((some u, some r3) :: ((T' ++ [(some v', some r'), (some v, some r)]) ++ (T ++ List.zip σ s3.sl))) := by simpa using R6
        exact R7.mid
    · rename_i eg
      refine ⟨Z, s2.src, _, d, d', _, rfl, R2.2, h1, h2, eg, fun w H3 R3 => ⟨false, ?_, ?_⟩⟩
      · obtain ⟨O, R0⟩ := id R3
        exact R0.bl (i := false) ⟨.sh (.bool false), by simp, rfl⟩
      · rw [if_neg Bool.false_ne_true]
        have R4 : Rel Z H3 s2.src ([(some v', some r'), (some v, some r)] ++ (T ++ List.zip σ s2.sl)) := by simpa using Rel.pop R3
        exact q _ _ ⟨R2.1, (Rel.popN _ R4).bl false⟩
    · exact q.elim
  · exact q.elim
theorem snE_chain {op op' : CmpOp} {g g' : D → D → Option SV} (ho : OpR X (compareOp op) (rD X.K g)) (ho' : OpR X (compareOp op') (rD X.K g')) (ha : SnE X Z W a fa) (hb : SnE X Z W b fb') (hc : SnV X Z W c fc) (hm : lastMarks [op, op'] [b, c] = false := by with_unfolding_all rfl) : SnE X Z W (.Compare a [op, op'] [b, c] pos) (cChain g g' fa fb' fc) := fun k =>
  pe_imp (pe_chain ho ho' (ha k) (hb k) (hc k) hm) fun σ H Q q => by rw [k]; exact rd_chain q
theorem snT_chain {op op' : CmpOp} {g g' : D → D → Option SV} (ho : OpR X (compareOp op) (rD X.K g)) (ho' : OpR X (compareOp op') (rD X.K g')) (ha : SnE X Z W a fa) (hb : SnE X Z W b fb') (hc : SnV X Z W c fc) (hm : lastMarks [op, op'] [b, c] = false := by with_unfolding_all rfl) : SnT X Z W (.Compare a [op, op'] [b, c] pos) (cT (cChain g g' fa fb' fc)) := fun k =>
  pt_imp (pt_chain ho ho' (ha k) (hb k) (hc k) hm) fun σ H Q q => rd_T (fun _ _ _ q => by rw [k]; exact rd_chain q) q
/-! ### - n -/
def cNeg (f : Vw) : Ev := fun s => (f s).bind fun d s1 => match d with
  | .int n => .ok (.sh (.int (-n))) s1
  | _ => .err
theorem snE_neg (ho : SnV X Z W o fb) : SnE X Z W (.UnaryOp .USub o pos) (cNeg fb) := fun k => pe_imp (pe_un un_neg (ho k)) fun σ H Q ⟨T, s, R, q⟩ => by
  refine ⟨T, s, R, Res.sat_mono (Res.sat_bind.mp q) (fun d s1 q v H1 T' R1 hv => ?_) fun e s h => h⟩
  split at q
  · obtain ⟨O, R0⟩ := id R1.2
    exact ⟨_, R0.int hv, q _ _ ⟨R1.1, Rel.int (RelS.popN R1).2 _⟩⟩
  · exact q.elim
/-! ### calls of the module's own functions -/
structure CalG (P : Program) (w : World) (K : PySem.W.Frag) (mg : Str → Option Value) (base : Heap) (k : Nat) (x : Str) (np : Nat) (F : Fd) : Prop where
  ex : ∃ (c : Addr) (fd : FuncData) (ps : List Str), ps.length = np ∧ FnG P w K mg base k c fd ps (spF K np F) ∧ mg x = some (.ref c) ∧ PySem.W.keepIn K (.ref c) = true ∧ Binds K fd ps []
theorem snE_cal {np : Nat} {F : Fd} (G : CalG X.prog X.w X.K X.mg X.base k x np F) (hr : Room k X.A) (hgd : X.A.guards = some []) (hg : Gl X x) (tk : Takes X W) (ha : SnA X Z W (e :: es) ga) (hdb : (x == ("__debug__" : Str)) = false := by decide)
    (he : starEach (e :: es) X.env = (false, eval e X.env) :: starEach es X.env := by rfl) (hpl : (backTo pos (starEach es X.env)).any (·.1) = false := by rfl) : SnE X Z W (.Call (.Name x p) (e :: es) [] pos) (cCall np F ga) := by
  obtain ⟨c, fd, ps, hn, G, hm, hk, hb⟩ := G.ex
  subst hn
  exact snE_call G hr hgd hg hm hk hb tk ha hdb he hpl
theorem snE_cal0 {np : Nat} {F : Fd} (G : CalG X.prog X.w X.K X.mg X.base k x np F) (hr : Room k X.A) (hgd : X.A.guards = some []) (hg : Gl X x) (tk : Takes X W) (hdb : (x == ("__debug__" : Str)) = false := by decide) : SnE X Z W (.Call (.Name x p) [] [] pos) (cCall np F cNil) := by
  obtain ⟨c, fd, ps, hn, G, hm, hk, hb⟩ := G.ex
  subst hn
  exact snE_call0 G hr hgd hg hm hk hb tk hdb
theorem heldG_of {P : Program} {w : World} {K : PySem.W.Frag} {mg : Str → Option Value} {base : Heap} {k k' np : Nat} {x : Str} {F : Fd} {c : Addr} (G : CalG P w K mg base k x np F) (hm : mg x = some (.ref c)) (hk : k ≤ k') : HeldG P w K mg base k' c np F := by
  obtain ⟨c', fd, ps, hn, G, hm', hkp, hb⟩ := G.ex
  rw [hm] at hm'
  cases hm'
  exact ⟨fd, ps, hn, G.mono hk, hkp, hb⟩
theorem takesW0 : Takes X W0 := fun _ _ ⟨_, _, _, _, _, _, _, _, _, _, _, _, _, _, _, _, w⟩ => w.elim
/-- none of the built-ins' names is the module's -/
structure Blt (mg : Str → Option Value) : Prop where
  abs : mg "abs" = none
  all : mg "all" = none
  any : mg "any" = none
  dict : mg "dict" = none
  enumerate : mg "enumerate" = none
  int : mg "int" = none
  isinstance : mg "isinstance" = none
  len : mg "len" = none
  list : mg "list" = none
  max : mg "max" = none
  min : mg "min" = none
  range : mg "range" = none
  repr : mg "repr" = none
  sorted : mg "sorted" = none
  str : mg "str" = none
  sum : mg "sum" = none
  super : mg "super" = none
  tuple : mg "tuple" = none
  zip : mg "zip" = none
end
end Pw
set_option Elab.async false
set_option linter.all false
set_option maxRecDepth 100000
namespace Pw
open PySem PySem.Spec PyProof.Rows L2
section
variable {X : Cx} {K : PySem.W.Frag} {H : Hp} {O : Addr → Prop}
def sortI (ns : List Int) : List Int := ns.mergeSort fun a b => decide (a ≤ b)
theorem sortI_perm (ns : List Int) : (sortI ns).Perm ns := List.mergeSort_perm ns _
theorem sortI_sorted (ns : List Int) : (sortI ns).Pairwise (· ≤ ·) := (List.pairwise_mergeSort (le := fun a b => decide (a ≤ b)) (fun a b c h1 h2 => by simp at *; omega) (fun a b => by simp; omega) ns).imp fun h => by simpa using h
theorem sortI_eq {ms ns : List Int} (p : ms.Perm ns) (h : ms.Pairwise (· ≤ ·)) : ms = sortI ns := (p.trans (sortI_perm ns).symm).eq_of_pairwise (fun a b _ _ h1 h2 => by omega) h (sortI_sorted ns)
def dSorted : D → Option SV
  | .list xs => (dInts xs).map fun ns => .own (.list ((sortI ns).map .int))
  | _ => none
theorem rp_ints (ns : List Int) : RpA K H O (ns.map V.int) (ns.map .int) := by
  induction ns with
  | nil => exact .nil
  | cons n r ih => exact .cons (.int n) ih
theorem call_sortedR : CallR X (.builtin "sorted") (rC X.K dSorted) := by
  intro pins s σ H xs us Q I rx h
  obtain ⟨Z, src, L, d, r, x, rfl, hK, R, h1, e, q⟩ := h
  obtain ⟨O, R0⟩ := id R
  unfold dSorted at e
  split at e
  · obtain ⟨ns, e1, rfl⟩ := Option.map_eq_some_iff.mp e
    obtain ⟨a, ys, rfl, ha, ra⟩ := R0.list h1
    have e2 := ra.asInts e1
    subst e2
    refine cr_sortedI pins s σ H _ us Q I rx ⟨a, ns, rfl, SqL.of ha, fun ms p h1 h2 h3 => ?_⟩
    have := sortI_eq h1 h2
    subst this
    exact q _ _ (R.newListOf h3 fun O' _ => rp_ints _)
  · cases e
end
end Pw
set_option Elab.async false
set_option linter.all false
set_option maxRecDepth 100000
namespace Pw
open PySem PySem.Spec PyProof.Rows L2
/-! ### the law's own call -/
section
variable {P : Program} {w : World} {K : PySem.W.Frag} {mg mb : Str → Option Value} {k : Nat} {fa a : Addr} {fd : FuncData} {x : Str} {sp : Sp} {s₁ : Shared} {vs : List Value} {ns : List Int}
def scrH (K : PySem.W.Frag) (a : Addr) (vs : List Value) (ns : List Int) : Hp := fun b => if b = a ∧ K.lookup a = none then some (.frz { cls := .type "list", data := .seq vs.toArray } (.lst (ns.map V.int))) else none
theorem scrH_some {b : Addr} {u : HO} (h : scrH K a vs ns b = some u) : b = a ∧ K.lookup a = none ∧ u = .frz { cls := .type "list", data := .seq vs.toArray } (.lst (ns.map V.int)) := by
  unfold scrH at h
  split at h
  · rename_i q
    cases h
    exact ⟨q.1, q.2, rfl⟩
  · cases h
theorem scrH_only : Only (scrH K a vs ns) := fun b => by
  cases e : scrH K a vs ns b with
  | none => exact .inl rfl
  | some u => exact .inr ⟨_, _, by rw [(scrH_some e).2.2]⟩
theorem law_goes (KX : K.In s₁.heap) (hg : s₁.heap.Ns mainGlobals mg) (hb : s₁.heap.Ns builtinsNs mb) (hbb : ∀ x : Str, x ≠ "__name__" → mb x = bootBuiltins x) (lim : s₁.heap.NoLimit) (hgen : s₁.gens = #[])
    (ha : s₁.heap.get? a = some { cls := .type "list", data := .seq vs.toArray }) (hi : IntsAre vs ns) (hl : ns.length ≤ sizeLine) (hr : Room k callerA)
    (G : ∀ base : Heap, K.In base → base.Ns mainGlobals mg → FnG P w K mg base k fa fd [x] sp) (bind : ∀ (s : Shared) (u : Value), BindsTo s fd ⟨[u], []⟩ [(x, u)])
    (hsp : ∀ H : Hp, Only H → SqL K H a (ns.map V.int) → sp [.ref a] H (fun v _ => v = .bl true) fun _ _ _ => False) :
    codeAny (model P w) callerA (.call (.ref fa) ⟨[.ref a], []⟩) (fun r s' => r = .ok (.ret (.bool true)) ∧ OldK s₁.heap s'.heap ∧ s'.os = s₁.os ∧ AllBare s'.gens) s₁ := by
  have rv := vals_ints hi
  have sz : (ns.map V.int).length ≤ sizeLine := by rw [List.length_map]; exact hl
  have hsq : SqL K (scrH K a vs ns) a (ns.map V.int) := by
    cases e : K.lookup a with
    | none => exact .inl (.inr ⟨_, if_pos ⟨rfl, e⟩⟩)
    | some o =>
      have eo := KX a o e
      rw [ha] at eo
      cases eo
      refine .inr ⟨_, vs.toArray, _, e, rfl, rfl, rfl, ?_, by simpa using rv⟩
      rw [List.size_toArray, hi.length]
      exact hl
  have ok : HOk P w (scrH K a vs ns) s₁.heap := fun b u e => by
    obtain ⟨e1, e2, e3⟩ := scrH_some e
    subst e1 e3
    exact ⟨ha, sz, vs, _, rv, ha⟩
  have seen : ∀ {b : Addr} {o : Obj}, s₁.heap.get? b = some o → scrH K a vs ns b = none → (hidT s₁.heap (scrH K a vs ns)).get? b = some o := fun e n => hidT_get e n
  have dicts : ∀ {b : Addr} {m : Str → Option Value}, s₁.heap.Ns b m → (hidT s₁.heap (scrH K a vs ns)).Ns b m := by
    rintro b m ⟨o, es, ep, e, d, r⟩
    refine ⟨o, es, ep, seen e ?_, d, r⟩
    cases q : scrH K a vs ns b with
    | none => rfl
    | some u =>
      have z := (scrH_some q).1
      rw [z, ha] at e
      cases e
      cases (show Data.seq vs.toArray _ = Data.dict es ep from d)
  have kin : K.In (hidT s₁.heap (scrH K a vs ns)) := fun b o e => seen (KX b o e) (by
    cases q : scrH K a vs ns b with
    | none => rfl
    | some u =>
      obtain ⟨z1, z2, _⟩ := scrH_some q
      rw [z1, z2] at e
      cases e)
  have M : Mod K mg (hidT s₁.heap (scrH K a vs ns)) := ⟨kin, dicts hg, ⟨mb, dicts hb, hbb⟩, let ⟨mc, h1, h2⟩ := lim; ⟨mc, dicts h1, h2⟩⟩
  have E0 : Env0 P w K mg (hidT s₁.heap (scrH K a vs ns)) callerA [] s₁ (scrH K a vs ns) := ⟨rfl, M, fun b o e => of_hidT e, Nat.le_of_eq (hidT_size _ _), trivial, fun b hb => (by cases (show b ∈ ([] : List Addr) from hb)), ok, .of_eq hgen⟩
  refine codeAny_mono ((G _ kin (dicts hg)).go callerA [] s₁ _ ⟨[.ref a], []⟩ [.ref a] [.ref a] _ _ hr rfl E0 (bind s₁ (.ref a)) (.cons rfl .nil) (hsp _ scrH_only hsq)) fun r s' h => ?_
  match r, h with
  | .error e, ⟨_, _, _, _, _, _, _, _, _, _, _, _, z⟩ => exact z.elim
  | .ok (.ret u), ⟨v, H', os, bare, un, ok', r', q⟩ =>
    have q : v = .bl true := q
    subst q
    obtain rfl : u = Value.bool true := r'
    refine ⟨rfl, OldK.of_keep fun b o e => ?_, os, bare⟩
    cases q : scrH K a vs ns b with
    | none => exact un.keep b o e q (fun z => by cases (show b ∈ ([] : List Addr) from z)) (by simp)
    | some u =>
      obtain ⟨z1, z2, z3⟩ := scrH_some q
      subst z3
      have z4 := un.frzs b _ _ q
      rw [z1, ha] at e
      cases e
      exact (ok' b _ z4).1
end
theorem walkG {l : PySem.W.OpenLaw} {n k : Nat} {q : Program} {loose : List Str} {XP : (Str → Option Value) → Heap → Prop} {YP : World → Heap → Prop} {d : DefRec} {K : Params → PySem.W.Frag} {sp : PySem.W.Frag → Sp} {x : Str}
    (hn : l.most = some n) (hn2 : n ≤ sizeLine) (hdf : d.params.defaults = []) (hr : Room k callerA) (hY : ∀ (w : World) (h : Heap), YP w h → (K w.params).In h)
    (G : ∀ (w : World) (mg : Str → Option Value) (fa : Addr) (h : Heap), (K w.params).In h → h.Ns mainGlobals mg → mg d.name = some (.ref fa) →
      ∃ fd : FuncData, (∀ (s : Shared) (u : Value), BindsTo s fd ⟨[u], []⟩ [(x, u)]) ∧ ∀ base : Heap, (K w.params).In base → base.Ns mainGlobals mg → FnG l.prog w (K w.params) mg base k fa fd [x] (sp (K w.params)))
    (hsp : ∀ (K : PySem.W.Frag) (H : Hp) (a : Addr) (ns : List Int), ns.length ≤ n → Only H → SqL K H a (ns.map V.int) → sp K [.ref a] H (fun v _ => v = .bl true) fun _ _ _ => False) : PySem.W.WalkO q loose XP YP l.row.toRowW d [] (fun f vs => PySem.call f vs) := by
  refine Att.attach_call hn hdf fun w s₀ s₁ mg mb fa o pm cd doc a vs ns Gd Y _ _ _ hmg hobj hints hlen hgen => ?_
  obtain ⟨fd, hb, hG⟩ := G w mg fa _ (hY w _ Y) Gd.T.g hmg
  exact law_goes (hY w _ Y) Gd.T.g Gd.T.b Gd.T.builtins Gd.T.nolimit hgen hobj hints (Nat.le_trans hlen hn2) hr hG hb fun H hO hS => hsp _ H a ns hlen hO hS
/-! ### the law's body: the source drawn, then the rest -/
def spLaw (K : PySem.W.Frag) : Sp := fun vs H Q _ => ∃ (a : Addr) (ns : List Int), vs = [.ref a] ∧ ns.length ≤ 63 ∧ SqL K H a (ns.map V.int) ∧ Only H ∧ ∀ H', Q (.bl true) H'
def srcD (s : Src) : D := .dict [(.str "cells", .list (s.cells.map .int)), (.str "left", .int s.left), (.str "mixed", .int s.mixed), (.str "turn", .int s.turn)]
def lawS (n : Nat) (sr : Src) : S := ⟨none :: some .src :: List.replicate (n - 2) none, some sr⟩
theorem Rel.trivZip {Z : Zx} {H : Hp} {src : Option Src} {L : List Ent} (R : Rel Z H src L) : ∀ {σ : L2.St} {n : Nat}, Rel Z H src (List.zip σ (List.replicate n (none : Option SV)) ++ L)
  | [], n => R
  | _ :: _, 0 => R
  | v :: σ, n + 1 => by
    rw [List.replicate_succ, List.zip_cons_cons]
    exact Rel.triv (Rel.trivZip R)
theorem rpD_inv {K : PySem.W.Frag} {H : Hp} {O : Addr → Prop} {kvs : List (Key × V)} {a d : D} {ds : List (D × D)} (h : RpD K H O kvs ((a, d) :: ds)) : ∃ k v rest, kvs = (k, v) :: rest ∧ keyD k = a ∧ Rp K H O v d ∧ RpD K H O rest ds := by
  generalize e : (a, d) :: ds = l at h
  cases h with
  | nil => cases e
  | cons r t =>
    cases e
    exact ⟨_, _, _, rfl, rfl, r, t⟩
theorem keyD_str {c : Key} {t : Str} (e : keyD c = .str t) : c = .inr t := by
  cases c <;> cases e
  rfl
theorem rpD_src {K : PySem.W.Frag} {H : Hp} {O : Addr → Prop} {kvs : List (Key × V)} {s : Src} (h : RpD K H O kvs [(.str "cells", .list (s.cells.map .int)), (.str "left", .int s.left), (.str "mixed", .int s.mixed), (.str "turn", .int s.turn)]) :
    ∃ y, kvs = srcKv y s ∧ H y = some (.lst (s.cells.map V.int)) ∧ ¬ O y := by
  obtain ⟨k1, v1, r1, rfl, e1, h1, h⟩ := rpD_inv h
  obtain ⟨k2, v2, r2, rfl, e2, h2, h⟩ := rpD_inv h
  obtain ⟨k3, v3, r3, rfl, e3, h3, h⟩ := rpD_inv h
  obtain ⟨k4, v4, r4, rfl, e4, h4, h⟩ := rpD_inv h
  cases h
  cases h2.int_inv
  cases h3.int_inv
  cases h4.int_inv
  have e1 := keyD_str e1
  have e2 := keyD_str e2
  have e3 := keyD_str e3
  have e4 := keyD_str e4
  subst e1 e2 e3 e4
  cases h1 with
  | lst e n r =>
    rename_i y xs
    have z := r.asInts (ints_map s.cells)
    subst z
    exact ⟨y, rfl, e, n⟩
def tLaw (K : PySem.W.Frag) (W : WX) (m : Sm) : TS := fun D σ H => ∃ Z : Zx, Z.K = K ∧ Z.Xn = none ∧ LS Z W m D σ H
section
variable {P : Program} {w : World} {K : PySem.W.Frag} {mg : Str → Option Value} {base : Heap} {k ks : Nat} {f : Addr} {fd : FuncData} {st : Stmt} {N : List Str}
theorem law_of {FS : Fd} {m : Sm} {p1 p2 p3 p4 p5 : Pos} {rest : List Stmt} (F : Fun K "law" "law" st f fd) (S : FnScope ("script" :: "source" :: N) ["script"] (defScope st)) (hb : defBody st = .Assign [.Name "source" p1] (.Call (.Name "_law_source" p2) [.Name "script" p3] [] p4) p5 :: rest)
    (GS : CalG P w K mg base ks "_law_source" 1 FS) (hks : ks ≤ k) (hsrc : ∀ ns : List Int, ns.length ≤ 63 → ∃ sr s', FS [.scr ns] none = .ok (.own (srcD sr)) s' ∧ s'.src = none ∧ sr.cells.length ≤ 63)
    (gl : (defScope st).names.lookup ("_law_source" : Str) = some .globalImplicit) (ls : Loc (defScope st) "source") (lv : Vis (defScope st) "script")
    (hd : ∀ (cdv : Value) (A : Around) (outer : List Env) (s : Shared) (H : Hp) (E : XK) (Z : Zx), Z.Xn = none → Room k (A.deeper (envOfC "law" (defScope st) s.heap.objs.size f cdv)) → A.guards = some [] → SnB (cxOf (L2.CX P w) P w K mg base ("script" :: "source" :: N) "law" (defScope st) f cdv A outer s H E) Z (fun cls d _ H => E cls d H) rest m)
    (hm : ∀ sr : Src, sr.cells.length ≤ 63 → (m (lawS (N.length + 2) sr)).sat (fun fl _ => fl = .ret (.sh (.bool true))) fun _ _ => False)
    (hsw : ∀ env : Env, swapsWith (.Call (.Name "_law_source" p2) [.Name "script" p3] [] p4) (some (.Name "source" p1)) p5.line env = pure false) :
    FnG P w K mg base (k + 1) f fd ["script"] (spLaw K) := by
  refine fnG_raw F S (fun vs H Q E ⟨a, ns, e, _⟩ => by rw [e]; rfl) fun cdv A outer s H vs Q E hr hg ⟨a, ns, ev, hlen, hS, hO, q⟩ => ?_
  subst ev
  rw [hb]
  obtain ⟨sr, s', eF, es, hsr⟩ := hsrc ns hlen
  have tk : Takes (cxOf (L2.CX P w) P w K mg base ("script" :: "source" :: N) "law" (defScope st) f cdv A outer s H E) (fun cls d _ H => E cls d H) := takes_of rfl rfl rfl rfl
  have h1 : SnS (cxOf (L2.CX P w) P w K mg base ("script" :: "source" :: N) "law" (defScope st) f cdv A outer s H E) ⟨K, H, fun _ => False, none, none⟩ (fun cls d _ H => E cls d H) (.Assign [.Name "source" p1] (.Call (.Name "_law_source" p2) [.Name "script" p3] [] p4) p5) (cAsg (cCall 1 FS (cCons (cVar 0) cNil)) (gNm 1)) :=
    snS_set (i := 1) S.nd rfl ls (snE_cal GS (hr.mono hks) hg gl tk (snA_cons (snE_var (pe_var rfl lv)) snA_nil)) (hsw _) (.inl rfl)
  have h2 : PSs (cxOf (L2.CX P w) P w K mg base ("script" :: "source" :: N) "law" (defScope st) f cdv A outer s H E) rest (tLaw K (fun cls d _ H => E cls d H) m) := ⟨fun pins s1 σ H1 D I ⟨Z, e1, e2, z⟩ => (hd cdv A outer s H E Z e2 hr hg e1.symm).run pins s1 σ H1 D I z⟩
  have R0 : Rel ⟨K, H, fun _ => False, none, none⟩ H none (List.zip (L2.start ("script" :: "source" :: N) [.ref a]) (padS (N.length + 2) [.scr ns])) := by
    have e : List.zip (L2.start ("script" :: "source" :: N) [.ref a]) (padS (N.length + 2) [.scr ns]) = (some (.ref a), some (.scr ns)) :: List.zip (List.replicate (N.length + 1) none) (List.replicate (N.length + 1) none) := rfl
    rw [e]
    have r1 : Rel ⟨K, H, fun _ => False, none, none⟩ H none [(some (V.ref a), some (SV.scr ns))] := by
      refine ⟨fun _ => False, fun _ z => z, fun e he s z => ?_, List.pairwise_singleton _ _, trivial, fun b x e _ => e, fun _ z => z.elim⟩
      cases List.mem_singleton.mp he
      cases z
      exact ⟨_, rfl, a, rfl, hS.imp (fun z => ⟨z, id⟩) id⟩
    exact (Rel.trivZip r1 (σ := List.replicate (N.length + 1) none) (n := N.length + 1)).perm (List.perm_append_singleton _ _)
  refine ⟨_, pss_cons (h1 rfl) h2, [], ⟨padS (N.length + 2) [.scr ns], none⟩, ⟨by simp [L2.start, padS], R0⟩, ?_⟩
  have ev : cAsg (cCall 1 FS (cCons (cVar 0) cNil)) (gNm 1) ⟨padS (N.length + 2) [.scr ns], none⟩ = .ok .nx ⟨(padS (N.length + 2) [.scr ns]).set 1 (some (.own (srcD sr))), none⟩ := by
    have e0 : (padS (N.length + 2) [.scr ns])[0]? = some (some (.scr ns)) := rfl
    have e1 : cVar 0 ⟨padS (N.length + 2) [.scr ns], none⟩ = .ok (.scr ns) ⟨padS (N.length + 2) [.scr ns], none⟩ := by
      unfold cVar
      dsimp only
      rw [e0]
    unfold cAsg cCall cCons cNil
    rw [e1]
    simp only [Res.bind, SV.settle, appF, okA, List.length_cons, List.length_nil, and_self, if_true, eF, gNm, es]
  rw [ev]
  intro σ H1 R
  obtain ⟨hl, O, RO⟩ := id R
  have hl : σ.length = N.length + 2 := by simpa [padS] using hl
  match σ, hl with
  | σ0 :: o1 :: σr, hl =>
    have hlr : σr.length = N.length := by simpa using hl
    have m1 : (o1, some (SV.own (srcD sr))) ∈ [] ++ List.zip (σ0 :: o1 :: σr) ((padS (N.length + 2) [SV.scr ns]).set 1 (some (SV.own (srcD sr)))) := by
      have e : (padS (N.length + 2) [SV.scr ns]).set 1 (some (SV.own (srcD sr))) = some (.scr ns) :: some (.own (srcD sr)) :: List.replicate N.length none := rfl
      rw [e]
      simp
    obtain ⟨v, e1, c, e2, oc, _, _, kvs, hc, rc⟩ := RO.ent _ m1 _ rfl
    have e1 : o1 = some v := e1
    subst e1 e2
    obtain ⟨y, ek, hy, ny⟩ := rpD_src rc
    subst ek
    have ncy : c ≠ y := fun z => by
      rw [z, hy] at hc
      cases hc
    have r1 : Rel ⟨K, fun _ => none, fun _ => False, some (c, y), none⟩ H1 (some sr) [(some (V.ref c), some SV.src)] := by
      refine ⟨fun b => b = c ∨ b = y, fun _ z => z.elim, fun e he s z => ?_, List.pairwise_singleton _ _, ⟨ncy, .inl rfl, .inr rfl, hc, hy⟩, fun b x e _ => (nomatch e), fun b z => ?_⟩
      · cases List.mem_singleton.mp he
        cases z
        exact ⟨_, rfl, c, y, rfl, rfl⟩
      · rcases z with rfl | rfl
        · exact ⟨_, hc⟩
        · exact ⟨_, hy⟩
    refine ⟨⟨K, fun _ => none, fun _ => False, some (c, y), none⟩, rfl, rfl, [], lawS (N.length + 2) sr, ⟨by simp [lawS, hlr], ?_⟩, Res.sat_mono (hm sr hsr) (fun fl s2 e => ?_) fun _ _ z => z.elim⟩
    · have e : List.zip (σ0 :: some (V.ref c) :: σr) (lawS (N.length + 2) sr).sl = (σ0, none) :: (some (V.ref c), some SV.src) :: List.zip σr (List.replicate N.length none) := rfl
      show Rel _ H1 (some sr) ([] ++ List.zip (σ0 :: some (V.ref c) :: σr) (lawS (N.length + 2) sr).sl)
      rw [List.nil_append, e]
      exact Rel.triv ((Rel.trivZip r1 (σ := σr) (n := N.length)).perm (List.perm_append_singleton _ _))
    · subst e
      intro u σ2 H2 R2
      obtain ⟨O2, R3⟩ := R2.2
      have : u = .bl true := R3.bl ⟨.sh (.bool true), by simp, rfl⟩
      subst this
      exact q H2
end
end Pw
set_option Elab.async false
set_option linter.all false
set_option maxRecDepth 100000
namespace Pw
open PySem PySem.Spec PyProof.Rows L2
/-! ### reading the plain readings -/
section
variable {α β : Type} {Q : α → S → Prop} {E : Ex → S → Prop} {s : S}
theorem sat_ok {a : α} : (Res.ok a s).sat Q E = Q a s := rfl
theorem sat_bnd {r : Res β} {k : β → S → Res α} : (r.bind k).sat Q E = r.sat (fun a s => (k a s).sat Q E) E := propext Res.sat_bind
theorem bnd_ok {b : β} {k : β → S → Res α} : (Res.ok b s).bind k = k b s := rfl
theorem bnd_err {k : β → S → Res α} : (Res.err : Res β).bind k = .err := rfl
theorem opt_some {a : α} : Res.opt (some a) s = .ok a s := rfl
theorem quiet_ok {a : α} : (Res.ok a s).quiet = .ok a s := rfl
end
theorem forL_sat {g : Tg} {m : Sm} {Q : Fl → S → Prop} {E : Ex → S → Prop} (I : List SV → S → Prop)
    (step : ∀ d ds s, I (d :: ds) s → ∃ s1, g d s = some s1 ∧ (m s1).sat (fun fl s2 => match fl with | .nx => I ds s2 | .ct => I ds s2 | .bk => Q .nx s2 | .ret r => Q (.ret r) s2) E) (fin : ∀ s, I [] s → Q .nx s) :
    ∀ ds s, I ds s → (forL g m ds s).sat Q E
  | [], s, h => fin s h
  | d :: ds, s, h => by
    obtain ⟨s1, e, q⟩ := step d ds s h
    unfold forL
    rw [e]
    refine Res.sat_bind.mpr (Res.sat_mono q (fun fl s2 q => ?_) fun _ _ q => q)
    cases fl with
    | nx => exact forL_sat I step fin ds s2 q
    | ct => exact forL_sat I step fin ds s2 q
    | bk => exact q
    | ret r => exact q
theorem whileL_sat {c : Tt} {m : Sm} {Q : Fl → S → Prop} {E : Ex → S → Prop} (I : Nat → S → Prop)
    (step : ∀ k s, I k s → (c s).sat (fun b s1 => if b = true then (m s1).sat (fun fl s2 => match fl with | .nx => ∃ j, j < k ∧ I j s2 | .ct => ∃ j, j < k ∧ I j s2 | .bk => Q .nx s2 | .ret r => Q (.ret r) s2) E else Q .nx s1) E) :
    ∀ n k s, k < n → I k s → (whileL c m n s).sat Q E
  | 0, k, s, h, _ => absurd h (Nat.not_lt_zero _)
  | n + 1, k, s, h, i => by
    unfold whileL
    refine Res.sat_bind.mpr (Res.sat_mono (step k s i) (fun b s1 q => ?_) fun _ _ q => q)
    cases b with
    | false =>
      rw [if_neg Bool.false_ne_true] at q ⊢
      exact q
    | true =>
      rw [if_pos rfl] at q ⊢
      refine Res.sat_bind.mpr (Res.sat_mono q (fun fl s2 q => ?_) fun _ _ q => q)
      cases fl with
      | nx => obtain ⟨j, hj, q⟩ := q; exact whileL_sat I step n j s2 (by omega) q
      | ct => obtain ⟨j, hj, q⟩ := q; exact whileL_sat I step n j s2 (by omega) q
      | bk => exact q
      | ret r => exact q
theorem compL_sat {g : Tg} {c : Tt} {f : Ev} {vs : List Nat} {Q : List D → S → Prop} {E : Ex → S → Prop} (I : List SV → List D → S → Prop)
    (step : ∀ d ds acc s, I (d :: ds) acc s → ∃ s1, g d s = some s1 ∧ (c s1).sat (fun b s2 => if b = true then (f s2).sat (fun r s3 => ∃ x, r.settle = .sh x ∧ acc.length < sizeLine ∧ I ds (acc ++ [x]) (wipeS vs s3)) (fun _ _ => False) else I ds acc (wipeS vs s2)) (fun _ _ => False))
    (fin : ∀ acc s, I [] acc s → Q acc s) : ∀ ds acc s, I ds acc s → (compL g c f vs ds acc s).sat Q E
  | [], acc, s, h => fin acc s h
  | d :: ds, acc, s, h => by
    obtain ⟨s1, e, q⟩ := step d ds acc s h
    unfold compL
    rw [e]
    have q2 : ∀ {γ : Type} {r : Res γ} {P : γ → S → Prop}, r.sat P (fun _ _ => False) → r.quiet.sat P E := fun {γ r P} h => by
      cases r with
      | ok a s => exact h
      | exc e s => exact h.elim
      | err => exact h
    refine Res.sat_bind.mpr (Res.sat_mono (q2 q) (fun b s2 q => ?_) fun _ _ q => q)
    cases b with
    | false =>
      rw [if_neg Bool.false_ne_true] at q ⊢
      exact compL_sat I step fin ds acc _ q
    | true =>
      rw [if_pos rfl] at q ⊢
      refine Res.sat_bind.mpr (Res.sat_mono (q2 q) (fun r s3 q => ?_) fun _ _ q => q)
      obtain ⟨x, e1, e2, q⟩ := q
      rw [e1]
      dsimp only
      rw [if_pos e2]
      exact compL_sat I step fin ds _ _ q
end Pw
namespace Pw
open PySem PySem.Spec PyProof.Rows L2
section
variable {Q : Fl → S → Prop} {E : Ex → S → Prop} {m1 m2 : Sm} {s : S}
theorem sat_seq : (cSeq m1 m2 s).sat Q E ↔ (m1 s).sat (fun fl s1 => match fl with | .nx => (m2 s1).sat Q E | fl => Q fl s1) E := by
  unfold cSeq
  rw [Res.sat_bind]
  cases m1 s with
  | ok fl s1 => cases fl <;> exact Iff.rfl
  | exc => exact Iff.rfl
  | err => exact Iff.rfl
theorem seq_ok {s1 : S} (h : m1 s = .ok .nx s1) : cSeq m1 m2 s = m2 s1 := by unfold cSeq; rw [h]; rfl
theorem forL_step {g : Tg} {m : Sm} {d : SV} {ds : List SV} {s s1 s2 : S} (h1 : g d s = some s1) (h2 : m s1 = .ok .nx s2) : forL g m (d :: ds) s = forL g m ds s2 := by
  conv => lhs; unfold forL
  rw [h1]
  dsimp only
  rw [h2]
  rfl
theorem forL_ret {g : Tg} {m : Sm} {d : SV} {ds : List SV} {s s1 s2 : S} {r : SV} (h1 : g d s = some s1) (h2 : m s1 = .ok (.ret r) s2) : forL g m (d :: ds) s = .ok (.ret r) s2 := by
  conv => lhs; unfold forL
  rw [h1]
  dsimp only
  rw [h2]
  rfl
theorem call_ok {n : Nat} {F : Fd} {ga : Ag} {rs : List SV} {s s1 s2 : S} {r : SV} (ha : ga s = .ok rs s1) (hF : F rs s1.src = .ok r s2) (hn : rs.length = n := by rfl) (ho : okA rs = true := by rfl) : cCall n F ga s = .ok r ⟨s1.sl, s2.src⟩ := by
  unfold cCall appF
  rw [ha, bnd_ok, if_pos ⟨hn, ho⟩, hF]
theorem call_exc {n : Nat} {F : Fd} {ga : Ag} {rs : List SV} {s s1 s2 : S} {e : Ex} (ha : ga s = .ok rs s1) (hF : F rs s1.src = .exc e s2) (hn : rs.length = n := by rfl) (ho : okA rs = true := by rfl) : cCall n F ga s = .exc e ⟨s1.sl, s2.src⟩ := by
  unfold cCall appF
  rw [ha, bnd_ok, if_pos ⟨hn, ho⟩, hF]
theorem callL_ok {i n : Nat} {tab : Tab} {F : Fd} {ga : Ag} {c : Addr} {rs : List SV} {s s1 s2 : S} {r : SV} (hi : s.sl[i]? = some (some (.fn c))) (ht : tab c = some (n, F)) (ha : ga s = .ok rs s1) (hF : F rs s1.src = .ok r s2) (hn : rs.length = n := by rfl) (ho : okA rs = true := by rfl) : cCallL i tab ga s = .ok r ⟨s1.sl, s2.src⟩ := by
  unfold cCallL appF
  rw [hi]
  dsimp only
  rw [ht]
  dsimp only
  rw [ha, bnd_ok, if_pos ⟨hn, ho⟩, hF]
theorem callL_exc {i n : Nat} {tab : Tab} {F : Fd} {ga : Ag} {c : Addr} {rs : List SV} {s s1 s2 : S} {e : Ex} (hi : s.sl[i]? = some (some (.fn c))) (ht : tab c = some (n, F)) (ha : ga s = .ok rs s1) (hF : F rs s1.src = .exc e s2) (hn : rs.length = n := by rfl) (ho : okA rs = true := by rfl) : cCallL i tab ga s = .exc e ⟨s1.sl, s2.src⟩ := by
  unfold cCallL appF
  rw [hi]
  dsimp only
  rw [ht]
  dsimp only
  rw [ha, bnd_ok, if_pos ⟨hn, ho⟩, hF]
theorem atI_nat {α : Type} {xs : List α} {i : Nat} (h : i < xs.length) : atI xs (i : Int) = some xs[i] := by
  unfold atI ixN
  rw [if_pos (Int.natCast_nonneg i), if_pos (by exact_mod_cast h)]
  simp [h]
theorem atI_int {α : Type} {xs : List α} {i : Int} (h0 : 0 ≤ i) (h : i.toNat < xs.length) : atI xs i = some xs[i.toNat] := by
  have := atI_nat h
  rwa [Int.toNat_of_nonneg h0] at this
/-- a function that the source is nothing to -/
def Rets (F : Fd) (as : List SV) (r : SV) : Prop := ∀ src, ∃ sl, F as src = .ok r ⟨sl, src⟩
def Excs (F : Fd) (as : List SV) (e : Ex) : Prop := ∀ src, ∃ sl, F as src = .exc e ⟨sl, src⟩
theorem Rets.call {n : Nat} {F : Fd} {ga : Ag} {rs : List SV} {s s1 : S} {r : SV} (h : Rets F rs r) (ha : ga s = .ok rs s1) (hn : rs.length = n := by rfl) (ho : okA rs = true := by rfl) : cCall n F ga s = .ok r s1 := by
  obtain ⟨sl, e⟩ := h s1.src
  exact call_ok (s2 := ⟨sl, s1.src⟩) ha e hn ho
theorem Excs.call {n : Nat} {F : Fd} {ga : Ag} {rs : List SV} {s s1 : S} {x : Ex} (h : Excs F rs x) (ha : ga s = .ok rs s1) (hn : rs.length = n := by rfl) (ho : okA rs = true := by rfl) : cCall n F ga s = .exc x s1 := by
  obtain ⟨sl, e⟩ := h s1.src
  exact call_exc (s2 := ⟨sl, s1.src⟩) ha e hn ho
theorem Rets.callL {i n : Nat} {tab : Tab} {F : Fd} {ga : Ag} {c : Addr} {rs : List SV} {s s1 : S} {r : SV} (h : Rets F rs r) (hi : s.sl[i]? = some (some (.fn c))) (ht : tab c = some (n, F)) (ha : ga s = .ok rs s1) (hn : rs.length = n := by rfl) (ho : okA rs = true := by rfl) : cCallL i tab ga s = .ok r s1 := by
  obtain ⟨sl, e⟩ := h s1.src
  exact callL_ok (s2 := ⟨sl, s1.src⟩) hi ht ha e hn ho
theorem Excs.callL {i n : Nat} {tab : Tab} {F : Fd} {ga : Ag} {c : Addr} {rs : List SV} {s s1 : S} {x : Ex} (h : Excs F rs x) (hi : s.sl[i]? = some (some (.fn c))) (ht : tab c = some (n, F)) (ha : ga s = .ok rs s1) (hn : rs.length = n := by rfl) (ho : okA rs = true := by rfl) : cCallL i tab ga s = .exc x s1 := by
  obtain ⟨sl, e⟩ := h s1.src
  exact callL_exc (s2 := ⟨sl, s1.src⟩) hi ht ha e hn ho
theorem for_ok {f : Itf} {g : Tg} {m : Sm} {ds : List SV} {s s1 : S} {r : Res Fl} (hi : f s = .ok ds s1) (h : forL g m ds s1 = r) : cFor f g m s = r := by unfold cFor; rw [hi]; exact h
theorem comp_ok {f : Itf} {g : Tg} {c : Tt} {e : Ev} {vs : List Nat} {ds : List SV} {acc : List D} {s s1 s2 : S} (hi : f s = .ok ds s1) (h : compL g c e vs ds [] (wipeS vs s1) = .ok acc s2) : cComp f g c e vs s = .ok (.own (.list acc)) (backS vs s1 s2) := by
  unfold cComp
  rw [hi, bnd_ok, h]
  rfl
theorem compL_step {g : Tg} {f : Ev} {vs : List Nat} {d : SV} {ds : List SV} {acc : List D} {s s1 s3 : S} {r : SV} {x : D} (h1 : g d s = some s1) (h2 : f s1 = .ok r s3) (h3 : r.settle = .sh x) (h4 : acc.length < sizeLine) : compL g cYes f vs (d :: ds) acc s = compL g cYes f vs ds (acc ++ [x]) (wipeS vs s3) := by
  conv => lhs; unfold compL
  rw [h1]
  simp only [cYes, Res.quiet, bnd_ok, if_true]
  rw [h2]
  simp only [Res.quiet, bnd_ok, h3, h4, if_true]
theorem compL_keep {g : Tg} {c : Tt} {f : Ev} {vs : List Nat} {d : SV} {ds : List SV} {acc : List D} {s s1 s2 s3 : S} {r : SV} {x : D} (h1 : g d s = some s1) (hc : c s1 = .ok true s2) (h2 : f s2 = .ok r s3) (h3 : r.settle = .sh x) (h4 : acc.length < sizeLine) : compL g c f vs (d :: ds) acc s = compL g c f vs ds (acc ++ [x]) (wipeS vs s3) := by
  conv => lhs; unfold compL
  rw [h1]
  dsimp only
  rw [hc]
  simp only [Res.quiet, bnd_ok, if_true]
  rw [h2]
  simp only [Res.quiet, bnd_ok, h3, h4, if_true]
theorem compL_drop {g : Tg} {c : Tt} {f : Ev} {vs : List Nat} {d : SV} {ds : List SV} {acc : List D} {s s1 s2 : S} (h1 : g d s = some s1) (hc : c s1 = .ok false s2) : compL g c f vs (d :: ds) acc s = compL g c f vs ds acc (wipeS vs s2) := by
  conv => lhs; unfold compL
  rw [h1]
  dsimp only
  rw [hc]
  simp only [Res.quiet, bnd_ok, Bool.false_eq_true, if_false]
theorem seq_ret {r : SV} {s1 : S} (h : m1 s = .ok (.ret r) s1) : cSeq m1 m2 s = .ok (.ret r) s1 := by unfold cSeq; rw [h]; rfl
theorem ifs_ok {c : Tt} {b : Bool} {s1 : S} (h : c s = .ok b s1) : cIfS c m1 m2 s = if b = true then m1 s1 else m2 s1 := by unfold cIfS; rw [h]; rfl
end
theorem mulFits_r {i j : Int} (h : smallI j = true) : mulFits i j = true := by unfold mulFits; rw [h]; rfl
theorem mulFits_l {i j : Int} (h : smallI i = true) : mulFits i j = true := by unfold mulFits; rw [h, Bool.or_true]; rfl
/-! ### how each reading comes to its end -/
section
variable {f fa fb' : Ev} {fb fc : Vw} {ga : Ag} {m m1 m2 : Sm} {c c1 c2 : Tt} {s s1 s2 s3 : S} {r r1 r2 x : SV} {d d1 d2 d3 : D} {ds : List D} {rs : List SV} {i n : Nat} {b : Bool} {e : Ex}
theorem vE_ok (h : f s = .ok r s1) (hd : r.dat = some d) : vE f s = .ok d s1 := by unfold vE; rw [h, bnd_ok, hd]
theorem vE_exc (h : f s = .exc e s1) : vE f s = .exc e s1 := by unfold vE; rw [h]; rfl
theorem call1_ok {g : D → Option SV} (h : fb s = .ok d s1) (hg : g d = some r) : cCall1 g fb s = .ok r s1 := by unfold cCall1; rw [h, bnd_ok, hg]; rfl
theorem callN_ok {g : List D → Option SV} (h : ga s = .ok rs s1) (hd : datas rs = some ds) (hg : g ds = some r) : cCallN g ga s = .ok r s1 := by unfold cCallN; rw [h, bnd_ok, hd]; dsimp only; rw [hg]; rfl
theorem ret_ok (h : f s = .ok r s1) : cRet f s = .ok (.ret r) s1 := by unfold cRet; rw [h]; rfl
theorem ret_exc (h : f s = .exc e s1) : cRet f s = .exc e s1 := by unfold cRet; rw [h]; rfl
theorem expr_ok (h : f s = .ok r s1) : cExpr f s = .ok .nx s1 := by unfold cExpr; rw [h]; rfl
theorem expr_exc (h : f s = .exc e s1) : cExpr f s = .exc e s1 := by unfold cExpr; rw [h]; rfl
theorem asg_ok {g : Tg} (h : f s = .ok r s1) (hg : g r s1 = some s2) : cAsg f g s = .ok .nx s2 := by unfold cAsg; rw [h, bnd_ok, hg]
theorem asg_exc {g : Tg} (h : f s = .exc e s1) : cAsg f g s = .exc e s1 := by unfold cAsg; rw [h]; rfl
theorem nm_ok (h : f s = .ok r s1) : cAsg f (gNm i) s = .ok .nx ⟨s1.sl.set i (some r), s1.src⟩ := asg_ok h rfl
theorem binE_ok {g : D → D → Option SV} (ha : fa s = .ok r s1) (hb : fb s1 = .ok d2 s2) (hd : r.dat = some d1) (hg : g d1 d2 = some x) : cBinE g fa fb s = .ok x s2 := by
  unfold cBinE
  rw [ha, bnd_ok, hd]
  dsimp only
  rw [hb, bnd_ok, hg]
  rfl
theorem binV_ok {g : D → D → Option SV} (hi : s.sl[i]? = some (some r)) (hb : fb s = .ok d2 s1) (hd : datAt s1 i = some d1) (hg : g d1 d2 = some x) : cBinV g i fb s = .ok x s1 := by
  unfold cBinV
  rw [hi]
  dsimp only
  rw [hb, bnd_ok, hd]
  dsimp only
  rw [hg]
  rfl
theorem cons_ok (h : f s = .ok r s1) (hr : ga s1 = .ok rs s2) : cCons f ga s = .ok (r.settle :: rs) s2 := by unfold cCons; rw [h, bnd_ok, hr]; rfl
theorem cons_exc (h : f s = .exc e s1) : cCons f ga s = .exc e s1 := by unfold cCons; rw [h]; rfl
theorem consR_ok (h : f s = .ok r s1) (hr : ga s1 = .ok rs s2) : cConsR f ga s = .ok (r :: rs) s2 := by unfold cConsR; rw [h, bnd_ok, hr]; rfl
theorem tup_ok (h : ga s = .ok rs s1) (hd : datas rs = some ds) (hz : ds.length ≤ 1000) : cTup ga s = .ok (.sh (.tuple ds)) s1 := by
  unfold cTup
  rw [h, bnd_ok, hd]
  dsimp only
  rw [if_pos (by rw [sizeLine_eq]; omega)]
theorem tup_exc (h : ga s = .exc e s1) : cTup ga s = .exc e s1 := by unfold cTup; rw [h]; rfl
theorem lst_ok (h : ga s = .ok rs s1) (hd : datas rs = some ds) (hz : ds.length ≤ 1000) : cLst ga s = .ok (.own (.list ds)) s1 := by
  unfold cLst
  rw [h, bnd_ok, hd]
  dsimp only
  rw [if_pos (by rw [sizeLine_eq]; omega)]
theorem orV_tt {k1 k2 : Ev} (h : k1 s = .ok (.sh (.bool true)) s1) : cOrV k1 k2 s = .ok (.sh (.bool true)) s1 := by unfold cOrV; rw [h, bnd_ok]; rfl
theorem orV_ff {k1 k2 : Ev} (h : k1 s = .ok (.sh (.bool false)) s1) (h2 : k2 s1 = .ok r s2) : cOrV k1 k2 s = .ok r s2 := by unfold cOrV; rw [h, bnd_ok]; exact h2
theorem andV_ff {k1 k2 : Ev} (h : k1 s = .ok (.sh (.bool false)) s1) : cAndV k1 k2 s = .ok (.sh (.bool false)) s1 := by unfold cAndV; rw [h, bnd_ok]; rfl
theorem andV_tt {k1 k2 : Ev} (h : k1 s = .ok (.sh (.bool true)) s1) (h2 : k2 s1 = .ok r s2) : cAndV k1 k2 s = .ok r s2 := by unfold cAndV; rw [h, bnd_ok]; exact h2
theorem t_ok (h : f s = .ok (.sh (.bool b)) s1) : cT f s = .ok b s1 := by unfold cT; rw [h]; rfl
theorem not_ok (h : c s = .ok b s1) : cNot c s = .ok (!b) s1 := by unfold cNot; rw [h]; rfl
theorem and_ok (h : c1 s = .ok b s1) (h2 : b = true → c2 s1 = .ok b' s2) (h3 : b = false → b' = false ∧ s2 = s1) : cAnd c1 c2 s = .ok b' s2 := by
  unfold cAnd
  rw [h, bnd_ok]
  cases b with
  | true => rw [if_pos rfl]; exact h2 rfl
  | false => obtain ⟨rfl, rfl⟩ := h3 rfl; rw [if_neg Bool.false_ne_true]
theorem or_ff (h : c1 s = .ok false s1) (h2 : c2 s1 = .ok b s2) : cOr c1 c2 s = .ok b s2 := by
  unfold cOr
  rw [h, bnd_ok, if_neg Bool.false_ne_true, h2]
theorem or_tt (h : c1 s = .ok true s1) : cOr c1 c2 s = .ok true s1 := by
  unfold cOr
  rw [h, bnd_ok, if_pos rfl]
theorem if_tt {k1 k2 : Ev} (h : c s = .ok true s1) (h2 : k1 s1 = .ok r s2) : cIf c k1 k2 s = .ok r s2 := by unfold cIf; rw [h, bnd_ok, if_pos rfl, h2]
theorem if_ff {k1 k2 : Ev} (h : c s = .ok false s1) (h2 : k2 s1 = .ok r s2) : cIf c k1 k2 s = .ok r s2 := by unfold cIf; rw [h, bnd_ok, if_neg Bool.false_ne_true, h2]
theorem ifs_tt {q : Res Fl} (h : c s = .ok true s1) (h2 : m1 s1 = q) : cIfS c m1 m2 s = q := by unfold cIfS; rw [h, bnd_ok, if_pos rfl, h2]
theorem ifs_ff {q : Res Fl} (h : c s = .ok false s1) (h2 : m2 s1 = q) : cIfS c m1 m2 s = q := by unfold cIfS; rw [h, bnd_ok, if_neg Bool.false_ne_true, h2]
theorem seq_nx {q : Res Fl} (h : m1 s = .ok .nx s1) (h2 : m2 s1 = q) : cSeq m1 m2 s = q := (seq_ok h).trans h2
theorem seq_exc (h : m1 s = .exc e s1) : cSeq m1 m2 s = .exc e s1 := by unfold cSeq; rw [h]; rfl
theorem run_ret {as : List SV} {src : Option Src} (h : m ⟨padS n as, src⟩ = .ok (.ret r) s) : runFn n m as src = .ok r s := by unfold runFn; rw [h]; rfl
theorem run_nx {as : List SV} {src : Option Src} (h : m ⟨padS n as, src⟩ = .ok .nx s) : runFn n m as src = .ok (.sh .none) s := by unfold runFn; rw [h]; rfl
theorem run_exc {as : List SV} {src : Option Src} (h : m ⟨padS n as, src⟩ = .exc e s) : runFn n m as src = .exc e s := by unfold runFn; rw [h]; rfl
theorem par_ok {is : List Nat} (h : ga s = .ok rs s1) (hl : is.length = rs.length := by rfl) : cPar is ga s = .ok .nx { s1 with sl := setMany s1.sl is rs } := by unfold cPar; rw [h, bnd_ok, if_pos hl]
theorem aug_ok {g : D → D → Option SV} (hi : s.sl[i]? = some (some r)) (hb : fb s = .ok d2 s1) (hd : datAt s1 i = some d1) (hg : g d1 d2 = some x) : cAug g i fb s = .ok .nx { s1 with sl := s1.sl.set i (some x) } := by
  unfold cAug
  rw [hi]
  dsimp only
  rw [hb, bnd_ok, hd]
  dsimp only
  rw [hg]
theorem setIx_ok {fk : Vw} {d0 : D} (hv : f s = .ok r s1) (hr : r.settle = .sh d3) (h0 : s1.sl[i]? = some (some (.own d0))) (hk : fk s1 = .ok d2 s2) (hi : s2.sl[i]? = some (some (.own d1))) (hg : dSet d1 d2 d3 = some d) : cSetIx i fk f s = .ok .nx { s2 with sl := s2.sl.set i (some (.own d)) } := by
  unfold cSetIx
  rw [hv, bnd_ok, hr]
  dsimp only
  rw [h0]
  dsimp only
  rw [hk, bnd_ok, hi]
  dsimp only
  rw [hg]
theorem chain_ok {g g' : D → D → Option SV} (ha : fa s = .ok r s1) (hb : fb' s1 = .ok r1 s2) (h1 : r.dat = some d) (h2 : r1.dat = some d1) (hg : g d d1 = some (.sh (.bool true))) (hc : fc s2 = .ok d2 s3) (hg' : g' d1 d2 = some x) : cChain g g' fa fb' fc s = .ok x s3 := by
  unfold cChain
  rw [ha, bnd_ok, hb, bnd_ok, h1, h2]
  dsimp only
  rw [hg]
  dsimp only
  rw [hc, bnd_ok, hg']
  rfl
theorem chain_no {g g' : D → D → Option SV} (ha : fa s = .ok r s1) (hb : fb' s1 = .ok r1 s2) (h1 : r.dat = some d) (h2 : r1.dat = some d1) (hg : g d d1 = some (.sh (.bool false))) : cChain g g' fa fb' fc s = .ok (.sh (.bool false)) s2 := by
  unfold cChain
  rw [ha, bnd_ok, hb, bnd_ok, h1, h2]
  dsimp only
  rw [hg]
end
end Pw
set_option Elab.async false
set_option linter.all false
set_option maxRecDepth 100000
namespace Pw
namespace Law
open PySem PySem.Spec PyProof.Rows L2
def m_law_source : Sm := (cSeq (cAsg (cD (.int 11)) (gNm 1)) (cSeq (cFor (cIt (cVar 0)) (gNm 2) (cAsg (cBinE dMod (cCall1 dInt (vE (cBinE dAdd (cBinE dAdd (cBinV dMul 1 (vE (cD (.int 69069)))) (vE (cBinV dMul 2 (vE (cD (.int 31)))))) (vE (cD (.int 5)))))) (vE (cD (.int 2147483629)))) (gNm 1))) (cRet (cDisp [((cD (.str "cells")), (cRev (vE (cComp (cIt (cVar 0)) (gNm 2) cYes (cCall1 dAbs (cVarV 2)) [2])))), ((cD (.str "left")), (cD (.int 1))), ((cD (.str "mixed")), (cVar 1)), ((cD (.str "turn")), (cD (.int 0)))]))))
def F_law_source : Fd := runFn 3 (m_law_source)
def m_law_pick : Sm := (cSeq (cWhile (cAnd (cT (cBinV dGt 1 (vE (cD (.int 1))))) (cAnd (cT (cBinE dLt (cSrcG 0 Src.left) (vE (cD (.int 2))))) (cT (cBinE dGt (cSrcLen 0) (vE (cD (.int 0))))))) (cSrcSet 0 putLeft (cSrcPop 0))) (cSeq (cAsg (cSrcG 0 Src.left) (gNm 2)) (cSeq (cIfS (cOr (cT (cBinV dLt 1 (vE (cD (.int 2))))) (cT (cBinV dGt 2 (vE (cD (.int 1)))))) (cSeq (cSrcSet 0 putLeft (cBinV dFdiv 2 (vE (cCallN dMax2 (cCons (cD (.int 1)) (cCons (cVar 1) cNil)))))) (cRet (cBinE dMod (cCall1 dInt (cVarV 2)) (vE (cCallN dMax2 (cCons (cD (.int 1)) (cCons (cVar 1) cNil))))))) cSkip) (cSeq (cSrcSet 0 putTurn (cBinE dAdd (cSrcG 0 Src.turn) (vE (cD (.int 1))))) (cSeq (cAsg (cBinE dMod (cCall1 dInt (vE (cBinE dAdd (cSrcG 0 Src.mixed) (vE (cBinE dMul (cSrcG 0 Src.turn) (vE (cD (.int 104729)))))))) (vE (cD (.int 998244353)))) (gNm 3)) (cSeq (cAsg (cBinE dMod (cCall1 dInt (vE (cBinE dAdd (cBinV dMul 3 (cVarV 3)) (vE (cBinE dMul (cSrcG 0 Src.turn) (vE (cD (.int 17)))))))) (vE (cD (.int 2147483647)))) (gNm 3)) (cSeq (cSrcSet 0 putMixed (cVar 3)) (cRet (cBinE dMod (cCall1 dInt (vE (cBinV dFdiv 3 (vE (cD (.int 16)))))) (cVarV 1))))))))))
def F_law_pick : Fd := runFn 4 (m_law_pick)
def m_law_of : Sm := (cRet (cBinV dIx 1 (vE (cCall 2 F_law_pick (cCons (cVar 0) (cCons (cCall1 dLen (cVarV 1)) cNil))))))
def F_law_of : Fd := runFn 2 (m_law_of)
/-! ### the source -/
theorem law_source_loop (ns : List Int) : ∀ (ms : List Int) (mx : Int) (o : Option SV), ∃ mx' o', forL (gNm 2) (cAsg (cBinE dMod (cCall1 dInt (vE (cBinE dAdd (cBinE dAdd (cBinV dMul 1 (vE (cD (.int 69069)))) (vE (cBinV dMul 2 (vE (cD (.int 31)))))) (vE (cD (.int 5)))))) (vE (cD (.int 2147483629)))) (gNm 1)) (shs (ms.map .int)) ⟨[some (.scr ns), some (.sh (.int mx)), o], none⟩ = .ok .nx ⟨[some (.scr ns), some (.sh (.int mx')), o'], none⟩
  | [], mx, o => ⟨mx, o, rfl⟩
  | z :: ms, mx, o => by
    obtain ⟨mx', o', h⟩ := law_source_loop ns ms ((mx * 69069 + z * 31 + 5) % 2147483629) (some (.sh (.int z)))
    refine ⟨mx', o', ?_⟩
    rw [← h]
    have e1 : mulFits mx 69069 = true := mulFits_r (by decide)
    have e2 : mulFits z 31 = true := mulFits_r (by decide)
    refine forL_step rfl ?_
    simp only [cAsg, cBinE, cBinV, vE, cD, cCall1, datAt, SV.dat, dMul, dAdd, dInt, dMod, e1, e2, if_true, bnd_ok, opt_some, gNm, List.getElem?_cons_zero, List.getElem?_cons_succ, List.set_cons_zero, List.set_cons_succ]
    rfl
def absI (i : Int) : Int := if i < 0 then -i else i
theorem law_source_comp (a b : Option SV) : ∀ (ms : List Int) (acc : List D), acc.length + ms.length ≤ 1000 → compL (gNm 2) cYes (cCall1 dAbs (cVarV 2)) [2] (shs (ms.map .int)) acc ⟨[a, b, none], none⟩ = .ok (acc ++ (ms.map absI).map .int) ⟨[a, b, none], none⟩
  | [], acc, _ => by simp [compL, shs]
  | z :: ms, acc, h => by
    have ih := law_source_comp a b ms (acc ++ [.int (absI z)]) (by simp at h ⊢; omega)
    have h4 : acc.length < sizeLine := by rw [sizeLine_eq]; simp at h; omega
    simp only [shs, List.map_cons, compL, gNm, cYes, Res.quiet, bnd_ok, if_true, cCall1, cVarV, dAbs, opt_some, SV.settle, wipeS, List.getElem?_cons_zero, List.getElem?_cons_succ, List.set_cons_zero, List.set_cons_succ, h4]
    simp only [shs, List.append_assoc, List.singleton_append] at ih
    exact ih
theorem law_source_ok (ns : List Int) (hl : ns.length ≤ 63) : ∃ sr s', F_law_source [.scr ns] none = .ok (.own (srcD sr)) s' ∧ s'.src = none ∧ sr.cells.length ≤ 63 := by
  obtain ⟨mx, o, h⟩ := law_source_loop ns ns 11 none
  refine ⟨⟨(ns.map absI).reverse, 1, mx, 0⟩, ⟨[some (.scr ns), some (.sh (.int mx)), o], none⟩, ?_, rfl, by simpa using hl⟩
  unfold F_law_source runFn m_law_source
  have h0 : cAsg (cD (.int 11)) (gNm 1) ⟨padS 3 [.scr ns], none⟩ = .ok .nx ⟨[some (.scr ns), some (.sh (.int 11)), none], none⟩ := rfl
  have h1 := for_ok (f := cIt (cVar 0)) (s := ⟨[some (.scr ns), some (.sh (.int 11)), none], none⟩) rfl h
  have hc : cComp (cIt (cVar 0)) (gNm 2) cYes (cCall1 dAbs (cVarV 2)) [2] ⟨[some (.scr ns), some (.sh (.int mx)), o], none⟩ = .ok (.own (.list ((ns.map absI).map .int))) ⟨[some (.scr ns), some (.sh (.int mx)), o], none⟩ :=
    comp_ok (f := cIt (cVar 0)) (s := ⟨[some (.scr ns), some (.sh (.int mx)), o], none⟩) (s1 := ⟨[some (.scr ns), some (.sh (.int mx)), o], none⟩) (vs := [2]) rfl (law_source_comp _ _ ns [] (by simp; omega))
  rw [seq_ok h0, seq_ok h1]
  simp only [cRet, cDisp, cPairs, cD, bnd_ok, cRev, vE, hc, SV.dat, SV.settle, cVar, List.getElem?_cons_zero, List.getElem?_cons_succ, keysD, Option.map_some, putAll, List.foldl_cons, List.foldl_nil]
  unfold srcD
  rw [List.map_reverse]
  rfl
def pkS (many : Int) (sr : Src) : S := ⟨[some .src, some (.sh (.int many)), none, none], some sr⟩
theorem law_pick_while (many : Int) : ∀ (n : Nat) (sr : Src), sr.cells.length < n → ∃ sr', whileL (cAnd (cT (cBinV dGt 1 (vE (cD (.int 1))))) (cAnd (cT (cBinE dLt (cSrcG 0 Src.left) (vE (cD (.int 2))))) (cT (cBinE dGt (cSrcLen 0) (vE (cD (.int 0))))))) (cSrcSet 0 putLeft (cSrcPop 0)) n (pkS many sr) = .ok .nx (pkS many sr') ∧ sr'.cells.length ≤ sr.cells.length
  | 0, sr, h => absurd h (Nat.not_lt_zero _)
  | n + 1, sr, h => by
    have hc : cAnd (cT (cBinV dGt 1 (vE (cD (.int 1))))) (cAnd (cT (cBinE dLt (cSrcG 0 Src.left) (vE (cD (.int 2))))) (cT (cBinE dGt (cSrcLen 0) (vE (cD (.int 0)))))) (pkS many sr) = .ok (decide (1 < many) && (decide (sr.left < 2) && decide (0 < (sr.cells.length : Int)))) (pkS many sr) := by
      simp only [pkS, cAnd, cT, cBinV, cBinE, vE, cD, cSrcG, cSrcLen, datAt, SV.dat, bnd_ok, opt_some, dGt, dLt, dOrd, dOrdI, List.getElem?_cons_zero, List.getElem?_cons_succ]
      by_cases c1 : 1 < many <;> by_cases c2 : sr.left < 2 <;> simp [c1, c2]
    unfold whileL
    rw [hc, bnd_ok]
    split
    · rename_i hb
      simp only [Bool.and_eq_true, decide_eq_true_eq] at hb
      have hl : sr.cells.length - 1 < sr.cells.length := by omega
      have hm : cSrcSet 0 putLeft (cSrcPop 0) (pkS many sr) = .ok .nx (pkS many ⟨sr.cells.dropLast, sr.cells[sr.cells.length - 1], sr.mixed, sr.turn⟩) := by
        simp only [pkS, cSrcSet, cSrcPop, List.getElem?_cons_zero, List.getElem?_eq_getElem hl, bnd_ok, putLeft]
      rw [hm, bnd_ok]
      obtain ⟨sr', e1, e2⟩ := law_pick_while many n ⟨sr.cells.dropLast, sr.cells[sr.cells.length - 1], sr.mixed, sr.turn⟩ (by simp; omega)
      exact ⟨sr', e1, by simp at e2; omega⟩
    · exact ⟨sr, rfl, Nat.le_refl _⟩
/-- what a pick gives -/
def PickIn (many v : Int) : Prop := 0 ≤ v ∧ (v < many ∨ (many < 2 ∧ v = 0))
theorem pick_ok (many : Int) (hm : many < 2 ^ 62) (sr : Src) (hs : sr.cells.length ≤ 63) : ∃ v sr' s', F_law_pick [.src, .sh (.int many)] (some sr) = .ok (.sh (.int v)) s' ∧ s'.src = some sr' ∧ PickIn many v ∧ sr'.cells.length ≤ 63 := by
  obtain ⟨sr1, hw, hl⟩ := law_pick_while many FUEL sr (Nat.lt_of_le_of_lt hs (by decide))
  have hl1 : sr1.cells.length ≤ 63 := Nat.le_trans hl hs
  have g0 : (⟨padS 4 [.src, .sh (.int many)], some sr⟩ : S) = pkS many sr := rfl
  have hx : dMax2 [.int 1, .int many] = some (.sh (.int (if many > 1 then many else 1))) := rfl
  have hx0 : 0 < (if many > 1 then many else 1) := by split <;> omega
  have hx1 : (if many > 1 then many else 1).natAbs.log2 < 9000 := by
    refine Nat.lt_of_le_of_lt (?_ : _ ≤ 62) (by decide)
    by_cases h : (if many > 1 then many else 1).natAbs = 0
    · rw [h]; decide
    · exact Nat.le_of_lt ((Nat.log2_lt h).mpr (by split <;> omega))
  unfold F_law_pick runFn m_law_pick
  rw [g0, seq_ok (show cWhile _ _ (pkS many sr) = .ok .nx (pkS many sr1) from hw)]
  have h2 : cAsg (cSrcG 0 Src.left) (gNm 2) (pkS many sr1) = .ok .nx ⟨[some .src, some (.sh (.int many)), some (.sh (.int sr1.left)), none], some sr1⟩ := rfl
  rw [seq_ok h2]
  have hc : cOr (cT (cBinV dLt 1 (vE (cD (.int 2))))) (cT (cBinV dGt 2 (vE (cD (.int 1))))) ⟨[some .src, some (.sh (.int many)), some (.sh (.int sr1.left)), none], some sr1⟩ = .ok (decide (many < 2) || decide (1 < sr1.left)) ⟨[some .src, some (.sh (.int many)), some (.sh (.int sr1.left)), none], some sr1⟩ := by
    simp only [cOr, cT, cBinV, vE, cD, datAt, SV.dat, bnd_ok, opt_some, dGt, dLt, dOrd, dOrdI, List.getElem?_cons_zero, List.getElem?_cons_succ]
    by_cases c1 : many < 2 <;> simp [c1]
  by_cases hb : (decide (many < 2) || decide (1 < sr1.left)) = true
  · have h3 : cSrcSet 0 putLeft (cBinV dFdiv 2 (vE (cCallN dMax2 (cCons (cD (.int 1)) (cCons (cVar 1) cNil))))) ⟨[some .src, some (.sh (.int many)), some (.sh (.int sr1.left)), none], some sr1⟩ = .ok .nx ⟨[some .src, some (.sh (.int many)), some (.sh (.int sr1.left)), none], some (putLeft sr1 (sr1.left / (if many > 1 then many else 1)))⟩ := by
      simp only [cSrcSet, cBinV, vE, cCallN, cCons, cNil, cD, cVar, SV.settle, datas, Option.map_some, hx, datAt, SV.dat, bnd_ok, opt_some, dFdiv, hx0, hx1, and_self, if_true, List.getElem?_cons_zero, List.getElem?_cons_succ]
    have h4 : cRet (cBinE dMod (cCall1 dInt (cVarV 2)) (vE (cCallN dMax2 (cCons (cD (.int 1)) (cCons (cVar 1) cNil))))) ⟨[some .src, some (.sh (.int many)), some (.sh (.int sr1.left)), none], some (putLeft sr1 (sr1.left / (if many > 1 then many else 1)))⟩ = .ok (.ret (.sh (.int (sr1.left % (if many > 1 then many else 1))))) ⟨[some .src, some (.sh (.int many)), some (.sh (.int sr1.left)), none], some (putLeft sr1 (sr1.left / (if many > 1 then many else 1)))⟩ := by
      simp only [cRet, cBinE, cCall1, cVarV, dInt, vE, cCallN, cCons, cNil, cD, cVar, SV.settle, datas, Option.map_some, hx, SV.dat, bnd_ok, opt_some, dMod, hx0, if_true, List.getElem?_cons_zero, List.getElem?_cons_succ]
    have h5 : cIfS (cOr (cT (cBinV dLt 1 (vE (cD (.int 2))))) (cT (cBinV dGt 2 (vE (cD (.int 1)))))) (cSeq (cSrcSet 0 putLeft (cBinV dFdiv 2 (vE (cCallN dMax2 (cCons (cD (.int 1)) (cCons (cVar 1) cNil)))))) (cRet (cBinE dMod (cCall1 dInt (cVarV 2)) (vE (cCallN dMax2 (cCons (cD (.int 1)) (cCons (cVar 1) cNil))))))) cSkip ⟨[some .src, some (.sh (.int many)), some (.sh (.int sr1.left)), none], some sr1⟩ = .ok (.ret (.sh (.int (sr1.left % (if many > 1 then many else 1))))) ⟨[some .src, some (.sh (.int many)), some (.sh (.int sr1.left)), none], some (putLeft sr1 (sr1.left / (if many > 1 then many else 1)))⟩ := by
      rw [ifs_ok hc, if_pos hb, seq_ok h3, h4]
    have h6 := Int.emod_nonneg sr1.left (Int.ne_of_gt hx0)
    have h7 := Int.emod_lt_of_pos sr1.left hx0
    rw [seq_ret h5]
    refine ⟨_, _, _, rfl, rfl, ⟨h6, ?_⟩, hl1⟩
    split at h7 <;> split <;> omega
  · have hb' : (decide (many < 2) || decide (1 < sr1.left)) = false := by simpa using hb
    have h2m : 2 ≤ many := by
      simp only [Bool.or_eq_false_iff, decide_eq_false_iff_not] at hb'
      omega
    have h5 : cIfS (cOr (cT (cBinV dLt 1 (vE (cD (.int 2))))) (cT (cBinV dGt 2 (vE (cD (.int 1)))))) (cSeq (cSrcSet 0 putLeft (cBinV dFdiv 2 (vE (cCallN dMax2 (cCons (cD (.int 1)) (cCons (cVar 1) cNil)))))) (cRet (cBinE dMod (cCall1 dInt (cVarV 2)) (vE (cCallN dMax2 (cCons (cD (.int 1)) (cCons (cVar 1) cNil))))))) cSkip ⟨[some .src, some (.sh (.int many)), some (.sh (.int sr1.left)), none], some sr1⟩ = .ok .nx ⟨[some .src, some (.sh (.int many)), some (.sh (.int sr1.left)), none], some sr1⟩ := by
      rw [ifs_ok hc, hb', if_neg Bool.false_ne_true]
      rfl
    have m1 : mulFits (sr1.turn + 1) 104729 = true := mulFits_r (by decide)
    have m2 : mulFits (sr1.turn + 1) 17 = true := mulFits_r (by decide)
    have r1 : 0 ≤ (sr1.mixed + (sr1.turn + 1) * 104729) % 998244353 ∧ (sr1.mixed + (sr1.turn + 1) * 104729) % 998244353 < 998244353 := ⟨Int.emod_nonneg _ (by decide), Int.emod_lt_of_pos _ (by decide)⟩
    generalize hmx : (sr1.mixed + (sr1.turn + 1) * 104729) % 998244353 = mx at r1
    have m3 : mulFits mx mx = true := mulFits_r (by unfold smallI; simp only [Bool.and_eq_true, decide_eq_true_eq]; omega)
    have h6 : cSrcSet 0 putTurn (cBinE dAdd (cSrcG 0 Src.turn) (vE (cD (.int 1)))) ⟨[some .src, some (.sh (.int many)), some (.sh (.int sr1.left)), none], some sr1⟩ = .ok .nx ⟨[some .src, some (.sh (.int many)), some (.sh (.int sr1.left)), none], some (putTurn sr1 (sr1.turn + 1))⟩ := rfl
    have h7 : cAsg (cBinE dMod (cCall1 dInt (vE (cBinE dAdd (cSrcG 0 Src.mixed) (vE (cBinE dMul (cSrcG 0 Src.turn) (vE (cD (.int 104729)))))))) (vE (cD (.int 998244353)))) (gNm 3) ⟨[some .src, some (.sh (.int many)), some (.sh (.int sr1.left)), none], some (putTurn sr1 (sr1.turn + 1))⟩ = .ok .nx ⟨[some .src, some (.sh (.int many)), some (.sh (.int sr1.left)), some (.sh (.int mx))], some (putTurn sr1 (sr1.turn + 1))⟩ := by
      subst hmx
      simp only [cAsg, cBinE, cSrcG, vE, cD, cCall1, SV.dat, dMul, dAdd, dInt, dMod, putTurn, m1, if_true, bnd_ok, opt_some, gNm, List.getElem?_cons_zero, List.getElem?_cons_succ, List.set_cons_zero, List.set_cons_succ]
      rfl
    have h8 : cAsg (cBinE dMod (cCall1 dInt (vE (cBinE dAdd (cBinV dMul 3 (cVarV 3)) (vE (cBinE dMul (cSrcG 0 Src.turn) (vE (cD (.int 17)))))))) (vE (cD (.int 2147483647)))) (gNm 3) ⟨[some .src, some (.sh (.int many)), some (.sh (.int sr1.left)), some (.sh (.int mx))], some (putTurn sr1 (sr1.turn + 1))⟩ = .ok .nx ⟨[some .src, some (.sh (.int many)), some (.sh (.int sr1.left)), some (.sh (.int ((mx * mx + (sr1.turn + 1) * 17) % 2147483647)))], some (putTurn sr1 (sr1.turn + 1))⟩ := by
      simp only [cAsg, cBinE, cBinV, cVarV, cSrcG, vE, cD, cCall1, datAt, SV.dat, dMul, dAdd, dInt, dMod, putTurn, m2, m3, if_true, bnd_ok, opt_some, gNm, List.getElem?_cons_zero, List.getElem?_cons_succ, List.set_cons_zero, List.set_cons_succ]
      rfl
    generalize (mx * mx + (sr1.turn + 1) * 17) % 2147483647 = my at h8
    have h9 : cSrcSet 0 putMixed (cVar 3) ⟨[some .src, some (.sh (.int many)), some (.sh (.int sr1.left)), some (.sh (.int my))], some (putTurn sr1 (sr1.turn + 1))⟩ = .ok .nx ⟨[some .src, some (.sh (.int many)), some (.sh (.int sr1.left)), some (.sh (.int my))], some (putMixed (putTurn sr1 (sr1.turn + 1)) my)⟩ := rfl
    have hmp : 0 < many := by omega
    have ha : cRet (cBinE dMod (cCall1 dInt (vE (cBinV dFdiv 3 (vE (cD (.int 16)))))) (cVarV 1)) ⟨[some .src, some (.sh (.int many)), some (.sh (.int sr1.left)), some (.sh (.int my))], some (putMixed (putTurn sr1 (sr1.turn + 1)) my)⟩ = .ok (.ret (.sh (.int (my / 16 % many)))) ⟨[some .src, some (.sh (.int many)), some (.sh (.int sr1.left)), some (.sh (.int my))], some (putMixed (putTurn sr1 (sr1.turn + 1)) my)⟩ := by
      have k1 : (0 : Int) < 16 ∧ (16 : Int).natAbs.log2 < 9000 := by decide
      simp only [cRet, cBinE, cBinV, cVarV, vE, cD, cCall1, datAt, SV.dat, dFdiv, dInt, dMod, k1, hmp, and_self, if_true, bnd_ok, opt_some, List.getElem?_cons_zero, List.getElem?_cons_succ]
    rw [seq_ok h5, seq_ok h6, seq_ok h7, seq_ok h8, seq_ok h9, ha]
    exact ⟨_, _, _, rfl, rfl, ⟨Int.emod_nonneg _ (by omega), .inl (Int.emod_lt_of_pos _ hmp)⟩, hl1⟩
/-- a source as the laws have it -/
def SrcIn (sr : Src) : Prop := sr.cells.length ≤ 63
/-- a call that draws: what it gives -/
def Draws (F : Fd) (as : List SV) (P : SV → Prop) : Prop := ∀ sr, SrcIn sr → ∃ r sr' sl, F as (some sr) = .ok r ⟨sl, some sr'⟩ ∧ P r ∧ SrcIn sr'
theorem Draws.call {n : Nat} {F : Fd} {ga : Ag} {rs : List SV} {s s1 : S} {P : SV → Prop} {sr : Src} (h : Draws F rs P) (ha : ga s = .ok rs s1) (hs : s1.src = some sr) (hi : SrcIn sr) (hn : rs.length = n := by rfl) (ho : okA rs = true := by rfl) : ∃ r sr', cCall n F ga s = .ok r ⟨s1.sl, some sr'⟩ ∧ P r ∧ SrcIn sr' := by
  obtain ⟨r, sr', sl, e, p, i⟩ := h sr hi
  rw [← hs] at e
  exact ⟨r, sr', call_ok ha e hn ho, p, i⟩
theorem pick_draws {many : Int} (hm : many < 2 ^ 62) : Draws F_law_pick [.src, .sh (.int many)] fun r => ∃ v, r = .sh (.int v) ∧ PickIn many v := fun sr hs => by
  obtain ⟨v, sr', ⟨sl, so⟩, e, e2, p, i⟩ := pick_ok many hm sr hs
  have e2 : so = some sr' := e2
  subst e2
  exact ⟨_, sr', sl, e, ⟨v, rfl, p⟩, i⟩
theorem of_draws {xs : List D} (h0 : xs ≠ []) (h1 : xs.length ≤ 1000) : Draws F_law_of [.src, .sh (.list xs)] fun r => ∃ x ∈ xs, r = .sh x := fun sr hs => by
  have hp : 0 < xs.length := List.length_pos_iff.mpr h0
  obtain ⟨r, sr', e, ⟨v, ev, pv⟩, i⟩ := (pick_draws (many := (xs.length : Int)) (by omega)).call (n := 2) (ga := cCons (cVar 0) (cCons (cCall1 dLen (cVarV 1)) cNil)) (s := ⟨[some .src, some (.sh (.list xs))], some sr⟩) (s1 := ⟨[some .src, some (.sh (.list xs))], some sr⟩) rfl rfl hs
  subst ev
  obtain ⟨p0, p1⟩ := pv
  have hv : v.toNat < xs.length := by omega
  refine ⟨.sh xs[v.toNat], sr', [some .src, some (.sh (.list xs))], ?_, ⟨_, List.getElem_mem hv, rfl⟩, i⟩
  have g0 : (⟨padS 2 [.src, .sh (.list xs)], some sr⟩ : S) = ⟨[some .src, some (.sh (.list xs))], some sr⟩ := rfl
  unfold F_law_of runFn m_law_of cRet cBinV vE
  rw [g0]
  simp only [e, List.getElem?_cons_zero, List.getElem?_cons_succ, bnd_ok, datAt, SV.dat, dIx, atI_int p0 hv, Option.map_some, opt_some]
end Law
end Pw
set_option Elab.async false
set_option linter.all false
set_option maxRecDepth 100000
namespace Pw
open PySem PySem.Spec PyProof.Rows L2
/-! ### what can be shown and compared -/
structure Nice (d : D) (k n : Nat) : Prop where
  sh : d.showable = true
  nd : d.hasDict = false
  pl : d.plain = true
  dp : d.depth ≤ k
  ln : d.shown.length ≤ n
theorem Nice.mono {d : D} {k k' n n' : Nat} (h : Nice d k n) (hk : k ≤ k') (hn : n ≤ n') : Nice d k' n' := ⟨h.sh, h.nd, h.pl, Nat.le_trans h.dp hk, Nat.le_trans h.ln hn⟩
theorem piled_le {n : Nat} : ∀ {ts : List Str}, (∀ t ∈ ts, t.length ≤ n) → piled ts ≤ ts.length * (n + 2)
  | [], _ => by simp [piled]
  | t :: ts, h => by
    have ih := piled_le (n := n) (ts := ts) fun t ht => h t (List.mem_cons_of_mem _ ht)
    have h0 := h t List.mem_cons_self
    rw [piled_cons, List.length_cons, Nat.succ_mul]
    omega
theorem tupleText_le (ts : List Str) : (tupleText ts).length ≤ piled ts + 4 := by
  unfold tupleText
  rw [Str.length_append, Str.length_append]
  have h1 : (("(" : Str)).length = 1 := by decide
  have h2 : ((if ts.length == 1 then ",)" else ")" : String) : Str).length ≤ 2 := by split <;> decide
  by_cases h : ts = []
  · subst h
    have : (Str.join ", " []).length = 0 := by decide
    omega
  · have := join_length_add ts h
    omega
theorem listText_le : ∀ (ts : List Str), (listText ts).length ≤ piled ts + 4
  | [] => by decide
  | t :: r => by
    have h := textFrom_length_pos r 1 (("[" : Str) ++ (if (0 : Nat) > 0 then ", " else "" : String) ++ t) (Nat.succ_pos 0)
    have hY : listText (t :: r) = textFrom 1 (("[" : Str) ++ (if (0 : Nat) > 0 then ", " else "" : String) ++ t) r ++ "]" := rfl
    have h3 : (("[" : Str) ++ (if (0 : Nat) > 0 then ", " else "" : String)).length = 1 := by decide
    have h4 : (("]" : Str)).length = 1 := by decide
    rw [hY, Str.length_append, h, Str.length_append, h3, h4]
    rw [piled_cons]
    omega
theorem all_show : ∀ {ds : List D} {k n : Nat}, (∀ d ∈ ds, Nice d k n) → PyData.showableAll ds = true ∧ PyData.hasDictAll ds = false ∧ PyData.plainAll ds = true ∧ PyData.depthAll ds ≤ k ∧ (∀ t ∈ PyData.shownAll ds, t.length ≤ n) ∧ (PyData.shownAll ds).length = ds.length
  | [], k, n, _ => ⟨rfl, rfl, rfl, Nat.zero_le _, by simp [PyData.shownAll], rfl⟩
  | d :: ds, k, n, h => by
    obtain ⟨h1, h2, h3, h4, h5, h6⟩ := all_show (ds := ds) fun x hx => h x (List.mem_cons_of_mem _ hx)
    have h0 := h d List.mem_cons_self
    refine ⟨by simp [PyData.showableAll, h0.sh, h1], by simp [PyData.hasDictAll, h0.nd, h2], by simp [PyData.plainAll, h0.pl, h3], ?_, ?_, by simp [PyData.shownAll, h6]⟩
    · simp only [PyData.depthAll]
      exact Nat.max_le.mpr ⟨h0.dp, h4⟩
    · intro t ht
      simp only [PyData.shownAll, List.mem_cons] at ht
      rcases ht with rfl | ht
      · exact h0.ln
      · exact h5 t ht
theorem Nice.tuple {ds : List D} {k n : Nat} (h : ∀ d ∈ ds, Nice d k n) : Nice (.tuple ds) (k + 1) (ds.length * (n + 2) + 4) := by
  obtain ⟨h1, h2, h3, h4, h5, h6⟩ := all_show h
  refine ⟨by simpa [PyData.showable] using h1, by simpa [PyData.hasDict] using h2, by simpa [PyData.plain] using h3, by simpa [PyData.depth] using h4, ?_⟩
  have a := tupleText_le (PyData.shownAll ds)
  have b := piled_le h5
  rw [h6] at b
  simp only [PyData.shown]
  omega
theorem Nice.list {ds : List D} {k n : Nat} (h : ∀ d ∈ ds, Nice d k n) : Nice (.list ds) (k + 1) (ds.length * (n + 2) + 4) := by
  obtain ⟨h1, h2, h3, h4, h5, h6⟩ := all_show h
  refine ⟨by simpa [PyData.showable] using h1, by simpa [PyData.hasDict] using h2, by simpa [PyData.plain] using h3, by simpa [PyData.depth] using h4, ?_⟩
  have a := listText_le (PyData.shownAll ds)
  have b := piled_le h5
  rw [h6] at b
  simp only [PyData.shown]
  omega
theorem Nice.int {i : Int} {m : Nat} (h0 : 0 ≤ i) (h : i < 10 ^ m) (hm : 0 < m) (h5 : m ≤ 500) : Nice (.int i) 0 m := by
  have hl : i.natAbs.log2 < 1920 := by
    have h1 : i.natAbs < 10 ^ m := by
      have : ((10 ^ m : Nat) : Int) = 10 ^ m := by simp
      omega
    have h2 : (10 : Nat) ^ m ≤ 2 ^ 1920 := Nat.le_trans (Nat.pow_le_pow_right (by decide) h5) (by decide +kernel)
    by_cases hz : i.natAbs = 0
    · rw [hz]; decide
    · exact (Nat.log2_lt hz).mpr (Nat.lt_of_lt_of_le h1 h2)
  exact ⟨by simpa [PyData.showable] using hl, rfl, rfl, Nat.le_refl _, by simp only [PyData.shown]; exact PyProof.Rows.toString_length_le h0 hm h⟩
theorem Nice.str {x : Str} {n : Nat} (h : (PyData.shown (.str x)).length ≤ n) : Nice (.str x) 0 n := ⟨rfl, rfl, rfl, Nat.le_refl _, h⟩
theorem Nice.repr {d : D} {k n : Nat} (h : Nice d k n) (hk : k ≤ 40) (hn : n ≤ 16000000) : dRepr d = some (.sh (.str d.shown)) := by
  unfold dRepr
  rw [if_pos ⟨h.sh, h.nd, Nat.le_trans h.dp hk, by have := h.ln; rw [sizeLine_eq]; omega⟩]
theorem Nice.eq {a b : D} {k n k' n' : Nat} (h : Nice a k n) (h' : Nice b k' n') (hk : k ≤ 40) : dEq a b = some (.sh (.bool (PyData.eqv a b))) := by
  unfold dEq eqOk
  rw [h.pl, h'.pl, decide_eq_true (Nat.le_trans h.dp hk)]
  rfl
theorem Nice.ne {a b : D} {k n k' n' : Nat} (h : Nice a k n) (h' : Nice b k' n') (hk : k ≤ 40) : dNe a b = some (.sh (.bool (!PyData.eqv a b))) := by
  unfold dNe eqOk
  rw [h.pl, h'.pl, decide_eq_true (Nat.le_trans h.dp hk)]
  rfl
theorem Nice.refl {a : D} {k n : Nat} (h : Nice a k n) : PyData.eqv a a = true := PySem.SeqAt.eqv_refl_plain a h.pl
end Pw
set_option Elab.async false
set_option linter.all false
set_option maxRecDepth 100000
namespace Pw
open PySem PySem.Spec PyProof.Rows L2
/-! ### *e in displays -/
section
variable {X : Cx} {Z : Zx} {W : WX} {o e a b : Expr} {es : List Expr} {f fa : Ev} {fb : Vw} {g ga : Ag} {i : Nat} {x : Str} {p p1 p2 p3 pos pos' : Pos} {H : Hp} {σ : L2.St} {T : List Ent} {s : S} {L : List Ent} {src : Option Src} {O : Addr → Prop} {v : V}
def cStar (f : Ev) (g : Ag) : Ag := fun s => (f s).bind fun r s1 => match r.settle with
  | .sh (.list ds) => (g s1).bind fun rs s2 => .ok (ds.map .sh ++ rs) s2
  | .sh (.tuple ds) => (g s1).bind fun rs s2 => .ok (ds.map .sh ++ rs) s2
  | _ => .err
theorem ents_app : ∀ {vs ws : List V} {rs ts : List SV}, vs.length = rs.length → ents (vs ++ ws) (rs ++ ts) = ents vs rs ++ ents ws ts
  | [], ws, [], ts, _ => rfl
  | v :: vs, ws, r :: rs, ts, h => by
    have := ents_app (vs := vs) (ws := ws) (rs := rs) (ts := ts) (by simpa using h)
    simp only [ents, List.cons_append, List.map_cons, List.zip_cons_cons] at this ⊢
    rw [this]
  | [], _, _ :: _, _, h => by simp at h
  | _ :: _, _, [], _, h => by simp at h
theorem star_fin {xs : List V} {ds : List D} {d : D} {Q : List V → Hp → Prop} (ra : RpA Z.K H O xs ds) (R0 : RelO Z H s.src ((some v, some (.sh d)) :: (T ++ List.zip σ s.sl)) O) (hl : σ.length = s.sl.length)
    (q : ((g s).bind fun rs s2 => .ok (ds.map .sh ++ rs) s2).sat (fun rs s' => ∀ vs H', vs.length = rs.length → RelS Z H' σ (ents vs rs ++ T) s' → Q vs H') (ExP Z σ T W)) : LA Z W g σ H fun ys H2 => Q (xs ++ ys) H2 := by
  have hlen : xs.length = (ds.map SV.sh).length := by rw [ra.length, List.length_map]
  refine ⟨(ents xs (ds.map .sh) ++ [(some v, some (.sh d))]) ++ T, s, ⟨hl, O, ?_⟩, Res.sat_mono (Res.sat_bind.mp q) (fun rs s2 q ys H2 hl2 R2 => ?_) fun e s h => h.less _⟩
  · have := R0.pushN (rel_ents ra)
    simpa using this
  · refine q (xs ++ ys) H2 (by simp [hlen, hl2]) ?_
    rw [ents_app hlen]
    have R3 : RelS Z H2 σ ([(some v, some (.sh d))] ++ ((ents xs (ds.map .sh) ++ ents ys rs) ++ T)) s2 := R2.perm (by
      have e : ents ys rs ++ (ents xs (ds.map .sh) ++ [(some v, some (.sh d))] ++ T) = (ents ys rs ++ ents xs (ds.map .sh)) ++ (some v, some (.sh d)) :: T := by simp
      rw [e]
      refine (List.perm_middle).trans ?_
      exact ((List.perm_append_comm).append_right T).cons _)
    exact RelS.popN R3
theorem snA_star (h : SnE X Z W e f) (hr : SnA X Z W es g) (hs : starEach (.Starred e p :: es) X.env = (true, eval e X.env) :: starEach es X.env := by rfl) : SnA X Z W (.Starred e p :: es) (cStar f g) := fun k => pa_imp (StX.pa_star (h k) (hr k) hs) fun σ H Q ⟨T, s, R, q⟩ => by
  refine ⟨T, s, R, Res.sat_mono (Res.sat_bind.mp q) (fun r s1 q v H1 R1 => ?_) fun e s h => h⟩
  have R1 := R1.settleAny
  split at q
  · rename_i ds e
    rw [e] at R1
    obtain ⟨O, R0⟩ := id R1.2
    obtain ⟨a, xs, e1, ha, ra⟩ := R0.list (v := v) (ds := ds) ⟨.sh (.list ds), by simp, rfl⟩
    exact ⟨a, xs, e1, .inr (SqL.of ha), star_fin ra R0 R1.1 q⟩
  · rename_i ds e
    rw [e] at R1
    obtain ⟨O, R0⟩ := id R1.2
    obtain ⟨a, xs, e1, ha, ra⟩ := R0.tuple (v := v) (ds := ds) ⟨.sh (.tuple ds), by simp, rfl⟩
    exact ⟨a, xs, e1, .inl (k ▸ ha), star_fin ra R0 R1.1 q⟩
  · exact q.elim
/-! ### slices, whole ones too -/
def dSl2 (d : D) (lo hi : Option Int) : Option SV := match d with
  | .list ds => some (.own (.list (cutD ds lo hi)))
  | .tuple ds => some (.sh (.tuple (cutD ds lo hi)))
  | .str z => if z.length ≤ sizeLine then some (.sh (.str (Txt.slice z lo hi))) else none
  | _ => none
def rSlD2 (K : PySem.W.Frag) : V → Option Int → Option Int → Hp → VK → Prop := fun x lo hi H Q => ∃ Z src L d r, Z.K = K ∧ Rel Z H src L ∧ Has L x d ∧ dSl2 d lo hi = some r ∧ ∀ v H', Rel Z H' src ((some v, some r) :: L) → Q v H'
theorem cut_whole {ds : List D} {lo hi : Option Int} (h : HT.sIx ds.length 0 lo = 0 ∧ HT.sIx ds.length ds.length hi = ds.length) : cutD ds lo hi = ds := by
  unfold cutD
  rw [h.1, h.2]
  simp
theorem slR2 : SlR X (rSlD2 X.K) := by
  intro pins s σ H x v vl vu lo hi sl Q I rx hs pl pu h
  obtain ⟨Z, src, L, d, r, hK, R, hx, e, q⟩ := h
  obtain ⟨O, R0⟩ := id R
  unfold dSl2 at e
  split at e
  · cases e
    obtain ⟨c, xs, e1, hc, ra⟩ := R0.list hx
    refine sl_list pins s σ H x v vl vu lo hi sl Q I rx hs pl pu ⟨c, xs, e1, SqL.of hc, fun p hp => q _ _ (R.newListOf hp fun O' R' => ?_)⟩
    obtain ⟨c', xs', e1', hc', ra'⟩ := R'.list hx
    rw [e1] at e1'
    cases e1'
    rw [hc] at hc'
    cases hc'
    exact cut_rp ra'
  · cases e
    obtain ⟨c, xs, e1, hc, ra⟩ := R0.tuple hx
    rw [hK] at hc
    refine sl_tupA pins s σ H x v vl vu lo hi sl Q I rx hs pl pu ⟨c, xs, e1, hc, fun hw => ?_, fun _ p hp => q _ _ (R.newTup hp fun O' R' => ?_)⟩
    · rw [ra.length] at hw
      rw [cut_whole hw] at q
      subst e1
      exact q _ _ (R0.shOf hx fun _ z => z)
    · obtain ⟨c', xs', e1', hc', ra'⟩ := R'.tuple hx
      rw [hK] at hc'
      rw [e1] at e1'
      cases e1'
      have := I.tuple_inj hc hc'
      subst this
      exact cut_rp ra'
  · split at e
    · rename_i hz
      cases e
      exact C8.sl_txt pins s σ H x v vl vu lo hi sl Q I rx hs pl pu ⟨_, R0.str hx, hz, q _ _ (R.str _)⟩
    · cases e
  · cases e
def cSlE2 (f : Ev) (lo hi : Option Vw) : Ev := fun s => (f s).bind fun r s1 => (bnd lo s1).bind fun l s2 => (bnd hi s2).bind fun h s3 => match r.dat with
  | some d => Res.opt (dSl2 d l h) s3
  | none => .err
def cSlV2 (i : Nat) (lo hi : Option Vw) : Ev := fun s => match datAt s i with
  | some _ => (bnd lo s).bind fun l s2 => (bnd hi s2).bind fun h s3 => match datAt s3 i with
    | some d => Res.opt (dSl2 d l h) s3
    | none => .err
  | none => .err
theorem snE_slE2 {lo hi : Option Expr} {l h : Option Vw} (ha : SnE X Z W e fa) (hl : SnO X Z W lo l) (hh : SnO X Z W hi h) : SnE X Z W (.Subscript e (.Slice lo hi none p2) pos) (cSlE2 fa l h) := fun k => pe_imp (pe_slice slR2 (ha k) (po_of hl k) (po_of hh k)) fun σ H Q ⟨T, s, R, q⟩ => by
  refine ⟨T, s, R, Res.sat_mono (Res.sat_bind.mp q) (fun r s1 q v H1 R1 => ?_) fun e s h => h⟩
  refine ⟨_, s1, R1, Res.sat_mono (Res.sat_bind.mp q) (fun l s2 q H2 R2 => ?_) fun e s h => exP_popT h⟩
  refine ⟨_, s2, R2, Res.sat_mono (Res.sat_bind.mp q) (fun h s3 q H3 R3 => ?_) fun e s h => exP_popT h⟩
  split at q
  · rename_i d ed
    obtain ⟨r', er, q⟩ := sat_opt q
    exact ⟨Z, s3.src, _, d, r', k.symm, R3.2, ⟨r, by simp, ed⟩, er, fun w H' R' => q w H' ⟨R3.1, (Rel.perm R' (List.Perm.swap _ _ _)).pop⟩⟩
  · exact q.elim
theorem snE_slV2 {lo hi : Option Expr} {l h : Option Vw} (ho : PE X e (tVar i)) (hl : SnO X Z W lo l) (hh : SnO X Z W hi h) : SnE X Z W (.Subscript e (.Slice lo hi none p2) pos) (cSlV2 i l h) := fun k => pe_imp (pe_slice slR2 ho (po_of hl k) (po_of hh k)) fun σ H Q ⟨T, s, R, q⟩ => by
  unfold cSlV2 at q
  split at q
  · rename_i d0 e0
    obtain ⟨v, hv, _⟩ := R.datAt e0
    refine ⟨v, hv, T, s, R, Res.sat_mono (Res.sat_bind.mp q) (fun l s2 q H2 R2 => ?_) fun e s h => h⟩
    refine ⟨T, s2, R2, Res.sat_mono (Res.sat_bind.mp q) (fun h s3 q H3 R3 => ?_) fun e s h => h⟩
    split at q
    · rename_i d ed
      obtain ⟨r', er, q⟩ := sat_opt q
      obtain ⟨v', hv', hm⟩ := R3.datAt ed
      rw [hv] at hv'
      cases hv'
      exact ⟨Z, s3.src, _, d, r', k.symm, R3.2, hm, er, fun w H' R' => q w H' ⟨R3.1, R'⟩⟩
    · exact q.elim
  · exact q.elim
/-! ### order of texts, too -/
def strLe (a b : Str) : Bool := !decide (b.cps.toList < a.cps.toList)
abbrev dLe2 := dOrd (fun i j => decide (i ≤ j)) strLe
theorem opR_le2 : OpR X (compareOp .LtE) (rD X.K dLe2) := opR_ord op_le op_le_str
abbrev dGe2 := dOrd (fun i j => decide (j ≤ i)) fun a b => strLe b a
theorem opR_ge2 : OpR X (compareOp .GtE) (rD X.K dGe2) := opR_ord op_ge op_ge_str
end
/-! ### t * 1 -/
section
variable {X : Cx}
theorem tuple_mulOne (l : Addr) (items : Array Value) (n : Nat) (dd : Option Addr) (sl : Array (Option Value)) (u : Tok) :
    Meets (Builtin.«tuple.__mul__» ⟨[.ref l, .int 1 u], []⟩) (fun _ R s => s.heap.get? l = some { cls := .type "tuple", dict := dd, data := .seq items n, slots := sl } ∧ R (.ok (.ret (Value.ref l))) s) :=
  .of_wp fun prog w A R s h => by
    obtain ⟨hp, g, d, tk, os⟩ := s
    obtain ⟨hl, h⟩ := h
    have f1 := AutoSeq1.idx_int
    have c1 : (items.isEmpty || (1 : Int) == 1) = true := by simp
    wp_walk using wpAny_loadPart' hl
    repeat (first
      | (refine wpAny_ite_false (decide_eq_false (by decide)) ?_; wp_walk using wpAny_loadPart' hl)
      | (refine wpAny_ite_true (decide_eq_true c1) ?_; wp_walk using wpAny_loadPart' hl))
    all_goals first | exact ⟨_, rfl, h⟩ | skip
def rRepOne (K : PySem.W.Frag) : R2 := fun x y H Q => ∃ l xs, x = .ref l ∧ y = .int 1 ∧ SqT K H l xs ∧ Q (.ref l) H
theorem op_repOne : OpR X (binaryOp .Mult) (rRepOne X.K) := by
  intro pins s σ H x y v u Q I rx ry h
  obtain ⟨l, xs, rfl, rfl, hT, q⟩ := h
  cases rx
  obtain ⟨t, rfl⟩ := ry
  obtain ⟨its, r, ⟨⟨cls, dd, data, sl⟩, ho, hc, n, hd⟩, hs⟩ := I.tuple hT
  simp only at hc hd
  subst hc hd
  exact wpAny_binaryOp_repeat_ref (T := "tuple") (U := "int") (by decide) ⟨_, ho, rfl⟩ (fun s' => typeIs_int s' 1 t) noFill_tuple_mul F.fills_int_mul F.slot_int_rmul repeat_tuple F.slot_int_index.lookup
    (call_meets F.slot_int_rmul (typeIs_int s 1 t) F.entry_int_rmul (F.args_int_rmul_2 _ _) (int_rmul_tuple 1 t l its.toArray n dd sl)
      ⟨ho, rfl, ⟨_, ho, rfl⟩, call_meets F.slot_tuple_mul ⟨_, ho, rfl⟩ F.entry_tuple_mul (F.args_tuple_mul_2 _ _) (tuple_mulOne l its.toArray n dd sl t) ⟨ho, ⟨.ref l, H, I, rfl, q⟩⟩⟩)
def dMul2r : D → D → Option SV
  | .tuple xs, .int k => if k = 1 then some (.sh (.tuple xs)) else dMul (.tuple xs) (.int k)
  | a, b => dMul a b
theorem opR_mul2r : OpR X (binaryOp .Mult) (rD X.K dMul2r) := by
  intro pins s σ H x y v u Q I rx ry h
  obtain ⟨Z, src, L, d1, d2, r, hK, R, h1, h2, e, q⟩ := h
  have old : dMul d1 d2 = some r → wpAny (model X.prog X.w) X.A (binaryOp .Mult v u) (EP X pins σ Q) X.xe s := fun e => opR_mul pins s σ H x y v u Q I rx ry ⟨Z, src, L, d1, d2, r, hK, R, h1, h2, e, q⟩
  unfold dMul2r at e
  split at e
  · split at e
    · rename_i hk
      cases e
      obtain ⟨O, R0⟩ := id R
      obtain ⟨a, xs, e1, ha, ra⟩ := R0.tuple h1
      subst hk
      rw [hK] at ha
      subst e1
      exact op_repOne pins s σ H _ y v u Q I rx ry ⟨a, xs, rfl, R0.int h2, ha, q _ _ (R0.shOf h1 fun _ z => z)⟩
    · exact old e
  · exact old e
end
/-! ### the same, its tests never looked into by the kernel -/
noncomputable def ifc {α : Type} (p : Prop) (a b : α) : α := @ite α p (Classical.propDecidable p) a b
theorem ifc_eq {α : Type} (p : Prop) [h : Decidable p] (a b : α) : ifc p a b = if p then a else b := by
  unfold ifc
  congr
theorem ifc_pos {α : Type} {p : Prop} {a b : α} (h : p) : ifc p a b = a := by
  unfold ifc
  exact if_pos h
noncomputable def dMul2 : D → D → Option SV
  | .int i, .int j => ifc (mulFits i j = true) (some (.sh (.int (i * j)))) none
  | .list xs, .int k => ifc (-(2 ^ 63) ≤ k ∧ k < 2 ^ 63 ∧ xs.length * k.toNat ≤ sizeLine) (some (.own (.list (List.replicate k.toNat xs).flatten))) none
  | .tuple xs, .int k => ifc (k = 1) (some (.sh (.tuple xs))) (ifc (xs ≠ [] ∧ 2 ≤ k ∧ k ≤ 1000 ∧ xs.length ≤ 1000) (some (.sh (.tuple (List.replicate k.toNat xs).flatten))) none)
  | .str x, .int k => ifc (0 ≤ k ∧ k ≤ 100000 ∧ x.length ≤ 100) (some (.sh (.str (Txt.mul x k)))) none
  | _, _ => none
theorem dMul2_eq : dMul2 = dMul2r := by
  funext a b
  cases a <;> cases b <;> first | rfl | (simp only [dMul2, dMul2r, dMul, ifc_eq])
section
variable {X : Cx}
theorem opR_mul2 : OpR X (binaryOp .Mult) (rD X.K dMul2) := by
  rw [dMul2_eq]
  exact opR_mul2r
end
end Pw
set_option Elab.async false
set_option linter.all false
set_option maxRecDepth 100000
namespace Pw
open PySem PySem.Spec PyProof.Rows L2
/-! ### t[::-1] -/
section
variable {prog : Program} {w : World} {A : Around} {E : Value → Shared → Prop} {s : Shared}
theorem sliceApplied_rev {sl : Addr} {vl vu vs : Value} {n : Nat} {Q : Int × Int × Nat → Shared → Prop} (hs : s.heap.IsSliceOf sl vl vu vs) (pl : IsPart vl none) (pu : IsPart vu none) (ps : IsPart vs (some (-1)))
    (h : Q ((n : Int) - 1, -1, n) s) : wpAny (model prog w) A (Builtin.Slice.sliceApplied (.ref sl) (pure (n : Int))) Q E s := by
  obtain ⟨os, hos, hcs, hds⟩ := id hs
  unfold Builtin.Slice.sliceApplied Builtin.Slice.sliceFields
  refine wpAny_bind (wpAny_bind (wpAny_field hos hds (x := vl) rfl (wpAny_bind (wpAny_field hos hds (x := vu) rfl (wpAny_bind (wpAny_field hos hds (x := vs) rfl (wpAny_pure ?_)))))))
  refine wpAny_bind (HT.slicePart_ ps ?_)
  show wpAny _ _ (if ((-1 : Int) == 0) = true then _ else _) _ _ s
  rw [if_neg (by decide)]
  refine wpAny_bind (HT.slicePart_ pl (wpAny_bind (HT.slicePart_ pu (wpAny_bind (wpAny_pure ?_)))))
  have e1 : Builtin.Slice.sliceAdjust none none (-1) (n : Int) = ((n : Int) - 1, -1) := rfl
  have e2 : Builtin.Slice.slicePlaces ((n : Int) - 1) (-1) (-1) = n := by
    unfold Builtin.Slice.slicePlaces
    have h1 : ¬ ((-1 : Int) > 0) := by decide
    simp only [h1, if_false]
    rw [show (- -1 : Int) = 1 by decide, Int.ediv_one]
    split <;> omega
  show wpAny _ _ (match Builtin.Slice.sliceAdjust none none (-1) (n : Int) with | (lo, hi) => pure (lo, (-1 : Int), Builtin.Slice.slicePlaces lo hi (-1))) _ _ s
  rw [e1]
  show wpAny _ _ (pure ((n : Int) - 1, (-1 : Int), Builtin.Slice.slicePlaces ((n : Int) - 1) (-1) (-1))) _ _ s
  rw [e2]
  exact wpAny_pure h
theorem pick_rev (xs : Array Value) : ((List.range xs.size).filterMap fun (m : Nat) => xs[(((xs.size : Int) - 1) + (m : Int) * -1).toNat]?).toArray = xs.toList.reverse.toArray := by
  congr 1
  apply List.ext_getElem?
  intro i
  have hm : ∀ m ∈ List.range xs.size, (fun (m : Nat) => xs[(((xs.size : Int) - 1) + (m : Int) * -1).toNat]?) m = some ((xs.toList.reverse)[m]?.getD .none) := by
    intro m hm
    have hm := List.mem_range.mp hm
    have e : (((xs.size : Int) - 1) + (m : Int) * -1).toNat = xs.size - 1 - m := by omega
    show xs[(((xs.size : Int) - 1) + (m : Int) * -1).toNat]? = _
    rw [e, List.getElem?_reverse (by simpa using hm)]
    have h2 : xs.size - 1 - m < xs.size := by omega
    simp [h2]
  have : ∀ (l : List Nat) (f : Nat → Option Value) (g : Nat → Value), (∀ m ∈ l, f m = some (g m)) → l.filterMap f = l.map g := by
    intro l
    induction l with
    | nil => intros; rfl
    | cons a l ih =>
      intro f g h
      rw [List.filterMap_cons, h a List.mem_cons_self]
      simp only [List.map_cons]
      rw [ih f g fun m hm => h m (List.mem_cons_of_mem _ hm)]
  rw [this _ _ _ hm, List.getElem?_map]
  by_cases hi : i < xs.size
  · have h2 : i < xs.toList.reverse.length := by simpa using hi
    rw [List.getElem?_range hi, List.getElem?_eq_getElem h2]
    show some (xs.toList.reverse[i]?.getD Value.none) = some _
    rw [List.getElem?_eq_getElem h2]
    rfl
  · rw [List.getElem?_eq_none (by simpa using hi), List.getElem?_eq_none (by simpa using hi)]
    rfl
theorem getItem_tuple_rev {t sl : Addr} {items : Array Value} {vl vu vs : Value} {Q : Value → Shared → Prop} (ht : PyProof.Rows.IsTup s.heap t items) (hs : s.heap.IsSliceOf sl vl vu vs) (pl : IsPart vl none) (pu : IsPart vu none) (ps : IsPart vs (some (-1)))
    (h : Q (.ref s.heap.objs.size) { s with heap := s.heap.push { cls := .type "tuple", data := .seq items.toList.reverse.toArray } })
    (hsz : items.size ≤ sizeLine) : wpAny (model prog w) A (getItem (.ref t) (.ref sl)) Q E s := by
  have htake : sizeOk (.seq items.toList.reverse.toArray) := by
    show (items.toList.reverse.toArray).size ≤ sizeLine
    simpa using hsz
  obtain ⟨os, hos, hcs, hds⟩ := id hs
  have hTs : s.TypeIs (.ref sl) "slice" := ⟨os, hos, hcs⟩
  unfold getItem
  try with_reducible refine wpAny_holding ?_
  first | refine wpAny_bind (wpAny_pure ?_) | skip
  refine wpAny_bind (wpAny_sequenceKey ht.typeIs (by decide) ?_)
  refine wpAny_bind (wpAny_callSpecial?_slot (name := Str.ofString "__getitem__") ht.typeIs PyProof.Rows.slot_tuple_getitem
    (wpAny_call_entry PyProof.Rows.slot_tuple_getitem ht.typeIs entry_tuple_getitem ?_ (args_tuple_getitem _ _)))
  show wpAny _ _ (Builtin.Tuple.tupleItemsOf (.ref t) >>= _) _ _ s
  refine wpAny_bind (tupleItemsOf_ ht ?_)
  refine wpAny_bind (wpAny_typeOf hTs ?_)
  rw [if_pos (by decide)]
  refine wpAny_bind (sliceApplied_rev hs pl pu ps ?_)
  have hno : ¬ ((((items.size : Int) - 1) == 0 && (-1 : Int) == 1 && items.size == items.size) = true) := by
    intro q
    rw [Bool.and_eq_true, Bool.and_eq_true] at q
    exact absurd q.1.2 (by decide)
  show wpAny _ _ (if (((items.size : Int) - 1) == 0 && (-1 : Int) == 1 && items.size == items.size) = true then _ else _) _ _ s
  rw [if_neg hno, pick_rev]
  first
    | exact wpAny_bind (m := Builtin.Tuple.tupleExact _) (wpAny_newObj_type (wpAny_pure ⟨_, rfl, wpAny_pure h⟩) htake)
    | exact wpAny_bind (m := Builtin.Tuple.tupleExact _) (wpAny_newObj_type (wpAny_bind (wpAny_pure (wpAny_pure ⟨_, rfl, wpAny_pure h⟩))) htake)
    | exact wpAny_bind (wpAny_bind (m := Builtin.Tuple.tupleExact _) (wpAny_newObj_type (wpAny_pure (wpAny_pure ⟨_, rfl, wpAny_pure h⟩)) htake))
    | exact wpAny_bind (wpAny_bind (m := Builtin.Tuple.tupleExact _) (wpAny_newObj_type (wpAny_pure ⟨_, rfl, wpAny_pure h⟩) htake))
end
theorem RelO.newTupO {Z : Zx} {H : Hp} {src : Option Src} {L : List Ent} {O : Addr → Prop} {p : Addr} {vs : List V} {ds : List D} (r : RelO Z H src L O) (hp : H p = none) (hr : RpA Z.K H O vs ds) : Rel Z (upd H p (.tup vs)) src ((some (.ref p), some (.sh (.tuple ds))) :: L) := by
  have k : ∀ b x, H b = some x → upd H p (.tup vs) b = some x := fun b x e => by rw [upd_ne (ne_of_none e hp)]; exact e
  refine ⟨O, (r.new hp).push mild_sh fun s q => ⟨_, rfl, ?_⟩⟩
  cases q
  exact .tup upd_same (r.fresh hp) ((Stp.of_keep k).rpA hr)
section
variable {X : Cx} {Z : Zx} {W : WX} {e : Expr} {fb : Vw} {k : Nat} {p1 p2 p3 pos : Pos} {H : Hp} {σ : L2.St}
def tRevA (K : PySem.W.Frag) (te : TE) : TE := fun σ H Q => te σ H fun x H1 => (∃ a xs, x = .ref a ∧ SqL K H1 a xs ∧ ∀ p, H1 p = none → Q (.ref p) (upd H1 p (.lst xs.reverse))) ∨ ∃ a xs, x = .ref a ∧ SqT K H1 a xs ∧ ∀ p, H1 p = none → Q (.ref p) (upd H1 p (.tup xs.reverse))
theorem pe_revA {te : TE} (he : PE X e te) : PE X (.Subscript e (.Slice none none (some (.UnaryOp .USub (.Constant (.int 1) k p1) p2)) p3) pos) (tRevA X.K te) := by
  refine ⟨fun pins s σ H Q I h => ?_⟩
  refine Subscript_ (thn (he.run pins s σ H _ I h) fun v s1 ⟨x, H1, I1, r1, q1⟩ => ?_)
  have hst : PO X (some (.UnaryOp .USub (.Constant (.int 1) k p1) p2)) (tPart (tUn (rU fun i => .int (-i)) (tC (.int 1)))) := po_some (pe_un un_neg pe_int)
  refine wpAny_Slice (thn (po_none.run pins s1 σ H1 (fun o H2 => o = none ∧ H2 = H1) I1 ⟨rfl, rfl⟩) fun vl s2 ⟨l, H2, I2, pl, el, e2⟩ => ?_)
  subst el e2
  refine thn (po_none.run pins s2 σ H2 (fun o H3 => o = none ∧ H3 = H2) I2 ⟨rfl, rfl⟩) fun vu s3 ⟨u, H3, I3, pu, eu, e3⟩ => ?_
  subst eu e3
  refine thn (hst.run pins s3 σ H3 (fun o H4 => o = some (-1) ∧ H4 = H3) I3 ⟨1, rfl, -1, rfl, rfl, rfl⟩) fun vs s4 ⟨o, H4, I4, ps, eo, e4⟩ => ?_
  subst eo e4
  have I5 : Inv X pins σ H4 { s4 with heap := s4.heap.push { cls := .type "slice", data := .fields #[vl, vu, vs] } } := I4.kept (t' := s4.toks) fun b ob q => Heap.get?_push_of_some _ q
  rcases q1 with ⟨a, xs, ex, hx, q⟩ | ⟨a, xs, ex, hx, q⟩
  · subst ex
    cases r1
    obtain ⟨its, r, ht, hz⟩ := I5.list hx
    have hlen := r.length
    show wpAny (model X.prog X.w) X.A (subscriptTail e (.Slice none none (some (.UnaryOp .USub (.Constant (.int 1) k p1) p2)) p3) (.ref a) (.ref s4.heap.objs.size)) (EP X pins σ Q) X.xe { s4 with heap := s4.heap.push { cls := .type "slice", data := .fields #[vl, vu, vs] } }
    refine tail_any (ops := [.ref a, .ref s4.heap.objs.size]) ht.isList.typeIs (PySem.slot_list_getitem.lookup) ?_ (by with_unfolding_all rfl)
    refine wpAny_getItem_list_slice ht.isList (Heap.IsSliceOf.new _ vl vu vs) pl pu ps (by decide) ?_ (by rw [List.size_toArray]; omega)
    rw [PySem.W.krv_pick]
    refine ⟨.ref _, _, I5.laid (t' := s4.toks) (o := .lst xs.reverse) (fun b ob q => Heap.get?_push_of_some _ q) (Nat.le_refl _) ?_, rfl, q _ (I5.hok.fresh (Nat.le_refl _))⟩
    exact ⟨by rw [List.length_reverse]; exact hz, _, 0, r.reverse, Heap.get?_push_size _ rfl⟩
  · subst ex
    cases r1
    obtain ⟨its, r, ht, hz⟩ := I5.tuple hx
    have hlen := r.length
    show wpAny (model X.prog X.w) X.A (subscriptTail e (.Slice none none (some (.UnaryOp .USub (.Constant (.int 1) k p1) p2)) p3) (.ref a) (.ref s4.heap.objs.size)) (EP X pins σ Q) X.xe { s4 with heap := s4.heap.push { cls := .type "slice", data := .fields #[vl, vu, vs] } }
    refine tail_any (ops := [.ref a, .ref s4.heap.objs.size]) ht.typeIs (PyProof.Rows.slot_tuple_getitem.lookup) ?_ (by with_unfolding_all rfl)
    refine getItem_tuple_rev ht (Heap.IsSliceOf.new _ vl vu vs) pl pu ps ?_ (by rw [List.size_toArray]; omega)
    refine ⟨.ref _, _, I5.laid (t' := s4.toks) (o := .tup xs.reverse) (fun b ob q => Heap.get?_push_of_some _ q) (Nat.le_refl _) ?_, rfl, q _ (I5.hok.fresh (Nat.le_refl _))⟩
    exact ⟨by rw [List.length_reverse]; exact hz, _, r.reverse, IsTup.new _ _⟩
def cRev2 (f : Vw) : Ev := fun s => (f s).bind fun d s1 => match d with
  | .list ds => .ok (.own (.list ds.reverse)) s1
  | .tuple ds => .ok (.sh (.tuple ds.reverse)) s1
  | _ => .err
theorem snE_rev2 (ho : SnV X Z W e fb) : SnE X Z W (.Subscript e (.Slice none none (some (.UnaryOp .USub (.Constant (.int 1) k p1) p2)) p3) pos) (cRev2 fb) := fun kz => pe_imp (pe_revA (ho kz)) fun σ H Q ⟨T, s, R, q⟩ => by
  refine ⟨T, s, R, Res.sat_mono (Res.sat_bind.mp q) (fun d s1 q v H1 T' R1 hv => ?_) fun e s h => h⟩
  split at q
  · obtain ⟨O, R0⟩ := id R1.2
    obtain ⟨c, xs, e1, hc, ra⟩ := R0.list hv
    refine .inl ⟨c, xs, e1, SqL.of hc, fun p hp => q _ _ ⟨R1.1, ?_⟩⟩
    have R2 := R1.2.newListOf hp (xs := xs.reverse) fun O' R' => by
      obtain ⟨c', xs', e1', hc', ra'⟩ := R'.list hv
      rw [e1] at e1'
      cases e1'
      rw [hc] at hc'
      cases hc'
      exact ra'.reverse
    have R3 : Rel Z (upd H1 p (.lst xs.reverse)) s1.src (T' ++ ((some (.ref p), some (.own (.list _))) :: (T ++ List.zip σ s1.sl))) := R2.perm (by rw [List.append_assoc]; exact List.perm_middle.symm)
    exact Rel.popN _ R3
  · obtain ⟨O, R0⟩ := id R1.2
    obtain ⟨c, xs, e1, hc, ra⟩ := R0.tuple hv
    exact .inr ⟨c, xs, e1, kz ▸ hc, fun p hp => q _ _ ⟨R1.1, by
      have R3 : Rel Z (upd H1 p (.tup xs.reverse)) s1.src (T' ++ ((some (.ref p), some (.sh (.tuple _))) :: (T ++ List.zip σ s1.sl))) := (R0.newTupO hp ra.reverse).perm (by rw [List.append_assoc]; exact List.perm_middle.symm)
      exact Rel.popN _ R3⟩⟩
  · exact q.elim
end
end Pw
set_option Elab.async false
set_option linter.all false
set_option maxRecDepth 100000
namespace Pw
open PySem PySem.Spec PyProof.Rows L2
open PySem.W (alike alikeAll minD maxD AlikeAll alike_unique min_list_data min_tuple_data max_list_data max_tuple_data dataLe dataLt sorted_data AllAlike Sortable EachIs)
section
variable {X : Cx} {Z : Zx} {H : Hp} {σ : L2.St} {L : List Ent} {src : Option Src} {O : Addr → Prop}
theorem vals_at : ∀ {vs : List V} {us : List Value} {i : Nat} {u : Value}, Vals vs us → us[i]? = some u → ∃ v, vs[i]? = some v ∧ RelV v u
  | _, _, i, u, .nil, e => by simp at e
  | _, _, 0, u, .cons r _, e => by simp at e; subst e; exact ⟨_, rfl, r⟩
  | _, _, i + 1, u, .cons _ t, e => by
    obtain ⟨v, h1, h2⟩ := vals_at (i := i) t (by simpa using e)
    exact ⟨v, by simpa using h1, h2⟩
theorem rpA_at {K} : ∀ {vs : List V} {ds : List D} {i : Nat} {v : V}, RpA K H O vs ds → vs[i]? = some v → ∃ d, ds[i]? = some d ∧ Rp K H O v d
  | _, _, i, v, .nil, e => by simp at e
  | _, _, 0, v, .cons r _, e => by simp at e; subst e; exact ⟨_, rfl, r⟩
  | _, _, i + 1, v, .cons _ t, e => by
    obtain ⟨d, h1, h2⟩ := rpA_at (i := i) t (by simpa using e)
    exact ⟨d, by simpa using h1, h2⟩
def alikesB (xs : List D) : Bool := xs.all fun x => xs.all fun y => alike x y
def nonesB (xs : List D) : Bool := xs.all fun x => !isNone x
theorem alikes_of {xs : List D} (h : alikesB xs = true) : ∀ x ∈ xs, ∀ y ∈ xs, alike x y = true := fun x hx y hy => by
  unfold alikesB at h
  exact List.all_eq_true.mp (List.all_eq_true.mp h x hx) y hy
theorem nones_of {xs : List D} (h : nonesB xs = true) : ∀ x ∈ xs, x ≠ .none := fun x hx e => by
  have := List.all_eq_true.mp h x hx
  rw [e] at this
  simp [isNone] at this
theorem minD_mem (x : D) (xs : List D) : minD x xs ∈ x :: xs := by
  unfold minD
  induction xs generalizing x with
  | nil => simp
  | cons y ys ih =>
    rw [List.foldl_cons]
    have := ih (if dataLt y x then y else x)
    rcases List.mem_cons.mp this with e | e
    · rw [e]
      split <;> simp
    · exact List.mem_cons_of_mem _ (List.mem_cons_of_mem _ e)
theorem maxD_mem (x : D) (xs : List D) : maxD x xs ∈ x :: xs := by
  unfold maxD
  induction xs generalizing x with
  | nil => simp
  | cons y ys ih =>
    rw [List.foldl_cons]
    have := ih (if dataLt x y then y else x)
    rcases List.mem_cons.mp this with e | e
    · rw [e]
      split <;> simp
    · exact List.mem_cons_of_mem _ (List.mem_cons_of_mem _ e)
def bestOk (xs : List D) : Bool := alikesB xs && nonesB xs && decide (PyData.depthAll xs ≤ 40)
def dMinL : D → Option SV
  | .list (x :: xs) => if bestOk (x :: xs) = true then some (.sh (minD x xs)) else none
  | .tuple (x :: xs) => if bestOk (x :: xs) = true then some (.sh (minD x xs)) else none
  | _ => none
def dMaxL : D → Option SV
  | .list (x :: xs) => if bestOk (x :: xs) = true then some (.sh (maxD x xs)) else none
  | .tuple (x :: xs) => if bestOk (x :: xs) = true then some (.sh (maxD x xs)) else none
  | _ => none
theorem best_fin {pins : List (Addr × Obj)} {s : Shared} {vs : List V} {its : List Value} {ds : List D} {m : D} {Q : VK} {i : Nat} {v : Value} {h' : Heap} {tk : Nat} {bs : List Addr} (I : Inv X pins σ H s) (hK : Z.K = X.K) (R0 : RelO Z H src L O) (ra : RpA Z.K H O vs ds) (rv : Vals vs its) (hal : ∀ x ∈ ds, ∀ y ∈ ds, alike x y = true) (hm : m ∈ ds)
    (hv : its.toArray[i]? = some v) (rdv : Reads h' v m bs) (kp : ∀ b o, s.heap.get? b = some o → h'.get? b = some o) (q : ∀ v H', Rel Z H' src ((some v, some (.sh m)) :: L) → Q v H') : EP X pins σ Q v { s with heap := h', toks := tk } := by
  obtain ⟨w, hw, rw'⟩ := vals_at rv (by simpa using hv)
  obtain ⟨d, hd, rd⟩ := rpA_at ra hw
  obtain ⟨cs, r1⟩ := Rp.reads I (hK ▸ rd) rw'
  have hmem : d ∈ ds := List.mem_of_getElem? hd
  have e : d = m := alike_unique d m v _ _ (hal d hmem m hm) (PyProof.Rows.Reads.keeps kp r1) rdv
  subst e
  exact ⟨w, H, I.kept kp, rw', q _ _ (R0.pushSh rd)⟩
theorem best_of {xs : List D} (h : bestOk xs = true) : AlikeAll xs ∧ PyData.depthAll xs ≤ 40 := by
  unfold bestOk at h
  simp only [Bool.and_eq_true, decide_eq_true_eq] at h
  exact ⟨⟨alikes_of h.1.1, nones_of h.1.2⟩, h.2⟩
theorem call_minL (hc : X.calm = true) (hu : X.A.units + 64 < cLine) : CallR X (.builtin "min") (rC X.K dMinL) := by
  intro pins s σ H xs us Q I rx h
  obtain ⟨Z, src, L, d, r, x, rfl, hK, R, h1, e, q⟩ := h
  obtain ⟨O, R0⟩ := id R
  unfold dMinL at e
  split at e
  · split at e
    · rename_i y ys hz
      cases e
      obtain ⟨hal, hd⟩ := best_of hz
      obtain ⟨a, vs, rfl, ha, ra⟩ := R0.list h1
      obtain ⟨its, rv, hl, hz'⟩ := I.list (SqL.of ha)
      rw [Vals.ref1 rx]
      obtain ⟨as, rd⟩ := RpA.reads I (hK ▸ ra) rv
      exact min_list_data (vs := its.toArray) (I.ok.hd hc) hl.isList (by simpa using rd) hal (by omega) fun i v h' tk bs hv rdv kp => best_fin I hK R0 ra rv hal.1 (minD_mem _ _) hv rdv kp q
    · cases e
  · split at e
    · rename_i y ys hz
      cases e
      obtain ⟨hal, hd⟩ := best_of hz
      obtain ⟨a, vs, rfl, ha, ra⟩ := R0.tuple h1
      rw [hK] at ha
      obtain ⟨its, rv, ht, hz'⟩ := I.tuple ha
      rw [Vals.ref1 rx]
      obtain ⟨as, rd⟩ := RpA.reads I (hK ▸ ra) rv
      exact min_tuple_data (vs := its.toArray) (I.ok.hd hc) ht (by simpa using rd) hal (by omega) fun i v h' tk bs hv rdv kp => best_fin I hK R0 ra rv hal.1 (minD_mem _ _) hv rdv kp q
    · cases e
  · cases e
theorem call_maxL (hc : X.calm = true) (hu : X.A.units + 64 < cLine) : CallR X (.builtin "max") (rC X.K dMaxL) := by
  intro pins s σ H xs us Q I rx h
  obtain ⟨Z, src, L, d, r, x, rfl, hK, R, h1, e, q⟩ := h
  obtain ⟨O, R0⟩ := id R
  unfold dMaxL at e
  split at e
  · split at e
    · rename_i y ys hz
      cases e
      obtain ⟨hal, hd⟩ := best_of hz
      obtain ⟨a, vs, rfl, ha, ra⟩ := R0.list h1
      obtain ⟨its, rv, hl, hz'⟩ := I.list (SqL.of ha)
      rw [Vals.ref1 rx]
      obtain ⟨as, rd⟩ := RpA.reads I (hK ▸ ra) rv
      exact max_list_data (vs := its.toArray) (I.ok.hd hc) hl.isList (by simpa using rd) hal (by omega) fun i v h' tk bs hv rdv kp => best_fin I hK R0 ra rv hal.1 (maxD_mem _ _) hv rdv kp q
    · cases e
  · split at e
    · rename_i y ys hz
      cases e
      obtain ⟨hal, hd⟩ := best_of hz
      obtain ⟨a, vs, rfl, ha, ra⟩ := R0.tuple h1
      rw [hK] at ha
      obtain ⟨its, rv, ht, hz'⟩ := I.tuple ha
      rw [Vals.ref1 rx]
      obtain ⟨as, rd⟩ := RpA.reads I (hK ▸ ra) rv
      exact max_tuple_data (vs := its.toArray) (I.ok.hd hc) ht (by simpa using rd) hal (by omega) fun i v h' tk bs hv rdv kp => best_fin I hK R0 ra rv hal.1 (maxD_mem _ _) hv rdv kp q
    · cases e
  · cases e
/-! ### sorted of alike things -/
def sortableB (xs : List D) : Bool := (xs.all fun d => match d with | .tuple (_ :: _) => true | _ => false) || xs.all fun d => match d with | .none => false | .tuple _ => false | _ => true
def sortD (xs : List D) : List D := xs.mergeSort (dataLe false id)
def dSortedD : D → Option SV
  | .list xs => if (alikesB xs && sortableB xs && decide (PyData.depthAll xs ≤ 40)) = true then some (.own (.list (sortD xs))) else none
  | .tuple xs => if (alikesB xs && sortableB xs && decide (PyData.depthAll xs ≤ 40)) = true then some (.own (.list (sortD xs))) else none
  | .dict ps => if (alikesB (ps.map (·.1)) && sortableB (ps.map (·.1)) && decide (PyData.depthAll (ps.map (·.1)) ≤ 40)) = true then some (.own (.list (sortD (ps.map (·.1))))) else none
  | _ => none
end
end Pw
set_option Elab.async false
set_option linter.all false
set_option maxRecDepth 100000
namespace Pw
open PySem PySem.Spec PyProof.Rows L2
/-! ### calls of what always answers -/
def App (n : Nat) (F : Fd) (as : List SV) (r : SV) : Prop := ∀ s : S, appF n F as s = .ok r s
theorem Rets.app {n : Nat} {F : Fd} {as : List SV} {r : SV} (h : Rets F as r) (hn : as.length = n := by rfl) (ho : okA as = true := by rfl) : App n F as r := fun s => by
  obtain ⟨sl, e⟩ := h s.src
  unfold appF
  rw [if_pos ⟨hn, ho⟩, e]
theorem rets_of {n : Nat} {m : Sm} {as : List SV} {r : SV} (h : ∀ src, ∃ sl, m ⟨padS n as, src⟩ = .ok (.ret r) ⟨sl, src⟩) : Rets (runFn n m) as r := fun src => by
  obtain ⟨sl, e⟩ := h src
  exact ⟨sl, run_ret e⟩
theorem rets_nx {n : Nat} {m : Sm} {as : List SV} (h : ∀ src, ∃ sl, m ⟨padS n as, src⟩ = .ok .nx ⟨sl, src⟩) : Rets (runFn n m) as (.sh .none) := fun src => by
  obtain ⟨sl, e⟩ := h src
  exact ⟨sl, run_nx e⟩
theorem excs_of {n : Nat} {m : Sm} {as : List SV} {x : Ex} (h : ∀ src, ∃ sl, m ⟨padS n as, src⟩ = .exc x ⟨sl, src⟩) : Excs (runFn n m) as x := fun src => by
  obtain ⟨sl, e⟩ := h src
  exact ⟨sl, run_exc e⟩
def AppX (n : Nat) (F : Fd) (as : List SV) (x : Ex) : Prop := ∀ s : S, appF n F as s = .exc x s
theorem Excs.app {n : Nat} {F : Fd} {as : List SV} {x : Ex} (h : Excs F as x) (hn : as.length = n := by rfl) (ho : okA as = true := by rfl) : AppX n F as x := fun s => by
  obtain ⟨sl, e⟩ := h s.src
  unfold appF
  rw [if_pos ⟨hn, ho⟩, e]
theorem bnd_exc {α β : Type} {e : Ex} {s : S} {k : α → S → Res β} : (Res.exc e s : Res α).bind k = .exc e s := rfl
/-! ### loops over lists of things -/
theorem forL_end {g : Tg} {m : Sm} {s : S} : forL g m [] s = .ok .nx s := rfl
theorem shs_cons (d : D) (ds : List D) : shs (d :: ds) = .sh d :: shs ds := rfl
theorem shs_nil : shs [] = [] := rfl
/-- a comprehension whose parts leave the state as it was -/
theorem comp_map {α : Type} {g : Tg} {f : Ev} {vs : List Nat} {s : S} (fd : α → SV) (h : α → D) : ∀ (xs : List α) (acc : List D), (∀ x ∈ xs, ∃ s1 s3 r, g (fd x) s = some s1 ∧ f s1 = .ok r s3 ∧ r.settle = .sh (h x) ∧ wipeS vs s3 = s) → acc.length + xs.length ≤ sizeLine →
    compL g cYes f vs (xs.map fd) acc s = .ok (acc ++ xs.map h) s
  | [], acc, _, _ => by simp [compL]
  | x :: xs, acc, H, hl => by
    obtain ⟨s1, s3, r, h1, h2, h3, h4⟩ := H x List.mem_cons_self
    have h4' : acc.length < sizeLine := by simp at hl; omega
    rw [List.map_cons, compL_step h1 h2 h3 h4', h4, comp_map fd h xs (acc ++ [h x]) (fun y hy => H y (List.mem_cons_of_mem _ hy)) (by simp at hl ⊢; omega)]
    simp
theorem comp_filter {α : Type} {g : Tg} {c : Tt} {f : Ev} {vs : List Nat} {s : S} (fd : α → SV) (p : α → Bool) (h : α → D) : ∀ (xs : List α) (acc : List D), (∀ x ∈ xs, ∃ s1 s2, g (fd x) s = some s1 ∧ c s1 = .ok (p x) s2 ∧ (p x = false → wipeS vs s2 = s) ∧ (p x = true → ∃ s3 r, f s2 = .ok r s3 ∧ r.settle = .sh (h x) ∧ wipeS vs s3 = s)) → acc.length + xs.length ≤ sizeLine →
    compL g c f vs (xs.map fd) acc s = .ok (acc ++ (xs.filter p).map h) s
  | [], acc, _, _ => by simp [compL]
  | x :: xs, acc, H, hl => by
    obtain ⟨s1, s2, h1, hc, h0, ht⟩ := H x List.mem_cons_self
    have h4' : acc.length < sizeLine := by simp at hl; omega
    cases e : p x with
    | false =>
      rw [e] at hc
      rw [List.map_cons, compL_drop h1 hc, h0 e, comp_filter fd p h xs acc (fun y hy => H y (List.mem_cons_of_mem _ hy)) (by simp at hl ⊢; omega)]
      simp [e]
    | true =>
      rw [e] at hc
      obtain ⟨s3, r, h2, h3, h4⟩ := ht e
      rw [List.map_cons, compL_keep h1 hc h2 h3 h4', h4, comp_filter fd p h xs (acc ++ [h x]) (fun y hy => H y (List.mem_cons_of_mem _ hy)) (by simp at hl ⊢; omega)]
      simp [e]
/-! ### repr, compared -/
theorem eqv_refl_of {a b : D} {k n : Nat} (h : Nice a k n) (e : a = b) : PyData.eqv a b = true := by
  subst e
  exact h.refl
theorem dEq_str (a b : Str) : dEq (.str a) (.str b) = some (.sh (.bool (decide (a = b)))) := by
  have : PyData.eqv (.str a) (.str b) = decide (a = b) := by
    simp only [PyData.eqv]
    by_cases h : a = b <;> simp [h]
  unfold dEq eqOk
  rw [this]
  rfl
theorem dNe_str (a b : Str) : dNe (.str a) (.str b) = some (.sh (.bool (!decide (a = b)))) := by
  have : PyData.eqv (.str a) (.str b) = decide (a = b) := by
    simp only [PyData.eqv]
    by_cases h : a = b <;> simp [h]
  unfold dNe eqOk
  rw [this]
  rfl
theorem dNe_self_str (a : Str) : dNe (.str a) (.str a) = some (.sh (.bool false)) := by
  rw [dNe_str]
  simp
/-! ### ranges, pop -/
noncomputable def cRangeC1 (ga : Ag) : Itf := fun s => (ga s).bind fun rs s1 => match rs with
  | [.sh (.int j)] => ifc (-(2 ^ 62) ≤ j ∧ j < 2 ^ 62) (.ok (shs (rgD 0 j.toNat)) s1) .err
  | _ => .err
noncomputable def cRangeC2 (ga : Ag) : Itf := fun s => (ga s).bind fun rs s1 => match rs with
  | [.sh (.int i), .sh (.int j)] => ifc (-(2 ^ 62) ≤ i ∧ i < 2 ^ 62 ∧ -(2 ^ 62) ≤ j ∧ j < 2 ^ 62) (.ok (shs (rgD i (j - i).toNat)) s1) .err
  | _ => .err
theorem cRangeC1_eq (ga : Ag) : cRangeC1 ga = cRange1 ga := by
  unfold cRangeC1 cRange1
  simp only [ifc_eq] <;> rfl
theorem cRangeC2_eq (ga : Ag) : cRangeC2 ga = cRange2 ga := by
  unfold cRangeC2 cRange2
  simp only [ifc_eq] <;> rfl
section
variable {X : Cx} {Z : Zx} {W : WX} {a b tg : Expr} {ga : Ag} {p pos : Pos}
theorem snI_rangeC1 (hg : Gl X "range") (hm : X.mg "range" = none) (ha : SnA X Z W [a] ga) (hs : starEach [a] X.env = [(false, eval a X.env)] := by rfl) : SnI X Z W tg (.Call (.Name "range" p) [a] [] pos) (cRangeC1 ga) := by
  rw [cRangeC1_eq]
  exact snI_range1 hg hm ha hs
theorem snI_rangeC2 (hg : Gl X "range") (hm : X.mg "range" = none) (ha : SnA X Z W [a, b] ga) (hs : starEach [a, b] X.env = [(false, eval a X.env), (false, eval b X.env)] := by rfl) (hs2 : starEach [b] X.env = [(false, eval b X.env)] := by rfl) : SnI X Z W tg (.Call (.Name "range" p) [a, b] [] pos) (cRangeC2 ga) := by
  rw [cRangeC2_eq]
  exact snI_range2 hg hm ha hs hs2
end
noncomputable def mPopC : D → List D → Option (D × SV)
  | .list xs, [] => (xs[xs.length - 1]?).map fun y => (.list xs.dropLast, .sh y)
  | .list xs, [.int i] => ifc (0 ≤ i ∧ i < 2 ^ 63) ((xs[i.toNat]?).map fun y => (.list (xs.eraseIdx i.toNat), .sh y)) none
  | _, _ => none
theorem mPopC_eq : mPopC = mPop := by
  funext a b
  unfold mPopC mPop
  simp only [ifc_eq] <;> rfl
theorem mt_popRC {X : Cx} : MtR X "list.pop" (rM X.K mPopC) := by
  rw [mPopC_eq]
  exact mt_popR
end Pw
set_option Elab.async false
set_option linter.all false
set_option maxRecDepth 100000
namespace Pw
open PySem PySem.Spec PyProof.Rows L2
/-! ### evaluation, more of it -/
theorem szl {n : Nat} (h : n ≤ 1000000) : n ≤ sizeLine := by rw [sizeLine_eq]; omega
theorem dis_tup {ds : List D} {s : S} (h : (decide (ds.length ≤ 1000)) = true := by rfl) : (if ds.length ≤ sizeLine then (Res.ok (SV.sh (.tuple ds)) s) else .err) = .ok (.sh (.tuple ds)) s := if_pos (szl (by have := of_decide_eq_true h; omega))
theorem dis_lst {ds : List D} {s : S} (h : (decide (ds.length ≤ 1000)) = true := by rfl) : (if ds.length ≤ sizeLine then (Res.ok (SV.own (.list ds)) s) else .err) = .ok (.own (.list ds)) s := if_pos (szl (by have := of_decide_eq_true h; omega))
theorem ne_self {a b : D} {k n : Nat} (h : Nice a k n) (hk : k ≤ 40) (e : a = b) : dNe a b = some (.sh (.bool false)) := by
  subst e
  rw [h.ne h hk, h.refl]
  rfl
theorem eq_self {a b : D} {k n : Nat} (h : Nice a k n) (hk : k ≤ 40) (e : a = b) : dEq a b = some (.sh (.bool true)) := by
  subst e
  rw [h.eq h hk, h.refl]
theorem try_exc {m ms : Sm} {C : Addr} {i : Nat} {s s1 s2 : S} {e : Ex} {r : SV} (h : m s = .exc e s1) (hc : e.cls = C) (hs : ms { s1 with sl := s1.sl.set i (some (.exn e.fs)) } = .ok (.ret r) s2) (h1 : (Fl.ret r).noExn = true := by rfl) (h2 : noExn (s2.sl.set i none) = true := by rfl) : cTry m C i ms s = .ok (.ret r) { s2 with sl := s2.sl.set i none } := by
  unfold cTry
  rw [h]
  dsimp only
  rw [if_pos hc, hs]
  simp only [Res.quiet, bnd_ok]
  rw [if_pos ⟨h1, h2⟩]
theorem reprs_ne {a b : D} {k n : Nat} (h : Nice a k n) (hk : k ≤ 40) (hn : n ≤ 16000000) (e : a = b) {f g : Vw} {s s1 s2 : S} (h1 : f s = .ok a s1) (h2 : g s1 = .ok b s2) : cT (cBinE dNe (cCall1 dRepr f) (vE (cCall1 dRepr g))) s = .ok false s2 := by
  subst e
  have e1 := call1_ok (g := dRepr) h1 (h.repr hk hn)
  have e2 := vE_ok (call1_ok (g := dRepr) h2 (h.repr hk hn)) rfl
  refine t_ok (binE_ok e1 e2 rfl ?_)
  exact ne_self (k := 0) (n := (PyData.shown (.str a.shown)).length) ⟨rfl, rfl, rfl, Nat.le_refl _, Nat.le_refl _⟩ (by decide) rfl
theorem reprs_eq {a b : D} {k n : Nat} (h : Nice a k n) (hk : k ≤ 40) (hn : n ≤ 16000000) (e : a = b) {f g : Vw} {s s1 s2 : S} (h1 : f s = .ok a s1) (h2 : g s1 = .ok b s2) : cBinE dEq (cCall1 dRepr f) (vE (cCall1 dRepr g)) s = .ok (.sh (.bool true)) s2 := by
  subst e
  have e1 := call1_ok (g := dRepr) h1 (h.repr hk hn)
  have e2 := vE_ok (call1_ok (g := dRepr) h2 (h.repr hk hn)) rfl
  refine binE_ok e1 e2 rfl ?_
  exact eq_self (k := 0) (n := (PyData.shown (.str a.shown)).length) ⟨rfl, rfl, rfl, Nat.le_refl _, Nat.le_refl _⟩ (by decide) rfl
theorem it_ok {f : Ev} {s s1 : S} {r : SV} {d : D} {ds : List D} (h : f s = .ok r s1) (hr : r.settle = .sh d) (hi : itemsOf d = some ds) : cIt f s = .ok (shs ds) s1 := by
  unfold cIt
  rw [h, bnd_ok, hr]
  dsimp only
  rw [hi]
  rfl
theorem dEq_int (i j : Int) : dEq (.int i) (.int j) = some (.sh (.bool (decide (i = j)))) := by
  have : PyData.eqv (.int i) (.int j) = decide (i = j) := by
    simp only [PyData.eqv]
    by_cases h : i = j <;> simp [h]
  unfold dEq eqOk
  rw [this]
  rfl
theorem dNe_int (i j : Int) : dNe (.int i) (.int j) = some (.sh (.bool (!decide (i = j)))) := by
  have : PyData.eqv (.int i) (.int j) = decide (i = j) := by
    simp only [PyData.eqv]
    by_cases h : i = j <;> simp [h]
  unfold dNe eqOk
  rw [this]
  rfl
theorem dEq_bool (i j : Bool) : dEq (.bool i) (.bool j) = some (.sh (.bool (i == j))) := rfl
theorem dNe_bool (i j : Bool) : dNe (.bool i) (.bool j) = some (.sh (.bool (!(i == j)))) := rfl
theorem ixN_last {n : Nat} (h : 0 < n) : ixN n (-1) = some (n - 1) := by
  unfold ixN
  rw [if_neg (by decide)]
  first
    | (rw [if_pos (by omega)]; congr 1; omega)
    | (simp; omega)
theorem atI_last {α : Type} (l : List α) (x : α) : atI (l ++ [x]) (-1) = some x := by
  unfold atI
  rw [ixN_last (by simp)]
  simp
theorem atI_zero {α : Type} (x : α) (l : List α) : atI (x :: l) 0 = some x := by
  have := atI_nat (xs := x :: l) (i := 0) (by simp)
  simpa using this
theorem atI_one {α : Type} (x y : α) (l : List α) : atI (x :: y :: l) 1 = some y := by
  have := atI_nat (xs := x :: y :: l) (i := 1) (by simp)
  simpa using this
theorem atI_two {α : Type} (x y z : α) (l : List α) : atI (x :: y :: z :: l) 2 = some z := by
  have := atI_nat (xs := x :: y :: z :: l) (i := 2) (by simp)
  simpa using this
theorem ix_t {xs : List D} {i : Int} {x : D} (h : atI xs i = some x) : dIx (.tuple xs) (.int i) = some (.sh x) := by
  unfold dIx
  dsimp only
  rw [h]
  rfl
theorem ix_l {xs : List D} {i : Int} {x : D} (h : atI xs i = some x) : dIx (.list xs) (.int i) = some (.sh x) := by
  unfold dIx
  dsimp only
  rw [h]
  rfl
theorem ix_t0 (x : D) (l : List D) : dIx (.tuple (x :: l)) (.int 0) = some (.sh x) := ix_t (atI_zero x l)
theorem ix_t1 (x y : D) (l : List D) : dIx (.tuple (x :: y :: l)) (.int 1) = some (.sh y) := ix_t (atI_one x y l)
theorem ix_t2 (x y z : D) (l : List D) : dIx (.tuple (x :: y :: z :: l)) (.int 2) = some (.sh z) := ix_t (atI_two x y z l)
theorem ix_l0 (x : D) (l : List D) : dIx (.list (x :: l)) (.int 0) = some (.sh x) := ix_l (atI_zero x l)
theorem ix_l1 (x y : D) (l : List D) : dIx (.list (x :: y :: l)) (.int 1) = some (.sh y) := ix_l (atI_one x y l)
theorem ix_l2 (x y z : D) (l : List D) : dIx (.list (x :: y :: z :: l)) (.int 2) = some (.sh z) := ix_l (atI_two x y z l)
theorem ix_tl (l : List D) (x : D) : dIx (.tuple (l ++ [x])) (.int (-1)) = some (.sh x) := ix_t (atI_last l x)
theorem ix_ll (l : List D) (x : D) : dIx (.list (l ++ [x])) (.int (-1)) = some (.sh x) := ix_l (atI_last l x)
theorem add_int (i j : Int) : dAdd (.int i) (.int j) = some (.sh (.int (i + j))) := rfl
theorem set_ll (l : List D) (x y : D) : dSet (.list (l ++ [x])) (.int (-1)) y = some (.list (l ++ [y])) := by
  unfold dSet
  dsimp only
  rw [ixN_last (by simp)]
  simp
theorem app_ok {xs : List D} {x : D} (h : xs.length < 1000000) : mAppend (.list xs) [x] = some (.list (xs ++ [x]), .sh .none) := by
  unfold mAppend
  dsimp only
  rw [if_pos (by rw [sizeLine_eq]; omega)]
theorem len_t (xs : List D) : dLen (.tuple xs) = some (.sh (.int xs.length)) := rfl
theorem len_l (xs : List D) : dLen (.list xs) = some (.sh (.int xs.length)) := rfl
theorem tup_l (xs : List D) : dTuple (.list xs) = some (.sh (.tuple xs)) := rfl
theorem mulI {i j : Int} (h : mulFits i j = true) : dMul2 (.int i) (.int j) = some (.sh (.int (i * j))) := ifc_pos h
theorem mulL {xs : List D} {k : Int} (h : -(2 ^ 63) ≤ k ∧ k < 2 ^ 63 ∧ xs.length * k.toNat ≤ sizeLine) : dMul2 (.list xs) (.int k) = some (.own (.list (List.replicate k.toNat xs).flatten)) := ifc_pos h
theorem mulT {xs : List D} {k : Nat} (h0 : xs ≠ []) (hk : 0 < k) (hk2 : k ≤ 1000) (hx : xs.length ≤ 1000) : dMul2 (.tuple xs) (.int (k : Int)) = some (.sh (.tuple (List.replicate k xs).flatten)) := by
  unfold dMul2
  dsimp only
  by_cases h : k = 1
  · subst h
    rw [ifc_pos (by rfl)]
    simp
  · rw [ifc_eq, if_neg (by omega), ifc_pos ⟨h0, by omega, by omega, hx⟩, Int.toNat_natCast]
theorem mulS {x : Str} {k : Int} (h : 0 ≤ k ∧ k ≤ 100000 ∧ x.length ≤ 100) : dMul2 (.str x) (.int k) = some (.sh (.str (Txt.mul x k))) := ifc_pos h
theorem fdivI {i j : Int} (h0 : 0 < j) (h : j.natAbs.log2 < 9000) : dFdiv (.int i) (.int j) = some (.sh (.int (i / j))) := by
  unfold dFdiv
  dsimp only
  rw [if_pos ⟨h0, h⟩]
theorem modI {i j : Int} (h0 : 0 < j) : dMod (.int i) (.int j) = some (.sh (.int (i % j))) := by
  unfold dMod
  dsimp only
  rw [if_pos h0]
theorem small_log {j : Int} (h0 : 0 ≤ j) (h : j < 2 ^ 5000) : j.natAbs.log2 < 9000 := by
  have e : ((2 ^ 5000 : Nat) : Int) = 2 ^ 5000 := by simp
  have h1 : j.natAbs < 2 ^ 5000 := by omega
  by_cases hz : j.natAbs = 0
  · rw [hz]; decide
  · exact Nat.lt_trans ((Nat.log2_lt hz).mpr h1) (by decide)
end Pw
set_option Elab.async false
set_option linter.all false
set_option maxRecDepth 100000
namespace Pw
open PySem PySem.Spec PyProof.Rows L2
section
variable {X : Cx} {Z : Zx} {W : WX} {e a b : Expr} {es : List Expr} {f fa : Ev} {fb : Vw} {ga : Ag} {H : Hp} {σ : L2.St} {T T' : List Ent} {s : S} {L : List Ent} {src : Option Src} {O : Addr → Prop} {v : V} {x : Str} {p pos : Pos}
/-! ### isinstance(x, T), T a built-in type -/
def tyNm : D → Option String
  | .none => some "NoneType"
  | .bool _ => some "bool"
  | .int _ => some "int"
  | .str _ => some "str"
  | .list _ => some "list"
  | .tuple _ => some "tuple"
  | .dict _ => some "dict"
def dIsTy (ty : String) (d : D) : Option SV := (tyNm d).bind fun n => (kitB n ty).map fun r => .sh (.bool r)
theorem RelO.tyX (r : RelO Z H src L O) {d : D} {n : String} (h : Has L v d) (e : tyNm d = some n) : TyX Z.K H v (.type n) := by
  cases d <;> simp only [tyNm, Option.some.injEq] at e <;> first | (cases e; done) | subst e
  · rw [r.non h]; exact .base .non
  · rw [r.bl h]; exact .base (.bl _)
  · rw [r.int h]; exact .base (.int _)
  · rw [r.str h]; exact .base (.str _)
  · obtain ⟨a, ys, rfl, ha, _⟩ := r.list h
    exact .base (.lst ha)
  · obtain ⟨a, ys, rfl, ha, _⟩ := r.tuple h
    rcases ha with (ha | ⟨ob, ha⟩) | ⟨o, its, n, h1, h2, _⟩
    · exact .base (.tup ha)
    · exact .fTuple ha
    · exact .kTuple h1 h2
  · obtain ⟨a, ys, rfl, ha, _⟩ := r.dict h
    exact .base (.dK ha)
theorem snE_isTy {ty : String} {y : Str} {p2 : Pos} (hg : Gl X "isinstance") (hm : X.mg "isinstance" = none) (hv : bootBuiltins "isinstance" = some (.builtin "isinstance")) (ha : SnV X Z W e fb) (hgT : Gl X y) (hmT : X.mg y = none) (hvT : bootBuiltins y = some (.type ty))
    (hnT : y ≠ "__name__" := by decide) (hdT : (y == ("__debug__" : Str)) = false := by decide)
    (he : starEach [e, .Name y p2] X.env = (false, eval e X.env) :: starEach [.Name y p2] X.env := by rfl) (he2 : starEach [.Name y p2] X.env = (false, eval (.Name y p2) X.env) :: starEach [] X.env := by rfl) (hpl : (backTo pos (starEach [.Name y p2] X.env)).any (·.1) = false := by rfl) :
    SnE X Z W (.Call (.Name "isinstance" p) [e, .Name y p2] [] pos) (cCall1 (dIsTy ty) fb) := fun k =>
  pe_imp (pe_callB call_isi hg hm hv (pa_cons (ha k) (pa_cons (pe_bltn (v := .ty ty) (u := .type ty) hgT hmT hvT rfl hnT hdT) pa_nil he2) he) (by decide) (by decide) he hpl) fun σ H Q q => by
    obtain ⟨T, s, R, q⟩ := q
    refine ⟨T, s, R, Res.sat_mono (Res.sat_bind.mp q) (fun d s1 q v H1 T' R1 hv => ?_) fun e s h => h⟩
    obtain ⟨r, e, q⟩ := sat_opt q
    obtain ⟨n, e1, e2⟩ := Option.bind_eq_some_iff.mp e
    obtain ⟨b, e3, e4⟩ := Option.map_eq_some_iff.mp e2
    obtain ⟨O, R0⟩ := R1.2
    subst e4
    refine ⟨v, .ty ty, .type n, .type ty, b, rfl, .ty ty, k ▸ R0.tyX hv e1, kit_ty e3, q _ _ ⟨R1.1, ?_⟩⟩
    exact (RelS.popN R1).2.bl b
/-! ### list of a text too -/
def dList2 : D → Option SV
  | .str z => if z.length ≤ sizeLine then some (.own (.list (z.cps.toList.map fun c => .str ⟨#[c]⟩))) else none
  | d => dList d
theorem rp_chars {K} : ∀ (l : List Nat), RpA K H O (l.map fun c => V.str ⟨#[c]⟩) (l.map fun c => PyData.str ⟨#[c]⟩)
  | [] => .nil
  | c :: l => .cons (.str _) (rp_chars l)
theorem call_listR2 (hc : X.calm = true) : CallR X (.type "list") (rC X.K dList2) := by
  intro pins s σ H xs us Q I rx h
  obtain ⟨Z, src, L, d, r, x, rfl, hK, R, h1, e, q⟩ := h
  unfold dList2 at e
  split at e
  · rename_i z
    split at e
    · rename_i hz
      cases e
      obtain ⟨O, R0⟩ := id R
      cases R0.str h1
      obtain ⟨u, rfl, r1⟩ : ∃ u, us = [u] ∧ RelV (.str z) u := by
        cases rx with
        | cons r1 r2 => cases r2; exact ⟨_, rfl, r1⟩
      obtain ⟨t, rfl⟩ := r1
      refine call_list_str (I.ok.hd hc) z t (fun h' tk acc c' hk e hi => ?_) hz
      refine ⟨.ref s.heap.objs.size, upd H s.heap.objs.size (.lst (z.cps.toList.map fun c => V.str ⟨#[c]⟩)), I.laid hk (Nat.le_refl _) ⟨by rw [List.length_map, Array.length_toList]; exact hz, acc.toList, c', ?_, by rw [Array.toArray_toList]; exact e⟩, rfl, q _ _ (R.newListOf (I.hok.fresh (Nat.le_refl _)) fun O' R' => rp_chars _)⟩
      refine vals_of_idx _ _ (by rw [List.length_map, Array.length_toList, Array.length_toList]; exact hi.1) fun j u hj => ?_
      obtain ⟨c, t', hc, rfl⟩ := hi.2 j u (by rw [← Array.getElem?_toList]; exact hj)
      exact ⟨.str ⟨#[c]⟩, by simp [hc], ⟨_, rfl⟩⟩
    · cases e
  · exact call_listR hc pins s σ H _ us Q I rx ⟨Z, src, L, d, r, x, rfl, hK, R, h1, e, q⟩
/-! ### x.split(sep) -/
def dSplit : D → List D → Option SV
  | .str a, [.str b] => if (b.length == 0) = false ∧ a.length + 2 ≤ sizeLine then some (.own (.list ((Txt.split a b).map .str))) else none
  | _, _ => none
theorem rp_strs {K} : ∀ (l : List Str), RpA K H O (l.map V.str) (l.map PyData.str)
  | [] => .nil
  | c :: l => .cons (.str _) (rp_strs l)
theorem mt_splitR : MtR X "str.split" (rMV X.K dSplit) := by
  intro pins s σ H x xs v us Q I rx rs h
  obtain ⟨Z, src, L, dO, ds, r, hK, R, h0, h1, e, q⟩ := h
  obtain ⟨O, R0⟩ := id R
  unfold dSplit at e
  split at e
  · rename_i a b
    split at e
    · rename_i hz
      cases e
      cases R0.str h0
      have h2 := h1.rp R0
      cases h2 with
      | cons r1 r2 =>
        cases r2
        cases r1
        exact mt_split pins s σ H _ _ v us Q I rx rs ⟨a, b, rfl, rfl, hz.1, hz.2, fun p hp => q _ _ (R.newListOf hp fun O' R' => rp_strs _)⟩
    · cases e
  · cases e
/-! ### a tuple of texts that the module names -/
def TupK (K : PySem.W.Frag) (a : Addr) (ss : List Str) : Prop := ∃ (o : Obj) (its : Array Value) (n : Nat), K.lookup a = some o ∧ o.cls = .type "tuple" ∧ o.data = .seq its n ∧ its.size ≤ sizeLine ∧ Vals (ss.map V.str) its.toList
def valsB : List Str → List Value → Bool
  | [], [] => true
  | s :: ss, .str x _ :: vs => decide (s = x) && valsB ss vs
  | _, _ => false
theorem vals_by : ∀ {ss : List Str} {vs : List Value}, valsB ss vs = true → Vals (ss.map V.str) vs
  | [], [], _ => .nil
  | s :: ss, .str x t :: vs, h => by
    simp only [valsB, Bool.and_eq_true, decide_eq_true_eq] at h
    obtain ⟨rfl, h⟩ := h
    exact .cons ⟨t, rfl⟩ (vals_by h)
theorem snE_globT {ss : List Str} (hg : Gl X x) (h : ∃ a, X.mg x = some (.ref a) ∧ TupK X.K a ss) (hd : (x == ("__debug__" : Str)) = false := by decide) : SnE X Z W (.Name x pos) (cD (.tuple (ss.map .str))) := fun k => by
  obtain ⟨a, hm, o, its, n, h1, h2, h3, h4, h5⟩ := h
  refine pe_imp (C8.pe_gc (v := .ref a) hg ⟨_, hm, rfl⟩ hd) fun σ H Q ⟨T, s, R, q⟩ => ?_
  obtain ⟨O, R0⟩ := R.2
  exact q _ _ ⟨R.1, R0.pushSh (.tupK (k ▸ h1) h2 h3 h4 h5 (rp_strs ss))⟩
end
end Pw
set_option Elab.async false
set_option linter.all false
set_option maxRecDepth 100000
namespace Pw
namespace Law
open PySem PySem.Spec PyProof.Rows L2
def rg (k n : Nat) : List D := (List.range' k n).map fun (i : Nat) => .int (i : Int)
theorem rgD_rg (k n : Nat) : rgD (k : Int) n = rg k n := by
  unfold rgD rg
  rw [List.range'_eq_map_range, List.map_map]
  apply List.map_congr_left
  intro i _
  simp
theorem rgD_zero (n : Nat) : rgD 0 n = rg 0 n := rgD_rg 0 n
theorem rg_succ (k n : Nat) : rg k (n + 1) = .int (k : Int) :: rg (k + 1) n := by
  unfold rg
  rw [List.range'_succ, List.map_cons]
theorem Draws.app {n : Nat} {F : Fd} {as : List SV} {P : SV → Prop} (h : Draws F as P) {sr : Src} (hi : SrcIn sr) (hn : as.length = n := by rfl) (ho : okA as = true := by rfl) : ∃ r sr', (∀ sl, appF n F as ⟨sl, some sr⟩ = .ok r ⟨sl, some sr'⟩) ∧ P r ∧ SrcIn sr' := by
  obtain ⟨r, sr', sl', e, p, i⟩ := h sr hi
  refine ⟨r, sr', fun sl => ?_, p, i⟩
  unfold appF
  rw [if_pos ⟨hn, ho⟩, e]
theorem comp_draw {g : Tg} {f : Ev} {vs : List Nat} {sl : List (Option SV)} (P : D → Prop) : ∀ (xs : List SV) (acc : List D) (sr : Src), (∀ x ∈ xs, ∀ sr, SrcIn sr → ∃ s1 s3 r sr' d, g x ⟨sl, some sr⟩ = some s1 ∧ f s1 = .ok r s3 ∧ r.settle = .sh d ∧ P d ∧ SrcIn sr' ∧ wipeS vs s3 = ⟨sl, some sr'⟩) → SrcIn sr → acc.length + xs.length ≤ sizeLine →
    ∃ ds sr', compL g cYes f vs xs acc ⟨sl, some sr⟩ = .ok (acc ++ ds) ⟨sl, some sr'⟩ ∧ ds.length = xs.length ∧ (∀ d ∈ ds, P d) ∧ SrcIn sr'
  | [], acc, sr, _, hi, _ => ⟨[], sr, by simp [compL], rfl, fun d h => (by simp at h), hi⟩
  | x :: xs, acc, sr, H, hi, hl => by
    obtain ⟨s1, s3, r, sr', d, h1, h2, h3, h4, h5, h6⟩ := H x List.mem_cons_self sr hi
    have h4' : acc.length < sizeLine := by simp at hl; omega
    obtain ⟨ds, sr2, e, hlen, hp, hi2⟩ := comp_draw P xs (acc ++ [d]) sr' (fun y hy => H y (List.mem_cons_of_mem _ hy)) h5 (by simp at hl ⊢; omega)
    refine ⟨d :: ds, sr2, ?_, by simp [hlen], fun y hy => ?_, hi2⟩
    · rw [compL_step h1 h2 h3 h4', h6, e]
      simp
    · rcases List.mem_cons.mp hy with rfl | hy
      · exact h4
      · exact hp y hy
end Law
end Pw
set_option Elab.async false
set_option linter.all false
set_option maxRecDepth 100000
namespace Pw
namespace Law
open PySem PySem.Spec PyProof.Rows L2
-- printed by gen.py
abbrev kk_KEPT : List Str := "again" :: "and" :: "as" :: "back" :: "below" :: "by" :: "comes" :: "counts" :: "deal" :: "even" :: "feed" :: "form" :: "from" :: "grow" :: "hears" :: "in" :: "kept" :: "leads" :: "least" :: "letter" :: "lot" :: "many" :: "meets" :: "mirror" :: "none" :: "of" :: "order" :: "parts" :: "pipe" :: "power" :: "promise" :: "returns" :: "ring" :: "round" :: "same" :: "spelled" :: "stands" :: "then" :: "times" :: "told" :: "turn" :: "undone" :: "where" :: "windows" :: "word" :: []
noncomputable def c_run_behind_0 : Tt := (cAnd (cT (cBinV dLt 1 (vE (cCall1 dLen (cVarV 0))))) (cT (cBinE (dIn false) (cBinV dIx 0 (cVarV 1)) (cVarV 2))))
noncomputable def b_run_behind_1 : Sm := (cAug dAddI 1 (vE (cD (.int 1))))
noncomputable def m_run_behind : Sm := (cSeq (cWhile c_run_behind_0 b_run_behind_1) (cRet (cVar 1)))
noncomputable def F_run_behind : Fd := runFn 3 (m_run_behind)
noncomputable def m_lexeme_from : Sm := (cSeq (cAsg (cCall 3 F_run_behind (cCons (cVar 0) (cCons (cVar 1) (cCons (cD (.str " \n")) cNil)))) (gNm 1)) (cSeq (cIfS (cT (cBinV dEq 1 (vE (cCall1 dLen (cVarV 0))))) (cRet (cTup (cCons (cD (.str "end")) (cCons (cD (.str "")) (cCons (cVar 1) cNil))))) cSkip) (cSeq (cIfS (cT (cBinE (dIn false) (cBinV dIx 0 (cVarV 1)) (vE (cD (.str ",:;-"))))) (cRet (cTup (cCons (cD (.str "sign")) (cCons (cBinV dIx 0 (cVarV 1)) (cCons (cVar 1) cNil))))) cSkip) (cSeq (cAsg (cCall 3 F_run_behind (cCons (cVar 0) (cCons (cVar 1) (cCons (cBinE dAdd (cD (.str "abcdefghijklmnopqrstuvwxyz")) (vE (cD (.str "0123456789")))) cNil)))) (gNm 2)) (cRet (cIf (cT (cBinV dGt 2 (cVarV 1))) (cTup (cCons (cD (.str "word")) (cCons (cSlV2 0 (some (cVarV 1)) (some (cVarV 2))) (cCons (cVar 1) cNil)))) (cTup (cCons (cD (.str "wrong")) (cCons (cD (.str "")) (cCons (cVar 1) cNil))))))))))
noncomputable def F_lexeme_from : Fd := runFn 3 (m_lexeme_from)
noncomputable def c_lexemes_0 : Tt := (cT (cBinE dNe (cBinV dIx 2 (vE (cD (.int 0)))) (vE (cD (.str "end")))))
noncomputable def b_lexemes_1 (c_BadText : Addr) : Sm := (cSeq (cIfS (cT (cBinE dEq (cBinV dIx 2 (vE (cD (.int 0)))) (vE (cD (.str "wrong"))))) (cRaise c_BadText ["place"] (cCons (cBinV dIx 2 (vE (cD (.int 2)))) cNil)) cSkip) (cSeq (cExpr (cMeth 1 "list" mAppend (cCons (cVar 2) cNil))) (cAsg (cCall 2 F_lexeme_from (cCons (cVar 0) (cCons (cBinE dAdd (cBinV dIx 2 (vE (cD (.int 2)))) (vE (cCall1 dLen (vE (cBinV dIx 2 (vE (cD (.int 1)))))))) cNil))) (gNm 2))))
noncomputable def m_lexemes (c_BadText : Addr) : Sm := (cSeq (cPar [1, 2] (cConsR (cLst cNil) (cConsR (cCall 2 F_lexeme_from (cCons (cVar 0) (cCons (cD (.int 0)) cNil))) cNil))) (cSeq (cWhile c_lexemes_0 (b_lexemes_1 c_BadText)) (cRet (cVar 1))))
noncomputable def F_lexemes (c_BadText : Addr) : Fd := runFn 3 (m_lexemes c_BadText)
noncomputable def e_is_name_0 : Ev := (cBinV (dIn false) 1 (vE (cBinE dAdd (cD (.str "abcdefghijklmnopqrstuvwxyz")) (vE (cD (.str "0123456789"))))))
noncomputable def m_is_name : Sm := (cSeq (cIfS (cOr (cNot (cT (cCall1 (dIsTy "str") (cVarV 0)))) (cOr (cNot (cT (cChain dLt dLe2 (cD (.int 0)) (cCall1 dLen (cVarV 0)) (vE (cD (.int 12)))))) (cOr (cT (cBinE (dIn true) (cBinV dIx 0 (vE (cD (.int 0)))) (vE (cD (.str "abcdefghijklmnopqrstuvwxyz"))))) (cT (cBinV (dIn false) 0 (vE (cD (.tuple (kk_KEPT.map .str))))))))) (cRet (cD (.bool false))) cSkip) (cRet (cCall1 dAll (vE (cComp (cIt (cVar 0)) (gNm 1) cYes e_is_name_0 [1])))))
noncomputable def F_is_name : Fd := runFn 2 (m_is_name)
noncomputable def b_law_word_0 : Sm := (cAsg (cBinV dAdd 1 (vE (cCall 2 F_law_of (cCons (cVar 0) (cCons (cCall1 dList2 (vE (cD (.str "abcxyzqnp0129")))) cNil))))) (gNm 1))
noncomputable def m_law_word : Sm := (cSeq (cAsg (cD (.str "")) (gNm 1)) (cSeq (cFor (cRangeC1 (cCons (cCall 2 F_law_of (cCons (cVar 0) (cCons (cLst (cCons (cD (.int 1)) (cCons (cD (.int 1)) (cCons (cD (.int 2)) (cCons (cD (.int 3)) (cCons (cD (.int 12)) (cCons (cD (.int 13)) (cCons (cD (.int 40)) cNil)))))))) cNil))) cNil)) (gNm 2) b_law_word_0) (cRet (cCall 2 F_law_of (cCons (cVar 0) (cCons (cLst (cCons (cVar 1) (cCons (cVar 1) (cCons (cD (.str "deal")) (cCons (cD (.str "0")) (cCons (cD (.str "007")) (cCons (cD (.str "999999999")) (cCons (cD (.str "1000000000")) cNil)))))))) cNil))))))
noncomputable def F_law_word : Fd := runFn 3 (m_law_word)
noncomputable def b_law_line_0 : Sm := (cSeq (cIfS (cT (cBinE dEq (cCall 2 F_law_pick (cCons (cVar 0) (cCons (cD (.int 3)) cNil))) (vE (cD (.int 0))))) (cAsg (cTup (cCons (cD (.str "sign")) (cCons (cCall 2 F_law_of (cCons (cVar 0) (cCons (cLst (cCons (cD (.str ",")) (cCons (cD (.str ":")) (cCons (cD (.str ";")) (cCons (cD (.str "-")) cNil))))) cNil))) cNil))) (gNm 5)) (cSeq (cAsg (cTup (cCons (cD (.str "word")) (cCons (cCall 1 F_law_word (cCons (cVar 0) cNil)) cNil))) (gNm 5)) (cIfS (cAnd (cT (cBinV dNe 4 (vE (cLst cNil)))) (cAnd (cT (cBinE dEq (cBinE dIx (cBinV dIx 4 (vE (cNeg (vE (cD (.int 1)))))) (vE (cD (.int 0)))) (vE (cD (.str "word"))))) (cT (cBinE (dIn true) (cBinV dIx 3 (vE (cNeg (vE (cD (.int 1)))))) (vE (cD (.str " \n"))))))) (cAsg (cBinV dAdd 3 (vE (cCall 2 F_law_of (cCons (cVar 0) (cCons (cLst (cCons (cD (.str " ")) (cCons (cD (.str "\n")) cNil))) cNil))))) (gNm 3)) cSkip))) (cSeq (cExpr (cMeth 4 "list" mAppend (cCons (cBinV dAdd 5 (vE (cTup (cCons (cCall1 dLen (cVarV 3)) cNil)))) cNil))) (cAsg (cBinE dAdd (cBinV dAdd 3 (vE (cBinV dIx 5 (vE (cD (.int 1)))))) (vE (cCall 2 F_law_of (cCons (cVar 0) (cCons (cLst (cCons (cD (.str "")) (cCons (cD (.str "")) (cCons (cD (.str " ")) (cCons (cD (.str "\n")) (cCons (cD (.str "   ")) cNil)))))) cNil))))) (gNm 3))))
noncomputable def m_law_line : Sm := (cSeq (cPar [3, 4] (cConsR (cCall 2 F_law_of (cCons (cVar 0) (cCons (cLst (cCons (cD (.str "")) (cCons (cD (.str " ")) (cCons (cD (.str "\n")) (cCons (cD (.str "  \n ")) cNil))))) cNil))) (cConsR (cLst cNil) cNil))) (cSeq (cFor (cRangeC1 (cCons (cVar 1) cNil)) (gNm 2) b_law_line_0) (cRet (cTup (cCons (cVar 3) (cCons (cVar 4) cNil))))))
noncomputable def F_law_line : Fd := runFn 6 (m_law_line)
noncomputable def m_law_told (c_BadText : Addr) : Sm := (cTry (cRet (cTup (cCons (cD (.str "told")) (cCons (cCall 1 (F_lexemes c_BadText) (cCons (cVar 0) cNil)) cNil)))) c_BadText 1 (cRet (cTup (cCons (cD (.str "wrong")) (cCons (cFld 1 "place") cNil)))))
noncomputable def F_law_told (c_BadText : Addr) : Fd := runFn 2 (m_law_told c_BadText)
noncomputable def c_law_is_name_0 : Tt := (cT (cBinV (dIn true) 4 (vE (cBinV dAdd 2 (cVarV 3)))))
noncomputable def e_law_is_name_1 : Ev := (cVar 4)
noncomputable def m_law_is_name : Sm := (cSeq (cAsg (cD (.str "again and as back below by comes counts deal even feed form from grow hears in kept leads least letter lot")) (gNm 1)) (cSeq (cAsg (cBinV dAdd 1 (vE (cD (.str " many meets mirror none of order parts pipe power promise returns ring round same spelled")))) (gNm 1)) (cSeq (cAsg (cMethE "str" dSplit (cBinV dAdd 1 (vE (cD (.str " stands then times told turn undone where windows word")))) (cCons (cD (.str " ")) cNil)) (gNm 1)) (cSeq (cIfS (cOr (cNot (cT (cCall1 (dIsTy "str") (cVarV 0)))) (cOr (cNot (cT (cChain dLe2 dLe2 (cD (.int 1)) (cCall1 dLen (cVarV 0)) (vE (cD (.int 12)))))) (cT (cBinV (dIn false) 0 (cVarV 1))))) (cRet (cD (.bool false))) cSkip) (cSeq (cPar [2, 3] (cConsR (cD (.str "abcdefghijklmnopqrstuvwxyz")) (cConsR (cD (.str "0123456789")) cNil))) (cRet (cAndV (cBinE (dIn false) (cBinV dIx 0 (vE (cD (.int 0)))) (cVarV 2)) (cBinE dEq (cComp (cIt (cVar 0)) (gNm 4) c_law_is_name_0 e_law_is_name_1 [4]) (vE (cLst cNil))))))))))
noncomputable def F_law_is_name : Fd := runFn 5 (m_law_is_name)
noncomputable def b_law_0 (c_BadText : Addr) : Sm := (cSeq (cAsg (cCall 2 F_law_line (cCons (cVar 1) (cCons (cVar 2) cNil))) (gTp (gsCons (gNm 9) (gsCons (gNm 10) gsNil)))) (cSeq (cIfS (cT (cBinE dNe (cCall1 dRepr (vE (cCall 1 (F_law_told c_BadText) (cCons (cVar 9) cNil)))) (vE (cCall1 dRepr (vE (cTup (cCons (cD (.str "told")) (cCons (cVar 10) cNil)))))))) (cRet (cD (.bool false))) cSkip) (cSeq (cAsg (cCall 2 F_law_pick (cCons (cVar 1) (cCons (cBinE dAdd (cCall1 dLen (cVarV 9)) (vE (cD (.int 1)))) cNil))) (gNm 6)) (cSeq (cAsg (cCall 2 F_law_of (cCons (cVar 1) (cCons (cLst (cCons (cD (.str "A")) (cCons (cD (.str ".")) (cCons (cD (.str "_")) (cCons (cD (.str "(")) (cCons (cD (.str "*")) (cCons (cD (.str "\t")) (cCons (cD (.str "+")) (cCons (cD (.str "/")) (cCons (cD (.str "=")) (cCons (cD (.str "~")) cNil))))))))))) cNil))) (gNm 7)) (cSeq (cAsg (cBinE dAdd (cBinE dAdd (cBinE dAdd (cSlV2 9 none (some (cVarV 6))) (cVarV 7)) (vE (cSlV2 9 (some (cVarV 6)) none))) (vE (cCall 2 F_law_of (cCons (cVar 1) (cCons (cLst (cCons (cD (.str "")) (cCons (cD (.str "?")) (cCons (cD (.str " x;")) (cCons (cD (.str "B")) cNil))))) cNil))))) (gNm 8)) (cIfS (cT (cBinE dNe (cCall1 dRepr (vE (cCall 1 (F_law_told c_BadText) (cCons (cVar 8) cNil)))) (vE (cCall1 dRepr (vE (cTup (cCons (cD (.str "wrong")) (cCons (cVar 6) cNil)))))))) (cRet (cD (.bool false))) cSkip))))))
noncomputable def g_law_1 : Tg := (gNm 11)
noncomputable def e_law_2 : Ev := (cCall 1 F_law_word (cCons (cVar 1) cNil))
noncomputable def b_law_3 : Sm := (cIfS (cT (cBinE dNe (cCall1 dRepr (vE (cCall 1 F_is_name (cCons (cVar 5) cNil)))) (vE (cCall1 dRepr (vE (cCall 1 F_law_is_name (cCons (cVar 5) cNil))))))) (cRet (cD (.bool false))) cSkip)
noncomputable def e_law_4 (c_BadText : Addr) : Ev := (cCall 1 (F_lexemes c_BadText) (cCons (cVar 9) cNil))
noncomputable def m_law (c_BadText : Addr) : Sm := (cSeq (cFor (cIt (cTup (cCons (cCall 2 F_law_pick (cCons (cVar 1) (cCons (cD (.int 6)) cNil))) (cCons (cBinE dAdd (cD (.int 3)) (vE (cCall 2 F_law_pick (cCons (cVar 1) (cCons (cD (.int 30)) cNil))))) (cCons (cCall 2 F_law_of (cCons (cVar 1) (cCons (cLst (cCons (cD (.int 0)) (cCons (cD (.int 1)) (cCons (cD (.int 400)) cNil)))) cNil))) cNil))))) (gNm 2) (b_law_0 c_BadText)) (cSeq (cAsg (cLst (cCons (cD (.str "a")) (cCons (cD (.str "z9")) (cCons (cD (.str "abcdefghijkl")) (cCons (cD (.str "abcdefghijklm")) (cCons (cD (.str "")) (cCons (cD (.str "9a")) (cCons (cD (.str "a b")) (cCons (cD (.str "a_b")) (cCons (cD (.str "Ab")) (cCons (cD (.str "a-")) (cCons (cBinE dMul2 (cD (.str "x")) (vE (cD (.int 600)))) (cCons (cD (.str "none")) (cCons (cD (.str "lots")) cNil)))))))))))))) (gNm 3)) (cSeq (cAsg (cBinV dAdd 3 (vE (cLst (cCons (cD (.str "deal")) (cCons (cD (.str "deals")) (cCons (cD (.str "ring1")) (cCons (cD (.str "in")) (cCons (cD (.str "i")) (cCons (cD (.str "windows")) (cCons (cD (.str "window")) (cCons (cD .none) (cCons (cD (.int 7)) (cCons (cD (.bool true)) (cCons (cTup (cCons (cD (.str "a")) cNil)) (cCons (cLst (cCons (cD (.str "a")) cNil)) (cCons (cD (.str "a\n")) (cCons (cD (.int 1000)) cNil))))))))))))))))) (gNm 3)) (cSeq (cAsg (cLst (cCons (cD (.str "again")) (cCons (cD (.str "counts")) (cCons (cD (.str "comes")) (cCons (cD (.str "mirror")) (cCons (cD (.str "returns")) (cCons (cD (.str "spelled")) (cCons (cD (.str "times")) (cCons (cD (.str "undone")) (cCons (cD (.str "where")) (cCons (cD (.str "of")) (cCons (cD (.str "power")) cNil)))))))))))) (gNm 4)) (cSeq (cFor (cIt (cBinE dAdd (cBinV dAdd 3 (vE (cComp (cRangeC1 (cCons (cD (.int 8)) cNil)) g_law_1 cYes e_law_2 [11]))) (vE (cLst (cCons (cCall 2 F_law_of (cCons (cVar 1) (cCons (cVar 4) cNil))) (cCons (cBinE dAdd (cCall 2 F_law_of (cCons (cVar 1) (cCons (cVar 4) cNil))) (vE (cD (.str "s")))) cNil)))))) (gNm 5) b_law_3) (cRet (cBinE dEq (cComp (cIt (cTup (cCons (cD (.str "")) (cCons (cD (.str "\n \n")) cNil)))) (gNm 9) cYes (e_law_4 c_BadText) [9]) (vE (cLst (cCons (cLst cNil) (cCons (cLst cNil) cNil)))))))))))
-- slots of law: ['script', 'source', 'many', 'some', 'kept', 'value', 'place', 'wrong', 'late', 'text', 'line', 'lap']
end Law
end Pw
set_option Elab.async false
set_option linter.all false
set_option maxRecDepth 100000
set_option maxHeartbeats 4000000
namespace Pw
namespace Law
open PySem PySem.Spec PyProof.Rows L2
def topS (i : Nat) : Stmt := PySem.Challenge.pw_codeddeals_k01_lexemes_and_names.main.body.getD i (.Pass ⟨0, 0, 0, 0⟩)
section
variable {P : Program} {w : World} {K : PySem.W.Frag} {mg : Str → Option Value} {base : Heap}
-- printed by gen.py
abbrev s_run_behind : Stmt := topS 10
theorem sc_run_behind : FnScope ["text", "place", "signs"] ["text", "place", "signs"] (defScope s_run_behind) := ⟨rfl, rfl, rfl, by decide +kernel, rfl, by decide +kernel, by decide +kernel⟩
theorem g_run_behind {f : Addr} {fd : FuncData} (F : Fun K "run_behind" "run_behind" s_run_behind f fd) (hm : mg "run_behind" = some (.ref f)) (B : Blt mg) : CalG P w K mg base 1 "run_behind" 3 (F_run_behind) :=
  ⟨f, fd, ["text", "place", "signs"], rfl, fnG_of (k := 0) F sc_run_behind fun cdv A outer s H E Z hz hr hgd => (snB_cons (snS_while (passes_of rfl) (snT_W (snW_and (snT_cmpV opR_lt (pv 1) (snV_E (snE_callB call_lenR (by rfl) B.len PyProof.Rows.Boot.«len» (snV_var (pv 0)))) (nomark _)) (snW_and1 (snT_cmpE (opR_in hr.units) (snE_ixV (ixR hr.units) (pv 0) (snV_var (pv 1)) (fun _ _ => rfl)) (snV_var (pv 2)) (by with_unfolding_all rfl))))) (snB_one (snS_aug (i := 1) opR_iaddI sc_run_behind.nd rfl (Or.inl rfl) (snV_E snE_int)))) (snB_one (snS_ret (snE_var (pv 1))))), hm, F.kp, (F.binds (ps := ["text", "place", "signs"]) fun _ _ _ _ _ _ us hl => match us, hl with | [_, _, _], _ => rfl)⟩
abbrev s_lexeme_from : Stmt := topS 11
theorem sc_lexeme_from : FnScope ["text", "place", "end"] ["text", "place"] (defScope s_lexeme_from) := ⟨rfl, rfl, rfl, by decide +kernel, rfl, by decide +kernel, by decide +kernel⟩
theorem g_lexeme_from {f : Addr} {fd : FuncData} (F : Fun K "lexeme_from" "lexeme_from" s_lexeme_from f fd) (hm : mg "lexeme_from" = some (.ref f)) (B : Blt mg) (cn_BLANKS : ∃ u, mg "BLANKS" = some u ∧ RelV (vOf (.str " \n")) u) (cn_FIGURES : ∃ u, mg "FIGURES" = some u ∧ RelV (vOf (.str "0123456789")) u) (cn_SIGNS : ∃ u, mg "SIGNS" = some u ∧ RelV (vOf (.str ",:;-")) u) (cn_SMALL : ∃ u, mg "SMALL" = some u ∧ RelV (vOf (.str "abcdefghijklmnopqrstuvwxyz")) u) (G_run_behind : CalG P w K mg base 1 "run_behind" 3 F_run_behind) : CalG P w K mg base 2 "lexeme_from" 2 (F_lexeme_from) :=
  ⟨f, fd, ["text", "place"], rfl, fnG_of (k := 1) F sc_lexeme_from fun cdv A outer s H E Z hz hr hgd => (snB_cons (snS_set (i := 1) sc_lexeme_from.nd rfl (Or.inl rfl) (snE_cal G_run_behind (hr.mono (by decide)) hgd (by rfl) (takes_of rfl rfl rfl rfl) (snA_cons (snE_var (pv 0)) (snA_cons (snE_var (pv 1)) (snA_cons (snE_glob (by rfl) cn_BLANKS trivial) snA_nil))))) (snB_cons (snS_if (snT_cmpV (opR_eq hr.units) (pv 1) (snV_E (snE_callB call_lenR (by rfl) B.len PyProof.Rows.Boot.«len» (snV_var (pv 0)))) (nomark _)) (snB_one (snS_ret (snE_tup (snA_cons snE_str (snA_cons snE_str (snA_cons (snE_var (pv 1)) snA_nil)))))) snB_nil) (snB_cons (snS_if (snT_cmpE (opR_in hr.units) (snE_ixV (ixR hr.units) (pv 0) (snV_var (pv 1)) (fun _ _ => rfl)) (snV_E (snE_glob (by rfl) cn_SIGNS trivial)) (by with_unfolding_all rfl)) (snB_one (snS_ret (snE_tup (snA_cons snE_str (snA_cons (snE_ixV (ixR hr.units) (pv 0) (snV_var (pv 1)) (fun _ _ => rfl)) (snA_cons (snE_var (pv 1)) snA_nil)))))) snB_nil) (snB_cons (snS_set (i := 2) sc_lexeme_from.nd rfl (Or.inl rfl) (snE_cal G_run_behind (hr.mono (by decide)) hgd (by rfl) (takes_of rfl rfl rfl rfl) (snA_cons (snE_var (pv 0)) (snA_cons (snE_var (pv 1)) (snA_cons (snE_binE opR_add (snE_glob (by rfl) cn_SMALL trivial) (snV_E (snE_glob (by rfl) cn_FIGURES trivial))) snA_nil))))) (snB_one (snS_ret (snE_if (snT_cmpV opR_gt (pv 2) (snV_var (pv 1)) (nomark _)) (snE_tup (snA_cons snE_str (snA_cons (snE_slV2 (pv 0) (snV_var (pv 1)) (snV_var (pv 2))) (snA_cons (snE_var (pv 1)) snA_nil)))) (snE_tup (snA_cons snE_str (snA_cons snE_str (snA_cons (snE_var (pv 1)) snA_nil))))))))))), hm, F.kp, (F.binds (ps := ["text", "place"]) fun _ _ _ _ _ _ us hl => match us, hl with | [_, _], _ => rfl)⟩
abbrev s_lexemes : Stmt := topS 12
theorem sc_lexemes : FnScope ["text", "found", "here"] ["text"] (defScope s_lexemes) := ⟨rfl, rfl, rfl, by decide +kernel, rfl, by decide +kernel, by decide +kernel⟩
theorem g_lexemes {c_BadText : Addr} {f : Addr} {fd : FuncData} (F : Fun K "lexemes" "lexemes" s_lexemes f fd) (hm : mg "lexemes" = some (.ref f)) (B : Blt mg) {i_BadText : Addr} {q_BadText : Str} (er_BadText : ErC P K mg c_BadText i_BadText q_BadText ["place"]) (mg_BadText : mg "BadText" = some (.ref c_BadText)) (G_lexeme_from : CalG P w K mg base 2 "lexeme_from" 2 F_lexeme_from) : CalG P w K mg base 3 "lexemes" 1 (F_lexemes c_BadText) :=
  ⟨f, fd, ["text"], rfl, fnG_of (k := 2) F sc_lexemes fun cdv A outer s H E Z hz hr hgd => (snB_cons (snS_par2 (i := 1) (j := 2) rfl sc_lexemes.nd rfl rfl (by decide) rfl rfl (snA_consR (snE_lst snA_nil) (snA_consR (snE_cal G_lexeme_from (hr.mono (by decide)) hgd (by rfl) (takes_of rfl rfl rfl rfl) (snA_cons (snE_var (pv 0)) (snA_cons snE_int snA_nil))) snA_nil)) rfl) (snB_cons (snS_while (passes_of rfl) (snT_cmpE (opR_ne hr.units) (snE_ixV (ixR hr.units) (pv 2) (snV_E snE_int) (fun _ _ => rfl)) (snV_E snE_str) (nomark _)) (snB_cons (snS_if (snT_cmpE (opR_eq hr.units) (snE_ixV (ixR hr.units) (pv 2) (snV_E snE_int) (fun _ _ => rfl)) (snV_E snE_str) (nomark _)) (snB_one (snS_raise rfl er_BadText (hr.mono (Nat.zero_le _)) (takes_of rfl rfl rfl rfl) (snA_cons (snE_ixV (ixR hr.units) (pv 2) (snV_E snE_int) (fun _ _ => rfl)) snA_nil) (by rfl) mg_BadText)) snB_nil) (snB_cons (snS_expr (snE_meth PySem.F.plainAttrs_list PySem.F.slot_list_append PySem.F.type_list_append mt_appendR (pv 1) (snA_cons (snE_var (pv 2)) snA_nil))) (snB_one (snS_set (i := 2) sc_lexemes.nd rfl (Or.inl rfl) (snE_cal G_lexeme_from (hr.mono (by decide)) hgd (by rfl) (takes_of rfl rfl rfl rfl) (snA_cons (snE_var (pv 0)) (snA_cons (snE_binE opR_add (snE_ixV (ixR hr.units) (pv 2) (snV_E snE_int) (fun _ _ => rfl)) (snV_E (snE_callB call_lenR (by rfl) B.len PyProof.Rows.Boot.«len» (snV_E (snE_ixV (ixR hr.units) (pv 2) (snV_E snE_int) (fun _ _ => rfl)))))) snA_nil)))))))) (snB_one (snS_ret (snE_var (pv 1)))))), hm, F.kp, (F.binds (ps := ["text"]) fun _ _ _ _ _ _ us hl => match us, hl with | [_], _ => rfl)⟩
abbrev s_is_name : Stmt := topS 13
theorem sc_is_name : FnScope ["value", "sign"] ["value"] (defScope s_is_name) := ⟨rfl, rfl, rfl, by decide +kernel, rfl, by decide +kernel, by decide +kernel⟩
theorem g_is_name {f : Addr} {fd : FuncData} (F : Fun K "is_name" "is_name" s_is_name f fd) (hm : mg "is_name" = some (.ref f)) (B : Blt mg) (cn_FIGURES : ∃ u, mg "FIGURES" = some u ∧ RelV (vOf (.str "0123456789")) u) (cn_KEPT : ∃ a, mg "KEPT" = some (.ref a) ∧ TupK K a kk_KEPT) (cn_MOST_LETTERS : ∃ u, mg "MOST_LETTERS" = some u ∧ RelV (vOf (.int 12)) u) (cn_SMALL : ∃ u, mg "SMALL" = some u ∧ RelV (vOf (.str "abcdefghijklmnopqrstuvwxyz")) u) : CalG P w K mg base 1 "is_name" 1 (F_is_name) :=
  ⟨f, fd, ["value"], rfl, fnG_of (k := 0) F sc_is_name fun cdv A outer s H E Z hz hr hgd => (snB_cons (snS_if (snT_W (snW_or (snT_not (snT_val (snE_isTy (by rfl) B.isinstance PyProof.Rows.Boot.«isinstance» (snV_var (pv 0)) (by rfl) B.str PyProof.Rows.Boot.«str»))) (snW_or (snT_not (snT_chain opR_lt opR_le2 snE_int (snE_callB call_lenR (by rfl) B.len PyProof.Rows.Boot.«len» (snV_var (pv 0))) (snV_E (snE_glob (by rfl) cn_MOST_LETTERS trivial)))) (snW_or (snT_cmpE (opR_notIn hr.units) (snE_ixV (ixR hr.units) (pv 0) (snV_E snE_int) (fun _ _ => rfl)) (snV_E (snE_glob (by rfl) cn_SMALL trivial)) (by with_unfolding_all rfl)) (snW_or1 (snT_cmpV (opR_in hr.units) (pv 0) (snV_E (snE_globT (by rfl) cn_KEPT)) (by with_unfolding_all rfl))))))) (snB_one (snS_ret snE_bl)) snB_nil) (snB_one (snS_ret (snE_callB (call_allR rfl) (by rfl) B.all PyProof.Rows.Boot.«all» (snV_E (snE_lc rfl sc_is_name.nd (snI_any (snE_var (pv 0))) (own := [("sign", 1)]) (blkOk_by (N := ["value", "sign"]) (sc := defScope s_is_name) (by decide +kernel)) (by decide) (fun _ _ _ _ _ => (snG_nm (pg_name (i := 1) sc_is_name.nd rfl (by first | exact Or.inl rfl | exact Or.inr rfl)))) (fun _ _ _ _ _ => snTs_nil) (fun _ _ _ _ _ => (snE_cmpV (opR_in hr.units) (pv 1) (snV_E (snE_binE opR_add (snE_glob (by rfl) cn_SMALL trivial) (snV_E (snE_glob (by rfl) cn_FIGURES trivial)))) (by with_unfolding_all rfl))))))))), hm, F.kp, (F.binds (ps := ["value"]) fun _ _ _ _ _ _ us hl => match us, hl with | [_], _ => rfl)⟩
abbrev s_law_source : Stmt := topS 15
theorem sc_law_source : FnScope ["script", "mixed", "cell"] ["script"] (defScope s_law_source) := ⟨rfl, rfl, rfl, by decide +kernel, rfl, by decide +kernel, by decide +kernel⟩
theorem g_law_source {f : Addr} {fd : FuncData} (F : Fun K "_law_source" "_law_source" s_law_source f fd) (hm : mg "_law_source" = some (.ref f)) (B : Blt mg) : CalG P w K mg base 1 "_law_source" 1 (F_law_source) :=
  ⟨f, fd, ["script"], rfl, fnG_of (k := 0) F sc_law_source fun cdv A outer s H E Z hz hr hgd => (snB_cons (snS_set (i := 1) sc_law_source.nd rfl (Or.inl rfl) snE_int) (snB_cons (snS_for (passes_of rfl) rfl (snI_any (snE_var (pv 0))) (snG_nm (pg_name (i := 2) sc_law_source.nd rfl (Or.inl rfl))) (snB_one (snS_set (i := 1) sc_law_source.nd rfl (Or.inl rfl) (snE_binE opR_mod (snE_callTy call_intR (by rfl) B.int PyProof.Rows.Boot.«int» (snV_E (snE_binE opR_add (snE_binE opR_add (snE_binV opR_mul (pv 1) (snV_E snE_int)) (snV_E (snE_binV opR_mul (pv 2) (snV_E snE_int)))) (snV_E snE_int)))) (snV_E snE_int))))) (snB_one (snS_ret (snE_disp (.cons snE_str (snE_rev (snV_E (snE_lc rfl sc_law_source.nd (snI_any (snE_var (pv 0))) (own := [("cell", 2)]) (blkOk_by (N := ["script", "mixed", "cell"]) (sc := defScope s_law_source) (by decide +kernel)) (by decide) (fun _ _ _ _ _ => (snG_nm (pg_name (i := 2) sc_law_source.nd rfl (by first | exact Or.inl rfl | exact Or.inr rfl)))) (fun _ _ _ _ _ => snTs_nil) (fun _ _ _ _ _ => (snE_callB call_absR (by rfl) B.abs PyProof.Rows.Boot.«abs» (snV_var (pv 2))))))) (.cons snE_str snE_int (.cons snE_str (snE_var (pv 1)) (.cons snE_str snE_int .nil))))))))), hm, F.kp, (F.binds (ps := ["script"]) fun _ _ _ _ _ _ us hl => match us, hl with | [_], _ => rfl)⟩
abbrev s_law_pick : Stmt := topS 16
theorem sc_law_pick : FnScope ["source", "many", "left", "mixed"] ["source", "many"] (defScope s_law_pick) := ⟨rfl, rfl, rfl, by decide +kernel, rfl, by decide +kernel, by decide +kernel⟩
theorem g_law_pick {f : Addr} {fd : FuncData} (F : Fun K "_law_pick" "_law_pick" s_law_pick f fd) (hm : mg "_law_pick" = some (.ref f)) (B : Blt mg) : CalG P w K mg base 1 "_law_pick" 2 (F_law_pick) :=
  ⟨f, fd, ["source", "many"], rfl, fnG_of (k := 0) F sc_law_pick fun cdv A outer s H E Z hz hr hgd => (snB_cons (snS_while (passes_of rfl) (snT_W (snW_and (snT_cmpV opR_gt (pv 1) (snV_E snE_int) (nomark _)) (snW_and (snT_cmpE opR_lt (snE_srcG sel_left hr.units (pv 0) (fun _ _ => rfl)) (snV_E snE_int) (nomark _)) (snW_and1 (snT_cmpE opR_gt (snE_srcLen (pe_cells hr.units (pv 0) (fun _ _ => rfl)) (by rfl) B.len) (snV_E snE_int) (nomark _)))))) (snB_one (snS_srcSet put_left hr.units (pv 0) (snE_srcPop (pe_cells hr.units (pv 0) (fun _ _ => rfl)))))) (snB_cons (snS_set (i := 2) sc_law_pick.nd rfl (Or.inl rfl) (snE_srcG sel_left hr.units (pv 0) (fun _ _ => rfl))) (snB_cons (snS_if (snT_W (snW_or (snT_cmpV opR_lt (pv 1) (snV_E snE_int) (nomark _)) (snW_or1 (snT_cmpV opR_gt (pv 2) (snV_E snE_int) (nomark _))))) (snB_cons (snS_srcSet put_left hr.units (pv 0) (snE_binV opR_fdiv (pv 2) (snV_E (snE_callN (call_maxN rfl) (by rfl) B.max PyProof.Rows.Boot.«max» (snA_cons snE_int (snA_cons (snE_var (pv 1)) snA_nil)))))) (snB_one (snS_ret (snE_binE opR_mod (snE_callTy call_intR (by rfl) B.int PyProof.Rows.Boot.«int» (snV_var (pv 2))) (snV_E (snE_callN (call_maxN rfl) (by rfl) B.max PyProof.Rows.Boot.«max» (snA_cons snE_int (snA_cons (snE_var (pv 1)) snA_nil)))))))) snB_nil) (snB_cons (snS_srcSet put_turn hr.units (pv 0) (snE_binE opR_add (snE_srcG sel_turn hr.units (pv 0) (fun _ _ => rfl)) (snV_E snE_int))) (snB_cons (snS_set (i := 3) sc_law_pick.nd rfl (Or.inl rfl) (snE_binE opR_mod (snE_callTy call_intR (by rfl) B.int PyProof.Rows.Boot.«int» (snV_E (snE_binE opR_add (snE_srcG sel_mixed hr.units (pv 0) (fun _ _ => rfl)) (snV_E (snE_binE opR_mul (snE_srcG sel_turn hr.units (pv 0) (fun _ _ => rfl)) (snV_E snE_int)))))) (snV_E snE_int))) (snB_cons (snS_set (i := 3) sc_law_pick.nd rfl (Or.inl rfl) (snE_binE opR_mod (snE_callTy call_intR (by rfl) B.int PyProof.Rows.Boot.«int» (snV_E (snE_binE opR_add (snE_binV opR_mul (pv 3) (snV_var (pv 3))) (snV_E (snE_binE opR_mul (snE_srcG sel_turn hr.units (pv 0) (fun _ _ => rfl)) (snV_E snE_int)))))) (snV_E snE_int))) (snB_cons (snS_srcSet put_mixed hr.units (pv 0) (snE_var (pv 3))) (snB_one (snS_ret (snE_binE opR_mod (snE_callTy call_intR (by rfl) B.int PyProof.Rows.Boot.«int» (snV_E (snE_binV opR_fdiv (pv 3) (snV_E snE_int)))) (snV_var (pv 1)))))))))))), hm, F.kp, (F.binds (ps := ["source", "many"]) fun _ _ _ _ _ _ us hl => match us, hl with | [_, _], _ => rfl)⟩
abbrev s_law_of : Stmt := topS 17
theorem sc_law_of : FnScope ["source", "some"] ["source", "some"] (defScope s_law_of) := ⟨rfl, rfl, rfl, by decide +kernel, rfl, by decide +kernel, by decide +kernel⟩
theorem g_law_of {f : Addr} {fd : FuncData} (F : Fun K "_law_of" "_law_of" s_law_of f fd) (hm : mg "_law_of" = some (.ref f)) (B : Blt mg) (G_law_pick : CalG P w K mg base 1 "_law_pick" 2 F_law_pick) : CalG P w K mg base 2 "_law_of" 2 (F_law_of) :=
  ⟨f, fd, ["source", "some"], rfl, fnG_of (k := 1) F sc_law_of fun cdv A outer s H E Z hz hr hgd => (snB_one (snS_ret (snE_ixV (ixR hr.units) (pv 1) (snV_E (snE_cal G_law_pick (hr.mono (by decide)) hgd (by rfl) (takes_of rfl rfl rfl rfl) (snA_cons (snE_var (pv 0)) (snA_cons (snE_callB call_lenR (by rfl) B.len PyProof.Rows.Boot.«len» (snV_var (pv 1))) snA_nil)))) (fun _ _ => rfl)))), hm, F.kp, (F.binds (ps := ["source", "some"]) fun _ _ _ _ _ _ us hl => match us, hl with | [_, _], _ => rfl)⟩
abbrev s_law_word : Stmt := topS 18
theorem sc_law_word : FnScope ["source", "found", "lap"] ["source"] (defScope s_law_word) := ⟨rfl, rfl, rfl, by decide +kernel, rfl, by decide +kernel, by decide +kernel⟩
theorem g_law_word {f : Addr} {fd : FuncData} (F : Fun K "_law_word" "_law_word" s_law_word f fd) (hm : mg "_law_word" = some (.ref f)) (B : Blt mg) (G_law_of : CalG P w K mg base 2 "_law_of" 2 F_law_of) : CalG P w K mg base 3 "_law_word" 1 (F_law_word) :=
  ⟨f, fd, ["source"], rfl, fnG_of (k := 2) F sc_law_word fun cdv A outer s H E Z hz hr hgd => (snB_cons (snS_set (i := 1) sc_law_word.nd rfl (Or.inl rfl) snE_str) (snB_cons (snS_for (passes_of rfl) rfl (snI_rangeC1 (by rfl) B.range (snA_cons (snE_cal G_law_of (hr.mono (by decide)) hgd (by rfl) (takes_of rfl rfl rfl rfl) (snA_cons (snE_var (pv 0)) (snA_cons (snE_lst (snA_cons snE_int (snA_cons snE_int (snA_cons snE_int (snA_cons snE_int (snA_cons snE_int (snA_cons snE_int (snA_cons snE_int snA_nil)))))))) snA_nil))) snA_nil)) (snG_nm (pg_name (i := 2) sc_law_word.nd rfl (Or.inl rfl))) (snB_one (snS_set (i := 1) sc_law_word.nd rfl (Or.inl rfl) (snE_binV opR_add (pv 1) (snV_E (snE_cal G_law_of (hr.mono (by decide)) hgd (by rfl) (takes_of rfl rfl rfl rfl) (snA_cons (snE_var (pv 0)) (snA_cons (snE_callTy (call_listR2 rfl) (by rfl) B.list PyProof.Rows.Boot.«list» (snV_E snE_str)) snA_nil)))))))) (snB_one (snS_ret (snE_cal G_law_of (hr.mono (by decide)) hgd (by rfl) (takes_of rfl rfl rfl rfl) (snA_cons (snE_var (pv 0)) (snA_cons (snE_lst (snA_cons (snE_var (pv 1)) (snA_cons (snE_var (pv 1)) (snA_cons snE_str (snA_cons snE_str (snA_cons snE_str (snA_cons snE_str (snA_cons snE_str snA_nil)))))))) snA_nil))))))), hm, F.kp, (F.binds (ps := ["source"]) fun _ _ _ _ _ _ us hl => match us, hl with | [_], _ => rfl)⟩
abbrev s_law_line : Stmt := topS 19
theorem sc_law_line : FnScope ["source", "many", "lap", "text", "found", "late"] ["source", "many"] (defScope s_law_line) := ⟨rfl, rfl, rfl, by decide +kernel, rfl, by decide +kernel, by decide +kernel⟩
theorem g_law_line {f : Addr} {fd : FuncData} (F : Fun K "_law_line" "_law_line" s_law_line f fd) (hm : mg "_law_line" = some (.ref f)) (B : Blt mg) (G_law_of : CalG P w K mg base 2 "_law_of" 2 F_law_of) (G_law_pick : CalG P w K mg base 1 "_law_pick" 2 F_law_pick) (G_law_word : CalG P w K mg base 3 "_law_word" 1 F_law_word) : CalG P w K mg base 4 "_law_line" 2 (F_law_line) :=
  ⟨f, fd, ["source", "many"], rfl, fnG_of (k := 3) F sc_law_line fun cdv A outer s H E Z hz hr hgd => (snB_cons (snS_par2 (i := 3) (j := 4) rfl sc_law_line.nd rfl rfl (by decide) rfl rfl (snA_consR (snE_cal G_law_of (hr.mono (by decide)) hgd (by rfl) (takes_of rfl rfl rfl rfl) (snA_cons (snE_var (pv 0)) (snA_cons (snE_lst (snA_cons snE_str (snA_cons snE_str (snA_cons snE_str (snA_cons snE_str snA_nil))))) snA_nil))) (snA_consR (snE_lst snA_nil) snA_nil)) rfl) (snB_cons (snS_for (passes_of rfl) rfl (snI_rangeC1 (by rfl) B.range (snA_cons (snE_var (pv 1)) snA_nil)) (snG_nm (pg_name (i := 2) sc_law_line.nd rfl (Or.inl rfl))) (snB_cons (snS_if (snT_cmpE (opR_eq hr.units) (snE_cal G_law_pick (hr.mono (by decide)) hgd (by rfl) (takes_of rfl rfl rfl rfl) (snA_cons (snE_var (pv 0)) (snA_cons snE_int snA_nil))) (snV_E snE_int) (nomark _)) (snB_one (snS_set (i := 5) sc_law_line.nd rfl (Or.inl rfl) (snE_tup (snA_cons snE_str (snA_cons (snE_cal G_law_of (hr.mono (by decide)) hgd (by rfl) (takes_of rfl rfl rfl rfl) (snA_cons (snE_var (pv 0)) (snA_cons (snE_lst (snA_cons snE_str (snA_cons snE_str (snA_cons snE_str (snA_cons snE_str snA_nil))))) snA_nil))) snA_nil))))) (snB_cons (snS_set (i := 5) sc_law_line.nd rfl (Or.inl rfl) (snE_tup (snA_cons snE_str (snA_cons (snE_cal G_law_word (hr.mono (by decide)) hgd (by rfl) (takes_of rfl rfl rfl rfl) (snA_cons (snE_var (pv 0)) snA_nil)) snA_nil)))) (snB_one (snS_if (snT_W (snW_and (snT_cmpV (opR_ne hr.units) (pv 4) (snV_E (snE_lst snA_nil)) (nomark _)) (snW_and (snT_cmpE (opR_eq hr.units) (snE_ixE (ixR hr.units) (snE_ixV (ixR hr.units) (pv 4) (snV_E (snE_neg (snV_E snE_int))) (fun _ _ => rfl)) (snV_E snE_int) (fun _ _ => rfl)) (snV_E snE_str) (nomark _)) (snW_and1 (snT_cmpE (opR_notIn hr.units) (snE_ixV (ixR hr.units) (pv 3) (snV_E (snE_neg (snV_E snE_int))) (fun _ _ => rfl)) (snV_E snE_str) (by with_unfolding_all rfl)))))) (snB_one (snS_set (i := 3) sc_law_line.nd rfl (Or.inl rfl) (snE_binV opR_add (pv 3) (snV_E (snE_cal G_law_of (hr.mono (by decide)) hgd (by rfl) (takes_of rfl rfl rfl rfl) (snA_cons (snE_var (pv 0)) (snA_cons (snE_lst (snA_cons snE_str (snA_cons snE_str snA_nil))) snA_nil))))))) snB_nil)))) (snB_cons (snS_expr (snE_meth PySem.F.plainAttrs_list PySem.F.slot_list_append PySem.F.type_list_append mt_appendR (pv 4) (snA_cons (snE_binV opR_add (pv 5) (snV_E (snE_tup (snA_cons (snE_callB call_lenR (by rfl) B.len PyProof.Rows.Boot.«len» (snV_var (pv 3))) snA_nil)))) snA_nil))) (snB_one (snS_set (i := 3) sc_law_line.nd rfl (Or.inl rfl) (snE_binE opR_add (snE_binV opR_add (pv 3) (snV_E (snE_ixV (ixR hr.units) (pv 5) (snV_E snE_int) (fun _ _ => rfl)))) (snV_E (snE_cal G_law_of (hr.mono (by decide)) hgd (by rfl) (takes_of rfl rfl rfl rfl) (snA_cons (snE_var (pv 0)) (snA_cons (snE_lst (snA_cons snE_str (snA_cons snE_str (snA_cons snE_str (snA_cons snE_str (snA_cons snE_str snA_nil)))))) snA_nil)))))))))) (snB_one (snS_ret (snE_tup (snA_cons (snE_var (pv 3)) (snA_cons (snE_var (pv 4)) snA_nil))))))), hm, F.kp, (F.binds (ps := ["source", "many"]) fun _ _ _ _ _ _ us hl => match us, hl with | [_, _], _ => rfl)⟩
abbrev s_law_told : Stmt := topS 20
theorem sc_law_told : FnScope ["text", "error"] ["text"] (defScope s_law_told) := ⟨rfl, rfl, rfl, by decide +kernel, rfl, by decide +kernel, by decide +kernel⟩
theorem g_law_told {c_BadText : Addr} {f : Addr} {fd : FuncData} (F : Fun K "_law_told" "_law_told" s_law_told f fd) (hm : mg "_law_told" = some (.ref f)) (B : Blt mg) {i_BadText : Addr} {q_BadText : Str} (er_BadText : ErC P K mg c_BadText i_BadText q_BadText ["place"]) (mg_BadText : mg "BadText" = some (.ref c_BadText)) (xf_BadText : XfC K c_BadText) (xn_BadText : ∀ f : Str, f ∈ [("place" : Str)] → PySem.W.findIn K (.ref c_BadText) f = some none) (ex_BadText : PySem.W.exmOne K (.ref c_BadText) (.ref c_BadText) = some true) (G_lexemes : CalG P w K mg base 3 "lexemes" 1 (F_lexemes c_BadText)) : CalG P w K mg base 4 "_law_told" 1 (F_law_told c_BadText) :=
  ⟨f, fd, ["text"], rfl, fnG_of (k := 3) F sc_law_told fun cdv A outer s H E Z hz hr hgd => (snB_one (snS_try (i := 1) hz rfl rfl sc_law_told.nd rfl rfl ⟨rfl, by decide, Or.inl mg_BadText⟩ ex_BadText (fun W pn xe tk po => (snB_one (snS_ret (snE_tup (snA_cons snE_str (snA_cons (snE_cal G_lexemes (hr.mono (by decide)) hgd (by rfl) tk (snA_cons (snE_var (pv 0)) snA_nil)) snA_nil)))))) (fun a oe dd pn h1 h2 => (snB_one (snS_ret (snE_tup (snA_cons snE_str (snA_cons (snE_fld xf_BadText (xn_BadText "place" (by decide)) h1 h2 (pv 1)) snA_nil)))))))), hm, F.kp, (F.binds (ps := ["text"]) fun _ _ _ _ _ _ us hl => match us, hl with | [_], _ => rfl)⟩
abbrev s_law_is_name : Stmt := topS 21
theorem sc_law_is_name : FnScope ["value", "kept", "small", "figures", "one"] ["value"] (defScope s_law_is_name) := ⟨rfl, rfl, rfl, by decide +kernel, rfl, by decide +kernel, by decide +kernel⟩
theorem g_law_is_name {f : Addr} {fd : FuncData} (F : Fun K "_law_is_name" "_law_is_name" s_law_is_name f fd) (hm : mg "_law_is_name" = some (.ref f)) (B : Blt mg) : CalG P w K mg base 1 "_law_is_name" 1 (F_law_is_name) :=
  ⟨f, fd, ["value"], rfl, fnG_of (k := 0) F sc_law_is_name fun cdv A outer s H E Z hz hr hgd => (snB_cons (snS_set (i := 1) sc_law_is_name.nd rfl (Or.inl rfl) snE_str) (snB_cons (snS_set (i := 1) sc_law_is_name.nd rfl (Or.inl rfl) (snE_binV opR_add (pv 1) (snV_E snE_str))) (snB_cons (snS_set (i := 1) sc_law_is_name.nd rfl (Or.inl rfl) (snE_methE PySem.F.plainAttrs_str PySem.F.slot_str_split PySem.F.type_str_split mt_splitR (snE_binV opR_add (pv 1) (snV_E snE_str)) (snA_cons snE_str snA_nil))) (snB_cons (snS_if (snT_W (snW_or (snT_not (snT_val (snE_isTy (by rfl) B.isinstance PyProof.Rows.Boot.«isinstance» (snV_var (pv 0)) (by rfl) B.str PyProof.Rows.Boot.«str»))) (snW_or (snT_not (snT_chain opR_le2 opR_le2 snE_int (snE_callB call_lenR (by rfl) B.len PyProof.Rows.Boot.«len» (snV_var (pv 0))) (snV_E snE_int))) (snW_or1 (snT_cmpV (opR_in hr.units) (pv 0) (snV_var (pv 1)) (by with_unfolding_all rfl)))))) (snB_one (snS_ret snE_bl)) snB_nil) (snB_cons (snS_parT rfl (pgn_cons (pg_name (i := 2) sc_law_is_name.nd rfl (Or.inr rfl)) (pgn_cons (pg_name (i := 3) sc_law_is_name.nd rfl (Or.inr rfl)) pgn_nil)) (snA_consR snE_str (snA_consR snE_str snA_nil))) (snB_one (snS_ret (snE_and (snE_cmpE (opR_in hr.units) (snE_ixV (ixR hr.units) (pv 0) (snV_E snE_int) (fun _ _ => rfl)) (snV_var (pv 2)) (by with_unfolding_all rfl)) (snE_one (snE_cmpE (opR_eq hr.units) (snE_lc rfl sc_law_is_name.nd (snI_any (snE_var (pv 0))) (own := [("one", 4)]) (blkOk_by (N := ["value", "kept", "small", "figures", "one"]) (sc := defScope s_law_is_name) (by decide +kernel)) (by decide) (fun _ _ _ _ _ => (snG_nm (pg_name (i := 4) sc_law_is_name.nd rfl (by first | exact Or.inl rfl | exact Or.inr rfl)))) (fun _ _ _ _ _ => (snTs_one (snT_cmpV (opR_notIn hr.units) (pv 4) (snV_E (snE_binV opR_add (pv 2) (snV_var (pv 3)))) (by with_unfolding_all rfl)))) (fun _ _ _ _ _ => (snE_var (pv 4)))) (snV_E (snE_lst snA_nil)) (nomark _))))))))))), hm, F.kp, (F.binds (ps := ["value"]) fun _ _ _ _ _ _ us hl => match us, hl with | [_], _ => rfl)⟩
abbrev s_law : Stmt := topS 22
theorem sc_law : FnScope ["script", "source", "many", "some", "kept", "value", "place", "wrong", "late", "text", "line", "lap"] ["script"] (defScope s_law) := ⟨rfl, rfl, rfl, by decide +kernel, rfl, by decide +kernel, by decide +kernel⟩
theorem d_law {c_BadText : Addr} (B : Blt mg) (G_law_pick : CalG P w K mg base 1 "_law_pick" 2 F_law_pick) (G_law_of : CalG P w K mg base 2 "_law_of" 2 F_law_of) (G_law_line : CalG P w K mg base 4 "_law_line" 2 F_law_line) (G_law_told : CalG P w K mg base 4 "_law_told" 1 (F_law_told c_BadText)) (G_law_word : CalG P w K mg base 3 "_law_word" 1 F_law_word) (G_law_is_name : CalG P w K mg base 1 "_law_is_name" 1 F_law_is_name) (G_is_name : CalG P w K mg base 1 "is_name" 1 F_is_name) (G_lexemes : CalG P w K mg base 3 "lexemes" 1 (F_lexemes c_BadText)) (cdv : Value) (A : Around) (outer : List Env) (s : Shared) (H : Hp) (E : XK) {f : Addr} (Z : Zx) (hz : Z.Xn = none) (hr : Room 4 (A.deeper (envOfC "law" (defScope s_law) s.heap.objs.size f cdv))) (hgd : A.guards = some []) : SnB (cxOf (L2.CX P w) P w K mg base ["script", "source", "many", "some", "kept", "value", "place", "wrong", "late", "text", "line", "lap"] "law" (defScope s_law) f cdv A outer s H E) Z (fun cls d _ H => E cls d H) ((defBody s_law).drop 1) (m_law c_BadText) :=
  (snB_cons (snS_for (passes_of rfl) rfl (snI_any (snE_tup (snA_cons (snE_cal G_law_pick (hr.mono (by decide)) hgd (by rfl) (takes_of rfl rfl rfl rfl) (snA_cons (snE_var (pv 1)) (snA_cons snE_int snA_nil))) (snA_cons (snE_binE opR_add snE_int (snV_E (snE_cal G_law_pick (hr.mono (by decide)) hgd (by rfl) (takes_of rfl rfl rfl rfl) (snA_cons (snE_var (pv 1)) (snA_cons snE_int snA_nil))))) (snA_cons (snE_cal G_law_of (hr.mono (by decide)) hgd (by rfl) (takes_of rfl rfl rfl rfl) (snA_cons (snE_var (pv 1)) (snA_cons (snE_lst (snA_cons snE_int (snA_cons snE_int (snA_cons snE_int snA_nil)))) snA_nil))) snA_nil))))) (snG_nm (pg_name (i := 2) sc_law.nd rfl (Or.inl rfl))) (snB_cons (snS_asg (snE_cal G_law_line (hr.mono (by decide)) hgd (by rfl) (takes_of rfl rfl rfl rfl) (snA_cons (snE_var (pv 1)) (snA_cons (snE_var (pv 2)) snA_nil))) (snG_tp rfl (snGs_cons (snG_nm (pg_name (i := 9) sc_law.nd rfl (Or.inl rfl))) (snGs_cons (snG_nm (pg_name (i := 10) sc_law.nd rfl (Or.inl rfl))) snGs_nil)))) (snB_cons (snS_if (snT_cmpE (opR_ne hr.units) (snE_callB (call_reprR hr.units hgd) (by rfl) B.repr PyProof.Rows.Boot.«repr» (snV_E (snE_cal G_law_told (hr.mono (by decide)) hgd (by rfl) (takes_of rfl rfl rfl rfl) (snA_cons (snE_var (pv 9)) snA_nil)))) (snV_E (snE_callB (call_reprR hr.units hgd) (by rfl) B.repr PyProof.Rows.Boot.«repr» (snV_E (snE_tup (snA_cons snE_str (snA_cons (snE_var (pv 10)) snA_nil)))))) (nomark _)) (snB_one (snS_ret snE_bl)) snB_nil) (snB_cons (snS_set (i := 6) sc_law.nd rfl (Or.inl rfl) (snE_cal G_law_pick (hr.mono (by decide)) hgd (by rfl) (takes_of rfl rfl rfl rfl) (snA_cons (snE_var (pv 1)) (snA_cons (snE_binE opR_add (snE_callB call_lenR (by rfl) B.len PyProof.Rows.Boot.«len» (snV_var (pv 9))) (snV_E snE_int)) snA_nil)))) (snB_cons (snS_set (i := 7) sc_law.nd rfl (Or.inl rfl) (snE_cal G_law_of (hr.mono (by decide)) hgd (by rfl) (takes_of rfl rfl rfl rfl) (snA_cons (snE_var (pv 1)) (snA_cons (snE_lst (snA_cons snE_str (snA_cons snE_str (snA_cons snE_str (snA_cons snE_str (snA_cons snE_str (snA_cons snE_str (snA_cons snE_str (snA_cons snE_str (snA_cons snE_str (snA_cons snE_str snA_nil))))))))))) snA_nil)))) (snB_cons (snS_set (i := 8) sc_law.nd rfl (Or.inl rfl) (snE_binE opR_add (snE_binE opR_add (snE_binE opR_add (snE_slV2 (pv 9) trivial (snV_var (pv 6))) (snV_var (pv 7))) (snV_E (snE_slV2 (pv 9) (snV_var (pv 6)) trivial))) (snV_E (snE_cal G_law_of (hr.mono (by decide)) hgd (by rfl) (takes_of rfl rfl rfl rfl) (snA_cons (snE_var (pv 1)) (snA_cons (snE_lst (snA_cons snE_str (snA_cons snE_str (snA_cons snE_str (snA_cons snE_str snA_nil))))) snA_nil)))))) (snB_one (snS_if (snT_cmpE (opR_ne hr.units) (snE_callB (call_reprR hr.units hgd) (by rfl) B.repr PyProof.Rows.Boot.«repr» (snV_E (snE_cal G_law_told (hr.mono (by decide)) hgd (by rfl) (takes_of rfl rfl rfl rfl) (snA_cons (snE_var (pv 8)) snA_nil)))) (snV_E (snE_callB (call_reprR hr.units hgd) (by rfl) B.repr PyProof.Rows.Boot.«repr» (snV_E (snE_tup (snA_cons snE_str (snA_cons (snE_var (pv 6)) snA_nil)))))) (nomark _)) (snB_one (snS_ret snE_bl)) snB_nil)))))))) (snB_cons (snS_set (i := 3) sc_law.nd rfl (Or.inl rfl) (snE_lst (snA_cons snE_str (snA_cons snE_str (snA_cons snE_str (snA_cons snE_str (snA_cons snE_str (snA_cons snE_str (snA_cons snE_str (snA_cons snE_str (snA_cons snE_str (snA_cons snE_str (snA_cons (snE_binE opR_mul2 snE_str (snV_E snE_int)) (snA_cons snE_str (snA_cons snE_str snA_nil))))))))))))))) (snB_cons (snS_set (i := 3) sc_law.nd rfl (Or.inl rfl) (snE_binV opR_add (pv 3) (snV_E (snE_lst (snA_cons snE_str (snA_cons snE_str (snA_cons snE_str (snA_cons snE_str (snA_cons snE_str (snA_cons snE_str (snA_cons snE_str (snA_cons snE_non (snA_cons snE_int (snA_cons snE_bl (snA_cons (snE_tup (snA_cons snE_str snA_nil)) (snA_cons (snE_lst (snA_cons snE_str snA_nil)) (snA_cons snE_str (snA_cons snE_int snA_nil)))))))))))))))))) (snB_cons (snS_set (i := 4) sc_law.nd rfl (Or.inl rfl) (snE_lst (snA_cons snE_str (snA_cons snE_str (snA_cons snE_str (snA_cons snE_str (snA_cons snE_str (snA_cons snE_str (snA_cons snE_str (snA_cons snE_str (snA_cons snE_str (snA_cons snE_str (snA_cons snE_str snA_nil))))))))))))) (snB_cons (snS_for (passes_of rfl) rfl (snI_any (snE_binE opR_add (snE_binV opR_add (pv 3) (snV_E (snE_lc rfl sc_law.nd (snI_rangeC1 (by rfl) B.range (snA_cons snE_int snA_nil)) (own := [("lap", 11)]) (blkOk_by (N := ["script", "source", "many", "some", "kept", "value", "place", "wrong", "late", "text", "line", "lap"]) (sc := defScope s_law) (by decide +kernel)) (by decide) (fun _ _ _ _ _ => (snG_nm (pg_name (i := 11) sc_law.nd rfl (by first | exact Or.inl rfl | exact Or.inr rfl)))) (fun _ _ _ _ _ => snTs_nil) (fun _ _ _ _ _ => (snE_cal G_law_word (hr.mono (by decide)) hgd (by rfl) takesW0 (snA_cons (snE_var (pv 1)) snA_nil)))))) (snV_E (snE_lst (snA_cons (snE_cal G_law_of (hr.mono (by decide)) hgd (by rfl) (takes_of rfl rfl rfl rfl) (snA_cons (snE_var (pv 1)) (snA_cons (snE_var (pv 4)) snA_nil))) (snA_cons (snE_binE opR_add (snE_cal G_law_of (hr.mono (by decide)) hgd (by rfl) (takes_of rfl rfl rfl rfl) (snA_cons (snE_var (pv 1)) (snA_cons (snE_var (pv 4)) snA_nil))) (snV_E snE_str)) snA_nil)))))) (snG_nm (pg_name (i := 5) sc_law.nd rfl (Or.inl rfl))) (snB_one (snS_if (snT_cmpE (opR_ne hr.units) (snE_callB (call_reprR hr.units hgd) (by rfl) B.repr PyProof.Rows.Boot.«repr» (snV_E (snE_cal G_is_name (hr.mono (by decide)) hgd (by rfl) (takes_of rfl rfl rfl rfl) (snA_cons (snE_var (pv 5)) snA_nil)))) (snV_E (snE_callB (call_reprR hr.units hgd) (by rfl) B.repr PyProof.Rows.Boot.«repr» (snV_E (snE_cal G_law_is_name (hr.mono (by decide)) hgd (by rfl) (takes_of rfl rfl rfl rfl) (snA_cons (snE_var (pv 5)) snA_nil))))) (nomark _)) (snB_one (snS_ret snE_bl)) snB_nil))) (snB_one (snS_ret (snE_cmpE (opR_eq hr.units) (snE_lc rfl sc_law.nd (snI_any (snE_tup (snA_cons snE_str (snA_cons snE_str snA_nil)))) (own := [("text", 9)]) (blkOk_by (N := ["script", "source", "many", "some", "kept", "value", "place", "wrong", "late", "text", "line", "lap"]) (sc := defScope s_law) (by decide +kernel)) (by decide) (fun _ _ _ _ _ => (snG_nm (pg_name (i := 9) sc_law.nd rfl (by first | exact Or.inl rfl | exact Or.inr rfl)))) (fun _ _ _ _ _ => snTs_nil) (fun _ _ _ _ _ => (snE_cal G_lexemes (hr.mono (by decide)) hgd (by rfl) takesW0 (snA_cons (snE_var (pv 9)) snA_nil)))) (snV_E (snE_lst (snA_cons (snE_lst snA_nil) (snA_cons (snE_lst snA_nil) snA_nil)))) (nomark _)))))))))
end
end Law
end Pw
set_option Elab.async false
set_option linter.all false
set_option maxRecDepth 100000
namespace Pw
namespace Lx
open PySem PySem.Spec PyProof.Rows L2
/-! ### texts as lists of signs -/
abbrev tx (l : List Nat) : Str := ⟨l.toArray⟩
theorem tx_len (l : List Nat) : (tx l).length = l.length := by simp [Str.length, tx]
theorem tx_inj {a b : List Nat} (h : tx a = tx b) : a = b := by
  have := congrArg (fun s : Str => s.cps.toList) h
  simpa [tx] using this
theorem tx_app (a b : List Nat) : tx a ++ tx b = tx (a ++ b) := by
  show Str.append (tx a) (tx b) = _
  unfold Str.append tx
  simp
theorem t_len {l : List Nat} (h : l.length ≤ 1000000) : dLen (.str (tx l)) = some (.sh (.int (l.length : Int))) := by
  have : (tx l).length ≤ sizeLine := by rw [tx_len]; exact szl h
  unfold dLen
  dsimp only
  rw [if_pos this, tx_len]
theorem t_ix {l : List Nat} (h : l.length ≤ 1000000) {i : Int} {c : Nat} (hi : L2.atI l i = some c) : dIx (.str (tx l)) (.int i) = some (.sh (.str (tx [c]))) := by
  have : (tx l).length ≤ sizeLine := by rw [tx_len]; exact szl h
  unfold dIx
  dsimp only
  rw [if_pos this]
  show (L2.atI l i).map _ = _
  rw [hi]
  rfl
theorem t_at {l : List Nat} (h : l.length ≤ 1000000) {k : Nat} (hk : k < l.length) : dIx (.str (tx l)) (.int (k : Int)) = some (.sh (.str (tx [l[k]]))) := t_ix h (atI_nat hk)
theorem t_last {l : List Nat} (c : Nat) (h : (l ++ [c]).length ≤ 1000000) : dIx (.str (tx (l ++ [c]))) (.int (-1)) = some (.sh (.str (tx [c]))) := t_ix h (atI_last l c)
theorem t_add {a b : List Nat} (h : a.length + b.length ≤ 1000000) : dAdd (.str (tx a)) (.str (tx b)) = some (.sh (.str (tx (a ++ b)))) := by
  have : (tx a).length + (tx b).length ≤ sizeLine := by rw [tx_len, tx_len]; exact szl h
  unfold dAdd
  dsimp only
  rw [if_pos this, tx_app]
theorem t_in (c : Nat) (l : List Nat) : dIn false (.str (tx [c])) (.str (tx l)) = some (.sh (.bool (decide (c ∈ l)))) := by
  have := StrLaws.found_one (tx l) c
  have e : (tx l).cps.toList = l := by simp [tx]
  rw [e] at this
  unfold dIn
  dsimp only
  rw [← this]
  simp [tx]
theorem t_notIn (c : Nat) (l : List Nat) : dIn true (.str (tx [c])) (.str (tx l)) = some (.sh (.bool (!decide (c ∈ l)))) := by
  have := StrLaws.found_one (tx l) c
  have e : (tx l).cps.toList = l := by simp [tx]
  rw [e] at this
  unfold dIn
  dsimp only
  rw [← this]
  simp [tx]
theorem t_take {l : List Nat} (h : l.length ≤ 1000000) (k : Nat) : dSl2 (.str (tx l)) none (some (k : Int)) = some (.sh (.str (tx (l.take k)))) := by
  have : (tx l).length ≤ sizeLine := by rw [tx_len]; exact szl h
  unfold dSl2
  dsimp only
  rw [if_pos this, SX.slice_to (by omega), Int.toNat_natCast]
theorem t_drop {l : List Nat} (h : l.length ≤ 1000000) (k : Nat) : dSl2 (.str (tx l)) (some (k : Int)) none = some (.sh (.str (tx (l.drop k)))) := by
  have : (tx l).length ≤ sizeLine := by rw [tx_len]; exact szl h
  unfold dSl2
  dsimp only
  rw [if_pos this, SX.slice_from (by omega), Int.toNat_natCast]
theorem t_cut {l : List Nat} (h : l.length ≤ 1000000) {i j : Nat} (h1 : i ≤ j) (h2 : j ≤ l.length) : dSl2 (.str (tx l)) (some (i : Int)) (some (j : Int)) = some (.sh (.str (tx ((l.drop i).take (j - i))))) := by
  have : (tx l).length ≤ sizeLine := by rw [tx_len]; exact szl h
  have e := beq_iff_eq.mp (PyProof.Rows.slice_closesL (x := tx l) (i := (i : Int)) (j := (j : Int)) (by omega) (by omega) (by rw [tx_len]; omega))
  unfold dSl2
  dsimp only
  rw [if_pos this, e]
  have e2 : ((j : Int) - (i : Int)).toNat = j - i := by omega
  rw [Int.toNat_natCast, e2]
theorem t_eq (a b : List Nat) : dEq (.str (tx a)) (.str (tx b)) = some (.sh (.bool (decide (a = b)))) := by
  rw [dEq_str]
  by_cases h : a = b
  · simp [h]
  · have : tx a ≠ tx b := fun z => h (tx_inj z)
    simp [h, this]
end Lx
end Pw
set_option Elab.async false
set_option linter.all false
set_option maxRecDepth 100000
namespace Pw
namespace Lx
open PySem PySem.Spec PyProof.Rows L2
/-! ### signs -/
def BL : List Nat := [32, 10]
def SG : List Nat := [44, 58, 59, 45]
def SM : List Nat := [97, 98, 99, 100, 101, 102, 103, 104, 105, 106, 107, 108, 109, 110, 111, 112, 113, 114, 115, 116, 117, 118, 119, 120, 121, 122]
def FG : List Nat := [48, 49, 50, 51, 52, 53, 54, 55, 56, 57]
def AN : List Nat := SM ++ FG
theorem e_BL : (" \n" : Str) = tx BL := by decide +kernel
theorem e_SG : (",:;-" : Str) = tx SG := by decide +kernel
theorem e_SM : ("abcdefghijklmnopqrstuvwxyz" : Str) = tx SM := by decide +kernel
theorem e_FG : ("0123456789" : Str) = tx FG := by decide +kernel
theorem dj1 {c : Nat} (h : c ∈ SG) : c ∉ BL := (by decide : ∀ c ∈ SG, c ∉ BL) c h
theorem dj2 {c : Nat} (h : c ∈ AN) : c ∉ BL := (by decide : ∀ c ∈ AN, c ∉ BL) c h
theorem dj3 {c : Nat} (h : c ∈ AN) : c ∉ SG := (by decide : ∀ c ∈ AN, c ∉ SG) c h
theorem dj4 {c : Nat} (h : c ∈ BL) : c ∉ AN := (by decide : ∀ c ∈ BL, c ∉ AN) c h
theorem dj5 {c : Nat} (h : c ∈ SG) : c ∉ AN := (by decide : ∀ c ∈ SG, c ∉ AN) c h
/-- the run behind place p -/
def rb (P T : List Nat) (p : Nat) : Nat := p + ((T.drop p).takeWhile fun c => decide (c ∈ P)).length
theorem drop_cons {T : List Nat} {p : Nat} (h : p < T.length) : T.drop p = T[p] :: T.drop (p + 1) := by
  rw [List.drop_eq_getElem_cons h]
theorem rb_in {P T : List Nat} {p : Nat} (h : p < T.length) (hc : T[p] ∈ P) : rb P T p = rb P T (p + 1) := by
  unfold rb
  rw [drop_cons h, List.takeWhile_cons, if_pos (by simpa using hc)]
  simp
  omega
theorem rb_out {P T : List Nat} {p : Nat} (h : p < T.length) (hc : T[p] ∉ P) : rb P T p = p := by
  unfold rb
  rw [drop_cons h, List.takeWhile_cons, if_neg (by simpa using hc)]
  simp
theorem rb_end {P T : List Nat} {p : Nat} (h : T.length ≤ p) : rb P T p = p := by
  unfold rb
  rw [List.drop_eq_nil_of_le h]
  simp
theorem rb_ge (P T : List Nat) (p : Nat) : p ≤ rb P T p := by unfold rb; omega
theorem rb_le {P T : List Nat} {p : Nat} (h : p ≤ T.length) : rb P T p ≤ T.length := by
  unfold rb
  have := (List.takeWhile_sublist (l := T.drop p) fun c => decide (c ∈ P)).length_le
  rw [List.length_drop] at this
  omega
theorem rb_at {P T : List Nat} : ∀ (n p : Nat), p + n = T.length → (rb P T p < T.length → ∀ h, (T[rb P T p]'h) ∉ P)
  | 0, p, e, hlt, h => by rw [rb_end (by omega)] at hlt; omega
  | n + 1, p, e, hlt, h => by
    have hp : p < T.length := by omega
    by_cases hc : T[p] ∈ P
    · have e2 := rb_in hp hc
      have := rb_at n (p + 1) (by omega) (e2 ▸ hlt)
      intro z
      exact this (by rw [← e2]; exact h) (by simpa [← e2] using z)
    · have e2 := rb_out hp hc
      intro z
      exact hc (by simpa [e2] using z)
theorem rb_mem {P T : List Nat} : ∀ (n p : Nat), p + n = T.length → ∀ j, p ≤ j → j < rb P T p → ∃ h : j < T.length, T[j] ∈ P
  | 0, p, e, j, h1, h2 => by rw [rb_end (by omega)] at h2; omega
  | n + 1, p, e, j, h1, h2 => by
    have hp : p < T.length := by omega
    by_cases hc : T[p] ∈ P
    · rw [rb_in hp hc] at h2
      by_cases hj : j = p
      · subst hj; exact ⟨hp, hc⟩
      · exact rb_mem n (p + 1) (by omega) j (by omega) h2
    · rw [rb_out hp hc] at h2
      omega
/-- the run's end by what stands there -/
theorem rb_eq {P T : List Nat} {q : Nat} : ∀ (n p : Nat), p + n = q → q ≤ T.length → (∀ j (h : j < T.length), p ≤ j → j < q → T[j] ∈ P) → (∀ h : q < T.length, T[q] ∉ P) → rb P T p = q
  | 0, p, e, hq, h1, h2 => by
    have : p = q := by omega
    subst this
    by_cases h : p < T.length
    · exact rb_out h (h2 h)
    · exact rb_end (by omega)
  | n + 1, p, e, hq, h1, h2 => by
    have hp : p < T.length := by omega
    rw [rb_in hp (h1 p hp (Nat.le_refl _) (by omega))]
    exact rb_eq n (p + 1) (by omega) hq (fun j h a b => h1 j h (by omega) b) h2
/-! ### lexemes -/
inductive Kd where
  | fin
  | sign
  | word
  | bad
def Kd.txt : Kd → Str
  | fin => "end"
  | sign => "sign"
  | word => "word"
  | bad => "wrong"
structure Lm where
  k : Kd
  t : List Nat
  at' : Nat
def Lm.d (l : Lm) : D := .tuple [.str l.k.txt, .str (tx l.t), .int (l.at' : Int)]
def lf (T : List Nat) (p : Nat) : Lm :=
  let q := rb BL T p
  if h : q < T.length then
    if T[q] ∈ SG then ⟨.sign, [T[q]], q⟩
    else
      let e := rb AN T q
      if q < e then ⟨.word, (T.drop q).take (e - q), q⟩ else ⟨.bad, [], q⟩
  else ⟨.fin, [], q⟩
theorem lf_skip {T : List Nat} {p : Nat} (h : p < T.length) (hc : T[p] ∈ BL) : lf T p = lf T (p + 1) := by
  unfold lf
  rw [rb_in h hc]
inductive Scan (T : List Nat) : Nat → List Lm → Option Nat → Prop
  | fin {p : Nat} : (lf T p).k = .fin → Scan T p [] none
  | bad {p : Nat} : (lf T p).k = .bad → Scan T p [] (some (lf T p).at')
  | tok {p : Nat} {l : Lm} {ls : List Lm} {r : Option Nat} : lf T p = l → (l.k = .sign ∨ l.k = .word) → p ≤ l.at' → 0 < l.t.length → l.at' + l.t.length ≤ T.length → Scan T (l.at' + l.t.length) ls r → Scan T p (l :: ls) r
theorem Scan.skip {T : List Nat} {p : Nat} {ls : List Lm} {r : Option Nat} (h : p < T.length) (hc : T[p] ∈ BL) (s : Scan T (p + 1) ls r) : Scan T p ls r := by
  have e := lf_skip h hc
  cases s with
  | fin a => exact .fin (e ▸ a)
  | bad a => rw [← e] at a ⊢; exact .bad a
  | tok a b c d f g => exact .tok (e.trans a) b (by omega) d f g
theorem Scan.skips {T : List Nat} {ls : List Lm} {r : Option Nat} : ∀ (n p : Nat), p + n ≤ T.length → (∀ j (h : j < T.length), p ≤ j → j < p + n → T[j] ∈ BL) → Scan T (p + n) ls r → Scan T p ls r
  | 0, p, _, _, s => s
  | n + 1, p, h, hb, s => .skip (by omega) (hb p (by omega) (Nat.le_refl _) (by omega)) (Scan.skips n (p + 1) (by omega) (fun j h a b => hb j h (by omega) (by omega)) (by rwa [show p + 1 + n = p + (n + 1) by omega]))
theorem Scan.few {T : List Nat} {p : Nat} {ls : List Lm} {r : Option Nat} (s : Scan T p ls r) (h : p ≤ T.length) : ls.length + p ≤ T.length := by
  induction s with
  | fin _ => simpa using h
  | bad _ => simpa using h
  | tok a b c d f g ih =>
    have := ih f
    simp only [List.length_cons]
    omega
/-! ### a wrong sign -/
theorem lf_sign {T : List Nat} {p : Nat} (h : p < T.length) (hc : T[p] ∈ SG) : lf T p = ⟨.sign, [T[p]], p⟩ := by
  unfold lf
  have e := rb_out (P := BL) h (dj1 hc)
  simp only [e, h, hc, dif_pos, if_true]
theorem lf_word {T : List Nat} {p q : Nat} (h : p < q) (hq : q ≤ T.length) (hw : ∀ j (h : j < T.length), p ≤ j → j < q → T[j] ∈ AN) (he : ∀ h : q < T.length, T[q] ∉ AN) : lf T p = ⟨.word, (T.drop p).take (q - p), p⟩ := by
  have hp : p < T.length := by omega
  have hc := hw p hp (Nat.le_refl _) h
  unfold lf
  have e := rb_out (P := BL) hp (dj2 hc)
  have e2 : rb AN T p = q := rb_eq (q - p) p (by omega) hq hw he
  simp only [e, hp, dj3 hc, dif_pos, if_false, e2, h, if_true]
theorem wrong_scan {T : List Nat} {w : Nat} (hw : w < T.length) (hb : T[w] ∉ BL) (hs : T[w] ∉ SG) (ha : T[w] ∉ AN) : ∀ (n p : Nat), p + n = w → (∀ j (h : j < T.length), p ≤ j → j < w → T[j] ∈ BL ∨ T[j] ∈ SG ∨ T[j] ∈ AN) → ∃ ls, Scan T p ls (some w) := by
  intro n
  induction n using Nat.strongRecOn with
  | ind n ih =>
    intro p e hl
    by_cases hp : p = w
    · subst hp
      have e1 : lf T p = ⟨.bad, [], p⟩ := by
        unfold lf
        simp only [rb_out hw hb, rb_out hw ha, hw, hs, dif_pos, if_false, Nat.lt_irrefl]
      refine ⟨[], ?_⟩
      have := Scan.bad (T := T) (p := p) (by rw [e1])
      rwa [e1] at this
    · have hpt : p < T.length := by omega
      rcases hl p hpt (Nat.le_refl _) (by omega) with hc | hc | hc
      · obtain ⟨ls, s⟩ := ih (n - 1) (by omega) (p + 1) (by omega) fun j h a b => hl j h (by omega) b
        exact ⟨ls, .skip hpt hc s⟩
      · obtain ⟨ls, s⟩ := ih (n - 1) (by omega) (p + 1) (by omega) fun j h a b => hl j h (by omega) b
        exact ⟨_, .tok (lf_sign hpt hc) (.inl rfl) (Nat.le_refl _) (by simp) (by simp; omega) (by simpa using s)⟩
      · have q1 := rb_ge AN T p
        have q2 := rb_le (P := AN) (T := T) (p := p) (by omega)
        have q3 : p < rb AN T p := by rw [rb_in hpt hc]; exact rb_ge AN T (p + 1)
        have q4 : rb AN T p ≤ w := by
          apply Nat.le_of_not_lt
          intro z
          obtain ⟨_, q⟩ := rb_mem (T.length - p) p (by omega) w (by omega) z
          exact ha q
        obtain ⟨ls, s⟩ := ih (w - rb AN T p) (by omega) (rb AN T p) (by omega) fun j h a b => hl j h (by omega) b
        have ew := lf_word (T := T) (p := p) (q := rb AN T p) q3 q2 (fun j h a b => (rb_mem (T.length - p) p (by omega) j a b).2) (fun h => rb_at (T.length - p) p (by omega) h h)
        have el : ((T.drop p).take (rb AN T p - p)).length = rb AN T p - p := by
          rw [List.length_take, List.length_drop]
          omega
        refine ⟨(⟨.word, (T.drop p).take (rb AN T p - p), p⟩ : Lm) :: ls, .tok ew (.inr rfl) (Nat.le_refl _) (by rw [el]; omega) (by rw [el]; show p + _ ≤ _; omega) ?_⟩
        show Scan T (p + ((T.drop p).take (rb AN T p - p)).length) _ _
        rw [el, show p + (rb AN T p - p) = rb AN T p by omega]
        exact s
end Lx
end Pw
set_option Elab.async false
set_option linter.all false
set_option maxRecDepth 100000
namespace Pw
namespace Lx
open PySem PySem.Spec PyProof.Rows L2
def Legal (c : Nat) : Prop := c ∈ BL ∨ c ∈ SG ∨ c ∈ AN
/-- a line as it is drawn: the text, what was put into it; o: a word stands at its end -/
structure LI (o : Bool) (t : List Nat) (fs : List Lm) : Prop where
  legal : ∀ c ∈ t, Legal c
  good : ∀ u ls r, (o = true → ∀ c u', u = c :: u' → c ∉ AN) → Scan (t ++ u) t.length ls r → Scan (t ++ u) 0 (fs ++ ls) r
  kind : ∀ l ∈ fs, l.k = .sign ∨ l.k = .word
  opn : o = true → ∃ fs' l t' c, fs = fs' ++ [l] ∧ l.k = .word ∧ t = t' ++ [c] ∧ c ∉ BL
  ne : fs ≠ [] → t ≠ []
  short : ∀ l ∈ fs, l.t.length ≤ 45 ∧ ∀ c ∈ l.t, Legal c
  at' : ∀ l ∈ fs, l.at' ≤ t.length
theorem bl_at {t g u : List Nat} (hg : ∀ c ∈ g, c ∈ BL) (j : Nat) (h : j < (t ++ (g ++ u)).length) (h1 : t.length ≤ j) (h2 : j < t.length + g.length) : (t ++ (g ++ u))[j] ∈ BL := by
  rw [List.getElem_append_right h1, List.getElem_append_left (by omega)]
  exact hg _ (List.getElem_mem _)
theorem LI.start {g : List Nat} (hg : ∀ c ∈ g, c ∈ BL) : LI false g [] where
  legal c h := .inl (hg c h)
  good u ls r _ s := by
    have : Scan (g ++ u) (0 + g.length) ls r := by simpa using s
    exact Scan.skips g.length 0 (by simp) (fun j h a b => by
      rw [List.getElem_append_left (by omega)]
      exact hg _ (List.getElem_mem _)) this
  kind l h := by simp at h
  opn h := by cases h
  ne h := absurd rfl h
  short l h := by simp at h
  at' l h := by simp at h
theorem LI.gap {o : Bool} {t : List Nat} {fs : List Lm} (I : LI o t fs) {g : List Nat} (hg : ∀ c ∈ g, c ∈ BL) (h0 : g ≠ []) : LI false (t ++ g) fs where
  legal c h := (List.mem_append.mp h).elim (I.legal c) fun h => .inl (hg c h)
  good u ls r _ s := by
    rw [List.append_assoc] at s ⊢
    rw [List.length_append] at s
    refine I.good (g ++ u) ls r (fun _ c u' e => ?_) (Scan.skips g.length t.length (by simp) (fun j h a b => bl_at hg j h a b) s)
    cases g with
    | nil => exact absurd rfl h0
    | cons x g =>
      simp at e
      exact e.1 ▸ dj4 (hg x (by simp))
  kind := I.kind
  opn h := by cases h
  ne h z := by simp at z; exact I.ne h z.1
  short := I.short
  at' l h := by have := I.at' l h; simp; omega
theorem LI.shut {o : Bool} {t : List Nat} {fs : List Lm} (I : LI o t fs) (h : o = false) : LI false t fs := h ▸ I
theorem LI.sign {o : Bool} {t : List Nat} {fs : List Lm} (I : LI o t fs) {s : Nat} (hs : s ∈ SG) : LI false (t ++ [s]) (fs ++ [⟨.sign, [s], t.length⟩]) where
  legal c h := (List.mem_append.mp h).elim (I.legal c) fun h => by simp at h; exact .inr (.inl (h ▸ hs))
  good u ls r _ s' := by
    have e1 : (t ++ [s]) ++ u = t ++ (s :: u) := by simp
    rw [e1] at s' ⊢
    have hlt : t.length < (t ++ s :: u).length := by simp
    have hat : (t ++ s :: u)[t.length] = s := by rw [List.getElem_append_right (Nat.le_refl _)]; simp
    have el := lf_sign (T := t ++ s :: u) (p := t.length) hlt (by rw [hat]; exact hs)
    rw [hat] at el
    rw [List.append_assoc]
    refine I.good (s :: u) _ r (fun _ c u' e => ?_) (.tok el (.inl rfl) (Nat.le_refl _) (by simp) (by simp) (by simpa using s'))
    simp at e
    exact e.1 ▸ dj5 hs
  kind l h := (List.mem_append.mp h).elim (I.kind l) fun h => by simp at h; subst h; exact .inl rfl
  opn h := by cases h
  ne _ z := by simp at z
  short l h := (List.mem_append.mp h).elim (I.short l) fun h => by
    simp at h; subst h
    exact ⟨by simp, fun c hc => by simp at hc; exact .inr (.inl (hc ▸ hs))⟩
  at' l h := (List.mem_append.mp h).elim (fun h => by have := I.at' l h; simp; omega) fun h => by simp at h; subst h; simp
theorem LI.word {t : List Nat} {fs : List Lm} (I : LI false t fs) {w : List Nat} (h0 : w ≠ []) (hl : w.length ≤ 45) (hw : ∀ c ∈ w, c ∈ AN) : LI true (t ++ w) (fs ++ [⟨.word, w, t.length⟩]) where
  legal c h := (List.mem_append.mp h).elim (I.legal c) fun h => .inr (.inr (hw c h))
  good u ls r hu s' := by
    rw [List.append_assoc] at s' ⊢
    have hw0 : 0 < w.length := List.length_pos_iff.mpr h0
    have el := lf_word (T := t ++ (w ++ u)) (p := t.length) (q := t.length + w.length) (by omega) (by simp) (fun j h a b => by
      rw [List.getElem_append_right a, List.getElem_append_left (by omega)]
      exact hw _ (List.getElem_mem _)) fun h => by
      rw [List.getElem_append_right (by omega), List.getElem_append_right (by omega)]
      cases u with
      | nil => simp at h
      | cons x u =>
        have := hu rfl x u rfl
        have e : t.length + w.length - t.length - w.length = 0 := by omega
        simpa [e] using this
    have e2 : ((t ++ (w ++ u)).drop t.length).take (t.length + w.length - t.length) = w := by
      rw [List.drop_left, Nat.add_sub_cancel_left, List.take_left]
    rw [e2] at el
    rw [List.append_assoc]
    exact I.good (w ++ u) _ r (fun h => by cases h) (.tok el (.inr rfl) (Nat.le_refl _) hw0 (by simp) (by simpa using s'))
  kind l h := (List.mem_append.mp h).elim (I.kind l) fun h => by simp at h; subst h; exact .inr rfl
  opn _ := ⟨fs, _, t ++ w.dropLast, w.getLast h0, rfl, rfl, by rw [List.append_assoc, List.dropLast_concat_getLast], dj2 (hw _ (List.getLast_mem h0))⟩
  ne _ z := by simp at z; exact h0 z.2
  short l h := (List.mem_append.mp h).elim (I.short l) fun h => by
    simp at h; subst h
    exact ⟨hl, fun c hc => .inr (.inr (hw c hc))⟩
  at' l h := (List.mem_append.mp h).elim (fun h => by have := I.at' l h; simp; omega) fun h => by simp at h; subst h; simp
theorem LI.scan {o : Bool} {t : List Nat} {fs : List Lm} (I : LI o t fs) : Scan t 0 fs none := by
  have e : (lf t t.length).k = .fin := by
    unfold lf
    rw [dif_neg (by rw [rb_end (Nat.le_refl _)]; exact Nat.lt_irrefl _)]
  have := I.good [] [] none (fun _ c u' z => by simp at z) (by rw [List.append_nil]; exact .fin e)
  simpa using this
theorem LI.wrong {o : Bool} {t : List Nat} {fs : List Lm} (I : LI o t fs) {p w : Nat} (hp : p ≤ t.length) (h1 : w ∉ BL) (h2 : w ∉ SG) (h3 : w ∉ AN) (j : List Nat) : ∃ ls, Scan (t.take p ++ [w] ++ t.drop p ++ j) 0 ls (some p) := by
  have hlen : (t.take p).length = p := by rw [List.length_take]; omega
  have e0 : t.take p ++ [w] ++ t.drop p ++ j = t.take p ++ (w :: (t.drop p ++ j)) := by simp
  rw [e0]
  have hlt : p < (t.take p ++ (w :: (t.drop p ++ j))).length := by rw [List.length_append, hlen]; simp
  have hat : (t.take p ++ (w :: (t.drop p ++ j)))[p] = w := by
    rw [List.getElem_append_right (by omega)]
    simp [hlen]
  refine wrong_scan hlt (by rw [hat]; exact h1) (by rw [hat]; exact h2) (by rw [hat]; exact h3) p 0 (by omega) fun i h _ b => ?_
  rw [List.getElem_append_left (by omega)]
  exact I.legal _ (List.mem_of_mem_take (List.getElem_mem _))
end Lx
end Pw
set_option Elab.async false
set_option linter.all false
set_option maxRecDepth 100000
namespace Pw
namespace Law
open PySem PySem.Spec PyProof.Rows L2 Pw.Lx
/-! ### run_behind -/
abbrev rS (T P : List Nat) (p : Nat) (src : Option Src) : S := ⟨[some (.sh (.str (tx T))), some (.sh (.int (p : Int))), some (.sh (.str (tx P)))], src⟩
theorem while_step {c : Tt} {m : Sm} {n : Nat} {s s1 s2 : S} (h1 : c s = .ok true s1) (h2 : m s1 = .ok .nx s2) : whileL c m (n + 1) s = whileL c m n s2 := by
  show (c s).bind _ = _
  rw [h1]
  show (m s1).bind _ = _
  rw [h2]
  rfl
theorem while_end {c : Tt} {m : Sm} {n : Nat} {s s1 : S} (h1 : c s = .ok false s1) : whileL c m (n + 1) s = .ok .nx s1 := by
  show (c s).bind _ = _
  rw [h1]
  rfl
theorem while_exc {c : Tt} {m : Sm} {n : Nat} {s s1 s2 : S} {x : Ex} (h1 : c s = .ok true s1) (h2 : m s1 = .exc x s2) : whileL c m (n + 1) s = .exc x s2 := by
  show (c s).bind _ = _
  rw [h1]
  show (m s1).bind _ = _
  rw [h2]
  rfl
theorem rb_c0 {T P : List Nat} (hl : T.length ≤ 1000000) {p : Nat} (h : ¬ p < T.length) (src : Option Src) : c_run_behind_0 (rS T P p src) = .ok false (rS T P p src) := by
  have e1 := t_len hl
  have e2 : ¬ (p : Int) < (T.length : Int) := by omega
  simp only [c_run_behind_0, cSeq, cSkip, cAsg, cRet, cExpr, cIfS, cFor, cPar, cAug, cSetIx, cBinE, cBinV, cCall1, cCallN, cCall, cIt, cRangeC1, cRangeC2, cEnum, cZip, cTup, cLst, cNil, cCons, cConsR, cStar, cD, cVar, cVarV, vE, cT, cAnd, cOr, cNot, cAndV, cOrV, cNotV, cIf, cChain, cSlE2, cSlV2, bnd, cRev2, cNeg, cBits, cMeth, gNm, gTp, gsCons, gsNil, setMany, datAt, SV.dat, SV.settle, datas, fnsOf, cTupF, cFn, okA, tyD, bnd_ok, bnd_exc, opt_some, quiet_ok, shs_cons, shs_nil, itemsOf, Option.map_some, Option.bind_some, Option.map_none, Option.bind_none, padS, List.map_cons, List.map_nil, List.length_cons, List.length_nil, Nat.reduceAdd, Nat.reduceSub, List.replicate_succ, List.replicate_zero, List.cons_append, List.nil_append, List.getElem?_cons_zero, List.getElem?_cons_succ, List.set_cons_zero, List.set_cons_succ, if_true, if_false, Bool.false_eq_true, dGt, dLt, dLe2, dGe2, dOrd, dOrdI, dAddI, dSub, decide_eq_true_eq, Bool.not_eq_true', decide_eq_false_iff_not, sizeLine_eq, Nat.reduceLeDiff, Nat.zero_le, Nat.reduceLT, Nat.reducePow, beq_self_eq_true, id_eq, rS, e1, e2, decide_false]
theorem rb_c1 {T P : List Nat} (hl : T.length ≤ 1000000) {p : Nat} (h : p < T.length) (src : Option Src) : c_run_behind_0 (rS T P p src) = .ok (decide (T[p] ∈ P)) (rS T P p src) := by
  have e1 := t_len hl
  have e2 : (p : Int) < (T.length : Int) := by omega
  have e3 := t_at hl h
  have e4 := t_in T[p] P
  simp only [c_run_behind_0, cSeq, cSkip, cAsg, cRet, cExpr, cIfS, cFor, cPar, cAug, cSetIx, cBinE, cBinV, cCall1, cCallN, cCall, cIt, cRangeC1, cRangeC2, cEnum, cZip, cTup, cLst, cNil, cCons, cConsR, cStar, cD, cVar, cVarV, vE, cT, cAnd, cOr, cNot, cAndV, cOrV, cNotV, cIf, cChain, cSlE2, cSlV2, bnd, cRev2, cNeg, cBits, cMeth, gNm, gTp, gsCons, gsNil, setMany, datAt, SV.dat, SV.settle, datas, fnsOf, cTupF, cFn, okA, tyD, bnd_ok, bnd_exc, opt_some, quiet_ok, shs_cons, shs_nil, itemsOf, Option.map_some, Option.bind_some, Option.map_none, Option.bind_none, padS, List.map_cons, List.map_nil, List.length_cons, List.length_nil, Nat.reduceAdd, Nat.reduceSub, List.replicate_succ, List.replicate_zero, List.cons_append, List.nil_append, List.getElem?_cons_zero, List.getElem?_cons_succ, List.set_cons_zero, List.set_cons_succ, if_true, if_false, Bool.false_eq_true, dGt, dLt, dLe2, dGe2, dOrd, dOrdI, dAddI, dSub, decide_eq_true_eq, Bool.not_eq_true', decide_eq_false_iff_not, sizeLine_eq, Nat.reduceLeDiff, Nat.zero_le, Nat.reduceLT, Nat.reducePow, beq_self_eq_true, id_eq, rS, e1, e2, decide_true, e3, e4]
theorem rb_b {T P : List Nat} {p : Nat} (src : Option Src) : b_run_behind_1 (rS T P p src) = .ok .nx (rS T P (p + 1) src) := by
  have e1 : ((p + 1 : Nat) : Int) = (p : Int) + 1 := by omega
  simp only [b_run_behind_1, cSeq, cSkip, cAsg, cRet, cExpr, cIfS, cFor, cPar, cAug, cSetIx, cBinE, cBinV, cCall1, cCallN, cCall, cIt, cRangeC1, cRangeC2, cEnum, cZip, cTup, cLst, cNil, cCons, cConsR, cStar, cD, cVar, cVarV, vE, cT, cAnd, cOr, cNot, cAndV, cOrV, cNotV, cIf, cChain, cSlE2, cSlV2, bnd, cRev2, cNeg, cBits, cMeth, gNm, gTp, gsCons, gsNil, setMany, datAt, SV.dat, SV.settle, datas, fnsOf, cTupF, cFn, okA, tyD, bnd_ok, bnd_exc, opt_some, quiet_ok, shs_cons, shs_nil, itemsOf, Option.map_some, Option.bind_some, Option.map_none, Option.bind_none, padS, List.map_cons, List.map_nil, List.length_cons, List.length_nil, Nat.reduceAdd, Nat.reduceSub, List.replicate_succ, List.replicate_zero, List.cons_append, List.nil_append, List.getElem?_cons_zero, List.getElem?_cons_succ, List.set_cons_zero, List.set_cons_succ, if_true, if_false, Bool.false_eq_true, dGt, dLt, dLe2, dGe2, dOrd, dOrdI, dAddI, dSub, decide_eq_true_eq, Bool.not_eq_true', decide_eq_false_iff_not, sizeLine_eq, Nat.reduceLeDiff, Nat.zero_le, Nat.reduceLT, Nat.reducePow, beq_self_eq_true, id_eq, rS, e1]
theorem rb_while {T P : List Nat} (hl : T.length ≤ 1000000) (src : Option Src) : ∀ (n p f : Nat), T.length - p = n → n < f → whileL c_run_behind_0 b_run_behind_1 f (rS T P p src) = .ok .nx (rS T P (rb P T p) src)
  | 0, p, f, e, h => by
    obtain ⟨f, rfl⟩ : ∃ g, f = g + 1 := ⟨f - 1, by omega⟩
    rw [while_end (rb_c0 hl (by omega) src), rb_end (by omega)]
  | n + 1, p, f, e, h => by
    obtain ⟨f, rfl⟩ : ∃ g, f = g + 1 := ⟨f - 1, by omega⟩
    have hp : p < T.length := by omega
    have hc := rb_c1 (P := P) hl hp src
    by_cases z : T[p] ∈ P
    · rw [decide_eq_true z] at hc
      rw [while_step hc (rb_b src), rb_while hl src n (p + 1) f (by omega) (by omega), rb_in hp z]
    · rw [decide_eq_false z] at hc
      rw [while_end hc, rb_out hp z]
theorem rb_ok {T P : List Nat} (hl : T.length ≤ 1000000) (p : Nat) : Rets F_run_behind [.sh (.str (tx T)), .sh (.int (p : Int)), .sh (.str (tx P))] (.sh (.int (rb P T p : Int))) := rets_of fun src => by
  have e : cWhile c_run_behind_0 b_run_behind_1 (rS T P p src) = .ok .nx (rS T P (rb P T p) src) := rb_while hl src _ p FUEL rfl (by unfold FUEL; omega)
  refine ⟨(rS T P (rb P T p) src).sl, ?_⟩
  exact seq_nx e rfl
/-! ### lexeme_from -/
theorem e_AN : dAdd (.str "abcdefghijklmnopqrstuvwxyz") (.str "0123456789") = some (.sh (.str (tx AN))) := by
  rw [e_SM, e_FG]
  exact t_add (by decide)
theorem lf_ok {T : List Nat} (hl : T.length ≤ 1000000) {p : Nat} (hp : p ≤ T.length) : Rets F_lexeme_from [.sh (.str (tx T)), .sh (.int (p : Int))] (.sh (lf T p).d) := rets_of fun src => by
  have e1 := (rb_ok (P := BL) hl p).app (n := 3)
  have q2 := rb_le (P := BL) hp
  generalize eq : rb BL T p = q at e1 q2
  have e2 := (rb_ok (P := AN) hl q).app (n := 3)
  have e3 := t_len hl
  have e4 := e_AN
  simp only [App] at e1 e2
  rw [← e_BL] at e1
  by_cases hq : q < T.length
  · have d1 : dEq (.int (q : Int)) (.int (T.length : Int)) = some (.sh (.bool false)) := by
      rw [dEq_int, decide_eq_false (by omega)]
    have e5 := t_at hl hq
    have e6 := t_in T[q] SG
    rw [← e_SG] at e6
    by_cases hs : T[q] ∈ SG
    · have el : lf T p = ⟨.sign, [T[q]], q⟩ := by
        unfold lf
        simp only [eq, hq, hs, dif_pos, if_true]
      rw [decide_eq_true hs] at e6
      refine ⟨[some (.sh (.str (tx T))), some (.sh (.int (q : Int))), none], ?_⟩
      rw [el]
      simp only [m_lexeme_from, cSeq, cSkip, cAsg, cRet, cExpr, cIfS, cFor, cPar, cAug, cSetIx, cBinE, cBinV, cCall1, cCallN, cCall, cIt, cRangeC1, cRangeC2, cEnum, cZip, cTup, cLst, cNil, cCons, cConsR, cStar, cD, cVar, cVarV, vE, cT, cAnd, cOr, cNot, cAndV, cOrV, cNotV, cIf, cChain, cSlE2, cSlV2, bnd, cRev2, cNeg, cBits, cMeth, gNm, gTp, gsCons, gsNil, setMany, datAt, SV.dat, SV.settle, datas, fnsOf, cTupF, cFn, okA, tyD, bnd_ok, bnd_exc, opt_some, quiet_ok, shs_cons, shs_nil, itemsOf, Option.map_some, Option.bind_some, Option.map_none, Option.bind_none, padS, List.map_cons, List.map_nil, List.length_cons, List.length_nil, Nat.reduceAdd, Nat.reduceSub, List.replicate_succ, List.replicate_zero, List.cons_append, List.nil_append, List.getElem?_cons_zero, List.getElem?_cons_succ, List.set_cons_zero, List.set_cons_succ, if_true, if_false, Bool.false_eq_true, dGt, dLt, dLe2, dGe2, dOrd, dOrdI, dAddI, dSub, decide_eq_true_eq, Bool.not_eq_true', decide_eq_false_iff_not, sizeLine_eq, Nat.reduceLeDiff, Nat.zero_le, Nat.reduceLT, Nat.reducePow, beq_self_eq_true, id_eq, e1, e3, d1, e5, e6, dis_tup, Lm.d, Kd.txt]
    · rw [decide_eq_false hs] at e6
      have r1 := rb_ge AN T q
      have r2 := rb_le (P := AN) (T := T) (p := q) (by omega)
      by_cases he : q < rb AN T q
      · have el : lf T p = ⟨.word, (T.drop q).take (rb AN T q - q), q⟩ := by
          unfold lf
          simp only [eq, hq, hs, dif_pos, if_false, he, if_true]
        have e7 := t_cut hl r1 r2
        have e8 : (q : Int) < (rb AN T q : Int) := by omega
        refine ⟨[some (.sh (.str (tx T))), some (.sh (.int (q : Int))), some (.sh (.int (rb AN T q : Int)))], ?_⟩
        rw [el]
        simp only [m_lexeme_from, cSeq, cSkip, cAsg, cRet, cExpr, cIfS, cFor, cPar, cAug, cSetIx, cBinE, cBinV, cCall1, cCallN, cCall, cIt, cRangeC1, cRangeC2, cEnum, cZip, cTup, cLst, cNil, cCons, cConsR, cStar, cD, cVar, cVarV, vE, cT, cAnd, cOr, cNot, cAndV, cOrV, cNotV, cIf, cChain, cSlE2, cSlV2, bnd, cRev2, cNeg, cBits, cMeth, gNm, gTp, gsCons, gsNil, setMany, datAt, SV.dat, SV.settle, datas, fnsOf, cTupF, cFn, okA, tyD, bnd_ok, bnd_exc, opt_some, quiet_ok, shs_cons, shs_nil, itemsOf, Option.map_some, Option.bind_some, Option.map_none, Option.bind_none, padS, List.map_cons, List.map_nil, List.length_cons, List.length_nil, Nat.reduceAdd, Nat.reduceSub, List.replicate_succ, List.replicate_zero, List.cons_append, List.nil_append, List.getElem?_cons_zero, List.getElem?_cons_succ, List.set_cons_zero, List.set_cons_succ, if_true, if_false, Bool.false_eq_true, dGt, dLt, dLe2, dGe2, dOrd, dOrdI, dAddI, dSub, decide_eq_true_eq, Bool.not_eq_true', decide_eq_false_iff_not, sizeLine_eq, Nat.reduceLeDiff, Nat.zero_le, Nat.reduceLT, Nat.reducePow, beq_self_eq_true, id_eq, e1, e3, d1, e5, e6, e4, e2, e8, decide_true, e7, dis_tup, Lm.d, Kd.txt]
      · have el : lf T p = ⟨.bad, [], q⟩ := by
          unfold lf
          simp only [eq, hq, hs, dif_pos, if_false, he]
        have e8 : ¬ (q : Int) < (rb AN T q : Int) := by omega
        have e9 : tx [] = ("" : Str) := by decide +kernel
        refine ⟨[some (.sh (.str (tx T))), some (.sh (.int (q : Int))), some (.sh (.int (rb AN T q : Int)))], ?_⟩
        rw [el]
        simp only [m_lexeme_from, cSeq, cSkip, cAsg, cRet, cExpr, cIfS, cFor, cPar, cAug, cSetIx, cBinE, cBinV, cCall1, cCallN, cCall, cIt, cRangeC1, cRangeC2, cEnum, cZip, cTup, cLst, cNil, cCons, cConsR, cStar, cD, cVar, cVarV, vE, cT, cAnd, cOr, cNot, cAndV, cOrV, cNotV, cIf, cChain, cSlE2, cSlV2, bnd, cRev2, cNeg, cBits, cMeth, gNm, gTp, gsCons, gsNil, setMany, datAt, SV.dat, SV.settle, datas, fnsOf, cTupF, cFn, okA, tyD, bnd_ok, bnd_exc, opt_some, quiet_ok, shs_cons, shs_nil, itemsOf, Option.map_some, Option.bind_some, Option.map_none, Option.bind_none, padS, List.map_cons, List.map_nil, List.length_cons, List.length_nil, Nat.reduceAdd, Nat.reduceSub, List.replicate_succ, List.replicate_zero, List.cons_append, List.nil_append, List.getElem?_cons_zero, List.getElem?_cons_succ, List.set_cons_zero, List.set_cons_succ, if_true, if_false, Bool.false_eq_true, dGt, dLt, dLe2, dGe2, dOrd, dOrdI, dAddI, dSub, decide_eq_true_eq, Bool.not_eq_true', decide_eq_false_iff_not, sizeLine_eq, Nat.reduceLeDiff, Nat.zero_le, Nat.reduceLT, Nat.reducePow, beq_self_eq_true, id_eq, e1, e3, d1, e5, e6, e4, e2, e8, decide_false, dis_tup, Lm.d, Kd.txt, e9]
  · have hqq : q = T.length := by omega
    have d1 : dEq (.int (q : Int)) (.int (T.length : Int)) = some (.sh (.bool true)) := by
      rw [dEq_int, decide_eq_true (by omega)]
    have el : lf T p = ⟨.fin, [], q⟩ := by
      unfold lf
      simp only [eq, hq, dif_neg, not_false_eq_true]
    have e9 : tx [] = ("" : Str) := by decide +kernel
    refine ⟨[some (.sh (.str (tx T))), some (.sh (.int (q : Int))), none], ?_⟩
    rw [el]
    simp only [m_lexeme_from, cSeq, cSkip, cAsg, cRet, cExpr, cIfS, cFor, cPar, cAug, cSetIx, cBinE, cBinV, cCall1, cCallN, cCall, cIt, cRangeC1, cRangeC2, cEnum, cZip, cTup, cLst, cNil, cCons, cConsR, cStar, cD, cVar, cVarV, vE, cT, cAnd, cOr, cNot, cAndV, cOrV, cNotV, cIf, cChain, cSlE2, cSlV2, bnd, cRev2, cNeg, cBits, cMeth, gNm, gTp, gsCons, gsNil, setMany, datAt, SV.dat, SV.settle, datas, fnsOf, cTupF, cFn, okA, tyD, bnd_ok, bnd_exc, opt_some, quiet_ok, shs_cons, shs_nil, itemsOf, Option.map_some, Option.bind_some, Option.map_none, Option.bind_none, padS, List.map_cons, List.map_nil, List.length_cons, List.length_nil, Nat.reduceAdd, Nat.reduceSub, List.replicate_succ, List.replicate_zero, List.cons_append, List.nil_append, List.getElem?_cons_zero, List.getElem?_cons_succ, List.set_cons_zero, List.set_cons_succ, if_true, if_false, Bool.false_eq_true, dGt, dLt, dLe2, dGe2, dOrd, dOrdI, dAddI, dSub, decide_eq_true_eq, Bool.not_eq_true', decide_eq_false_iff_not, sizeLine_eq, Nat.reduceLeDiff, Nat.zero_le, Nat.reduceLT, Nat.reducePow, beq_self_eq_true, id_eq, e1, e3, d1, dis_tup, Lm.d, Kd.txt, e9]
end Law
end Pw
set_option Elab.async false
set_option linter.all false
set_option maxRecDepth 100000
namespace Pw
namespace Law
open PySem PySem.Spec PyProof.Rows L2 Pw.Lx
/-! ### lexemes -/
def badX (c : Addr) (p : Nat) : Ex := ⟨c, exFs ["place"] [.int (p : Int)]⟩
abbrev xS (T : List Nat) (acc : List Lm) (l : Lm) (src : Option Src) : S := ⟨[some (.sh (.str (tx T))), some (.own (.list (acc.map Lm.d))), some (.sh l.d)], src⟩
theorem k_end (k : Kd) : dNe (.str k.txt) (.str "end") = some (.sh (.bool (match k with | .fin => false | _ => true))) := by
  have h : (!decide (k.txt = "end")) = (match k with | .fin => false | _ => true) := by cases k <;> decide +kernel
  rw [dNe_str, h]
theorem k_bad (k : Kd) : dEq (.str k.txt) (.str "wrong") = some (.sh (.bool (match k with | .bad => true | _ => false))) := by
  have h : (decide (k.txt = "wrong")) = (match k with | .bad => true | _ => false) := by cases k <;> decide +kernel
  rw [dEq_str, h]
theorem lx_c (T : List Nat) (acc : List Lm) (l : Lm) (src : Option Src) : c_lexemes_0 (xS T acc l src) = .ok (match l.k with | .fin => false | _ => true) (xS T acc l src) := by
  have e1 : dIx l.d (.int 0) = some (.sh (.str l.k.txt)) := ix_t0 _ _
  have e2 := k_end l.k
  simp only [c_lexemes_0, cSeq, cSkip, cAsg, cRet, cExpr, cIfS, cFor, cPar, cAug, cSetIx, cBinE, cBinV, cCall1, cCallN, cCall, cIt, cRangeC1, cRangeC2, cEnum, cZip, cTup, cLst, cNil, cCons, cConsR, cStar, cD, cVar, cVarV, vE, cT, cAnd, cOr, cNot, cAndV, cOrV, cNotV, cIf, cChain, cSlE2, cSlV2, bnd, cRev2, cNeg, cBits, cMeth, gNm, gTp, gsCons, gsNil, setMany, datAt, SV.dat, SV.settle, datas, fnsOf, cTupF, cFn, okA, tyD, bnd_ok, bnd_exc, opt_some, quiet_ok, shs_cons, shs_nil, itemsOf, Option.map_some, Option.bind_some, Option.map_none, Option.bind_none, padS, List.map_cons, List.map_nil, List.length_cons, List.length_nil, Nat.reduceAdd, Nat.reduceSub, List.replicate_succ, List.replicate_zero, List.cons_append, List.nil_append, List.getElem?_cons_zero, List.getElem?_cons_succ, List.set_cons_zero, List.set_cons_succ, if_true, if_false, Bool.false_eq_true, dGt, dLt, dLe2, dGe2, dOrd, dOrdI, dAddI, dSub, decide_eq_true_eq, Bool.not_eq_true', decide_eq_false_iff_not, sizeLine_eq, Nat.reduceLeDiff, Nat.zero_le, Nat.reduceLT, Nat.reducePow, beq_self_eq_true, id_eq, xS, e1, e2]
theorem lx_bad (c : Addr) (T : List Nat) (acc : List Lm) (l : Lm) (h : l.k = .bad) (src : Option Src) : b_lexemes_1 c (xS T acc l src) = .exc (badX c l.at') (xS T acc l src) := by
  have e1 : dIx l.d (.int 0) = some (.sh (.str l.k.txt)) := ix_t0 _ _
  have e2 := k_bad l.k
  have e3 : dIx l.d (.int 2) = some (.sh (.int (l.at' : Int))) := ix_t2 _ _ _ _
  rw [h] at e2
  simp only [b_lexemes_1, cSeq, cSkip, cAsg, cRet, cExpr, cIfS, cFor, cPar, cAug, cSetIx, cBinE, cBinV, cCall1, cCallN, cCall, cIt, cRangeC1, cRangeC2, cEnum, cZip, cTup, cLst, cNil, cCons, cConsR, cStar, cD, cVar, cVarV, vE, cT, cAnd, cOr, cNot, cAndV, cOrV, cNotV, cIf, cChain, cSlE2, cSlV2, bnd, cRev2, cNeg, cBits, cMeth, gNm, gTp, gsCons, gsNil, setMany, datAt, SV.dat, SV.settle, datas, fnsOf, cTupF, cFn, okA, tyD, bnd_ok, bnd_exc, opt_some, quiet_ok, shs_cons, shs_nil, itemsOf, Option.map_some, Option.bind_some, Option.map_none, Option.bind_none, padS, List.map_cons, List.map_nil, List.length_cons, List.length_nil, Nat.reduceAdd, Nat.reduceSub, List.replicate_succ, List.replicate_zero, List.cons_append, List.nil_append, List.getElem?_cons_zero, List.getElem?_cons_succ, List.set_cons_zero, List.set_cons_succ, if_true, if_false, Bool.false_eq_true, dGt, dLt, dLe2, dGe2, dOrd, dOrdI, dAddI, dSub, decide_eq_true_eq, Bool.not_eq_true', decide_eq_false_iff_not, sizeLine_eq, Nat.reduceLeDiff, Nat.zero_le, Nat.reduceLT, Nat.reducePow, beq_self_eq_true, id_eq, xS, e1, h, e2, e3, cRaise]
  rfl
theorem lx_tok (c : Addr) {T : List Nat} (hl : T.length ≤ 900000) (acc : List Lm) (l : Lm) (h : l.k = .sign ∨ l.k = .word) (ht : l.at' + l.t.length ≤ T.length) (ha : acc.length < 1000000) (src : Option Src) : b_lexemes_1 c (xS T acc l src) = .ok .nx (xS T (acc ++ [l]) (lf T (l.at' + l.t.length)) src) := by
  have e1 : dIx l.d (.int 0) = some (.sh (.str l.k.txt)) := ix_t0 _ _
  have e2 : dEq (.str l.k.txt) (.str "wrong") = some (.sh (.bool false)) := by
    rw [k_bad]
    rcases h with h | h <;> rw [h]
  have e3 : dIx l.d (.int 2) = some (.sh (.int (l.at' : Int))) := ix_t2 _ _ _ _
  have e4 : dIx l.d (.int 1) = some (.sh (.str (tx l.t))) := ix_t1 _ _ _
  have e5 := t_len (l := l.t) (by omega)
  have e6 := (lf_ok (T := T) (by omega) (p := l.at' + l.t.length) ht).app (n := 2)
  have e7 : ((l.at' + l.t.length : Nat) : Int) = (l.at' : Int) + (l.t.length : Int) := by omega
  have e8 := app_ok (xs := acc.map Lm.d) (x := l.d) (by simpa using ha)
  have e9 : acc.map Lm.d ++ [l.d] = (acc ++ [l]).map Lm.d := by simp
  simp only [App, e7] at e6
  simp only [b_lexemes_1, cSeq, cSkip, cAsg, cRet, cExpr, cIfS, cFor, cPar, cAug, cSetIx, cBinE, cBinV, cCall1, cCallN, cCall, cIt, cRangeC1, cRangeC2, cEnum, cZip, cTup, cLst, cNil, cCons, cConsR, cStar, cD, cVar, cVarV, vE, cT, cAnd, cOr, cNot, cAndV, cOrV, cNotV, cIf, cChain, cSlE2, cSlV2, bnd, cRev2, cNeg, cBits, cMeth, gNm, gTp, gsCons, gsNil, setMany, datAt, SV.dat, SV.settle, datas, fnsOf, cTupF, cFn, okA, tyD, bnd_ok, bnd_exc, opt_some, quiet_ok, shs_cons, shs_nil, itemsOf, Option.map_some, Option.bind_some, Option.map_none, Option.bind_none, padS, List.map_cons, List.map_nil, List.length_cons, List.length_nil, Nat.reduceAdd, Nat.reduceSub, List.replicate_succ, List.replicate_zero, List.cons_append, List.nil_append, List.getElem?_cons_zero, List.getElem?_cons_succ, List.set_cons_zero, List.set_cons_succ, if_true, if_false, Bool.false_eq_true, dGt, dLt, dLe2, dGe2, dOrd, dOrdI, dAddI, dSub, decide_eq_true_eq, Bool.not_eq_true', decide_eq_false_iff_not, sizeLine_eq, Nat.reduceLeDiff, Nat.zero_le, Nat.reduceLT, Nat.reducePow, beq_self_eq_true, id_eq, xS, e1, e2, e3, e4, e5, add_int, e6, e8, e9, tyD]
def endL (T : List Nat) : Lm → List Lm → Lm
  | l, [] => l
  | _, l :: ls => endL T (lf T (l.at' + l.t.length)) ls
def outL (c : Addr) (r : Option Nat) (s : S) : Res Fl := match r with
  | none => .ok .nx s
  | some w => .exc (badX c w) s
theorem lx_loop (c : Addr) {T : List Nat} (hl : T.length ≤ 900000) (src : Option Src) {p : Nat} {ls : List Lm} {r : Option Nat} (s : Scan T p ls r) : ∀ (acc : List Lm) (f : Nat), acc.length + ls.length < 1000000 → ls.length + 1 < f →
    whileL c_lexemes_0 (b_lexemes_1 c) f (xS T acc (lf T p) src) = outL c r (xS T (acc ++ ls) (endL T (lf T p) ls) src) := by
  induction s with
  | @fin p h =>
    intro acc f ha hf
    obtain ⟨f, rfl⟩ : ∃ g, f = g + 1 := ⟨f - 1, by omega⟩
    have hc := lx_c T acc (lf T p) src
    rw [h] at hc
    rw [while_end hc, List.append_nil]
    rfl
  | @bad p h =>
    intro acc f ha hf
    obtain ⟨f, rfl⟩ : ∃ g, f = g + 1 := ⟨f - 1, by omega⟩
    have hc := lx_c T acc (lf T p) src
    rw [h] at hc
    rw [while_exc hc (lx_bad c T acc _ h src), List.append_nil]
    rfl
  | @tok p l ls r e1 hk h1 h2 h3 _ ih =>
    intro acc f ha hf
    simp only [List.length_cons] at ha hf
    obtain ⟨f, rfl⟩ : ∃ g, f = g + 1 := ⟨f - 1, by omega⟩
    have hc := lx_c T acc l src
    have ht : (match l.k with | .fin => false | _ => true) = true := by rcases hk with h | h <;> rw [h]
    rw [ht] at hc
    rw [e1, while_step hc (lx_tok c hl acc l hk h3 (by omega) src), ih (acc ++ [l]) f (by simp; omega) (by omega), List.append_assoc, List.singleton_append]
    rfl
theorem lex_st {T : List Nat} (hl : T.length ≤ 900000) (src : Option Src) : cPar [1, 2] (cConsR (cLst cNil) (cConsR (cCall 2 F_lexeme_from (cCons (cVar 0) (cCons (cD (.int 0)) cNil))) cNil)) ⟨[some (.sh (.str (tx T))), none, none], src⟩ = .ok .nx (xS T [] (lf T 0) src) := by
  have e6 := (lf_ok (T := T) (by omega) (p := 0) (by omega)).app (n := 2)
  simp only [App] at e6
  have e7 : ((0 : Nat) : Int) = 0 := rfl
  rw [e7] at e6
  simp only [cSeq, cSkip, cAsg, cRet, cExpr, cIfS, cFor, cPar, cAug, cSetIx, cBinE, cBinV, cCall1, cCallN, cCall, cIt, cRangeC1, cRangeC2, cEnum, cZip, cTup, cLst, cNil, cCons, cConsR, cStar, cD, cVar, cVarV, vE, cT, cAnd, cOr, cNot, cAndV, cOrV, cNotV, cIf, cChain, cSlE2, cSlV2, bnd, cRev2, cNeg, cBits, cMeth, gNm, gTp, gsCons, gsNil, setMany, datAt, SV.dat, SV.settle, datas, fnsOf, cTupF, cFn, okA, tyD, bnd_ok, bnd_exc, opt_some, quiet_ok, shs_cons, shs_nil, itemsOf, Option.map_some, Option.bind_some, Option.map_none, Option.bind_none, padS, List.map_cons, List.map_nil, List.length_cons, List.length_nil, Nat.reduceAdd, Nat.reduceSub, List.replicate_succ, List.replicate_zero, List.cons_append, List.nil_append, List.getElem?_cons_zero, List.getElem?_cons_succ, List.set_cons_zero, List.set_cons_succ, if_true, if_false, Bool.false_eq_true, dGt, dLt, dLe2, dGe2, dOrd, dOrdI, dAddI, dSub, decide_eq_true_eq, Bool.not_eq_true', decide_eq_false_iff_not, sizeLine_eq, Nat.reduceLeDiff, Nat.zero_le, Nat.reduceLT, Nat.reducePow, beq_self_eq_true, id_eq, e6, xS]
theorem lex_ok (c : Addr) {T : List Nat} (hl : T.length ≤ 900000) {ls : List Lm} (s : Scan T 0 ls none) : Rets (F_lexemes c) [.sh (.str (tx T))] (.sh (.list (ls.map Lm.d))) := rets_of fun src => by
  have hf := s.few (by omega)
  have e1 := lx_loop c hl src s [] FUEL (by simp; omega) (by unfold FUEL; omega)
  rw [List.nil_append] at e1
  refine ⟨[some (.sh (.str (tx T))), some (.sh (.list (ls.map Lm.d))), some (.sh (endL T (lf T 0) ls).d)], seq_nx (lex_st hl src) (seq_nx e1 ?_)⟩
  rfl
theorem lex_no (c : Addr) {T : List Nat} (hl : T.length ≤ 900000) {ls : List Lm} {w : Nat} (s : Scan T 0 ls (some w)) : Excs (F_lexemes c) [.sh (.str (tx T))] (badX c w) := excs_of fun src => by
  have hf := s.few (by omega)
  have e1 := lx_loop c hl src s [] FUEL (by simp; omega) (by unfold FUEL; omega)
  exact ⟨(xS T ([] ++ ls) (endL T (lf T 0) ls) src).sl, seq_nx (lex_st hl src) (seq_exc e1)⟩
/-! ### _law_told -/
theorem told_ok (c : Addr) {T : List Nat} (hl : T.length ≤ 900000) {ls : List Lm} (s : Scan T 0 ls none) : Rets (F_law_told c) [.sh (.str (tx T))] (.sh (.tuple [.str "told", .list (ls.map Lm.d)])) := rets_of fun src => by
  have e1 := (lex_ok c hl s).app (n := 1)
  simp only [App] at e1
  refine ⟨[some (.sh (.str (tx T))), none], ?_⟩
  simp only [m_law_told, cTry, cSeq, cSkip, cAsg, cRet, cExpr, cIfS, cFor, cPar, cAug, cSetIx, cBinE, cBinV, cCall1, cCallN, cCall, cIt, cRangeC1, cRangeC2, cEnum, cZip, cTup, cLst, cNil, cCons, cConsR, cStar, cD, cVar, cVarV, vE, cT, cAnd, cOr, cNot, cAndV, cOrV, cNotV, cIf, cChain, cSlE2, cSlV2, bnd, cRev2, cNeg, cBits, cMeth, gNm, gTp, gsCons, gsNil, setMany, datAt, SV.dat, SV.settle, datas, fnsOf, cTupF, cFn, okA, tyD, bnd_ok, bnd_exc, opt_some, quiet_ok, shs_cons, shs_nil, itemsOf, Option.map_some, Option.bind_some, Option.map_none, Option.bind_none, padS, List.map_cons, List.map_nil, List.length_cons, List.length_nil, Nat.reduceAdd, Nat.reduceSub, List.replicate_succ, List.replicate_zero, List.cons_append, List.nil_append, List.getElem?_cons_zero, List.getElem?_cons_succ, List.set_cons_zero, List.set_cons_succ, if_true, if_false, Bool.false_eq_true, dGt, dLt, dLe2, dGe2, dOrd, dOrdI, dAddI, dSub, decide_eq_true_eq, Bool.not_eq_true', decide_eq_false_iff_not, sizeLine_eq, Nat.reduceLeDiff, Nat.zero_le, Nat.reduceLT, Nat.reducePow, beq_self_eq_true, id_eq, e1, dis_tup]
theorem told_no (c : Addr) {T : List Nat} (hl : T.length ≤ 900000) {ls : List Lm} {w : Nat} (s : Scan T 0 ls (some w)) : Rets (F_law_told c) [.sh (.str (tx T))] (.sh (.tuple [.str "wrong", .int (w : Int)])) := rets_of fun src => by
  have e1 := (lex_no c hl s).app (n := 1)
  simp only [AppX] at e1
  refine ⟨[some (.sh (.str (tx T))), none], ?_⟩
  have h1 : cRet (cTup (cCons (cD (.str "told")) (cCons (cCall 1 (F_lexemes c) (cCons (cVar 0) cNil)) cNil))) ⟨[some (.sh (.str (tx T))), none], src⟩ = .exc (badX c w) ⟨[some (.sh (.str (tx T))), none], src⟩ := by
    simp only [cSeq, cSkip, cAsg, cRet, cExpr, cIfS, cFor, cPar, cAug, cSetIx, cBinE, cBinV, cCall1, cCallN, cCall, cIt, cRangeC1, cRangeC2, cEnum, cZip, cTup, cLst, cNil, cCons, cConsR, cStar, cD, cVar, cVarV, vE, cT, cAnd, cOr, cNot, cAndV, cOrV, cNotV, cIf, cChain, cSlE2, cSlV2, bnd, cRev2, cNeg, cBits, cMeth, gNm, gTp, gsCons, gsNil, setMany, datAt, SV.dat, SV.settle, datas, fnsOf, cTupF, cFn, okA, tyD, bnd_ok, bnd_exc, opt_some, quiet_ok, shs_cons, shs_nil, itemsOf, Option.map_some, Option.bind_some, Option.map_none, Option.bind_none, padS, List.map_cons, List.map_nil, List.length_cons, List.length_nil, Nat.reduceAdd, Nat.reduceSub, List.replicate_succ, List.replicate_zero, List.cons_append, List.nil_append, List.getElem?_cons_zero, List.getElem?_cons_succ, List.set_cons_zero, List.set_cons_succ, if_true, if_false, Bool.false_eq_true, dGt, dLt, dLe2, dGe2, dOrd, dOrdI, dAddI, dSub, decide_eq_true_eq, Bool.not_eq_true', decide_eq_false_iff_not, sizeLine_eq, Nat.reduceLeDiff, Nat.zero_le, Nat.reduceLT, Nat.reducePow, beq_self_eq_true, id_eq, e1]
  have h4 : cRet (cTup (cCons (cD (.str "wrong")) (cCons (cFld 1 "place") cNil))) ⟨[some (.sh (.str (tx T))), some (.exn (badX c w).fs)], src⟩ = .ok (.ret (.sh (.tuple [.str "wrong", .int (w : Int)]))) ⟨[some (.sh (.str (tx T))), some (.exn (badX c w).fs)], src⟩ := by
    have w1 : cFld 1 "place" ⟨[some (.sh (.str (tx T))), some (.exn (badX c w).fs)], src⟩ = .ok (.sh (.int (w : Int))) ⟨[some (.sh (.str (tx T))), some (.exn (badX c w).fs)], src⟩ := by rfl
    exact ret_ok (tup_ok (cons_ok (show cD (.str "wrong") _ = .ok (.sh (.str "wrong")) _ from rfl) (cons_ok w1 (show cNil _ = .ok [] _ from rfl))) rfl (Nat.le_of_ble_eq_true rfl))
  exact try_exc (i := 1) h1 rfl h4
end Law
end Pw
set_option Elab.async false
set_option linter.all false
set_option maxRecDepth 100000
namespace Pw
namespace Law
open PySem PySem.Spec PyProof.Rows L2 Pw.Lx
/-! ### _law_word -/
def WL : List Nat := [97, 98, 99, 120, 121, 122, 113, 110, 112, 48, 49, 50, 57]
def WordOk (w : List Nat) : Prop := w ≠ [] ∧ w.length ≤ 40 ∧ ∀ c ∈ w, c ∈ AN
theorem e_WL : dList2 (.str "abcxyzqnp0129") = some (.own (.list (WL.map fun c => .str (tx [c])))) := by
  have e : ("abcxyzqnp0129" : Str) = tx WL := by decide +kernel
  have h : (tx WL).length ≤ sizeLine := by rw [tx_len]; exact szl (by decide)
  rw [e]
  unfold dList2
  dsimp only
  rw [if_pos h]
abbrev wS (l : List Nat) (o2 : Option SV) (sr : Src) : S := ⟨[some .src, some (.sh (.str (tx l))), o2], some sr⟩
theorem word_step {l : List Nat} (hl : l.length ≤ 1000) (o2 : Option SV) {sr : Src} (hi : SrcIn sr) : ∃ c sr', c ∈ WL ∧ SrcIn sr' ∧ b_law_word_0 (wS l o2 sr) = .ok .nx (wS (l ++ [c]) o2 sr') := by
  obtain ⟨r, sr', e1, ⟨y, hy, rfl⟩, i1⟩ := (of_draws (xs := WL.map fun c => .str (tx [c])) (by decide) (by decide)).app (n := 2) hi
  obtain ⟨c, hc, rfl⟩ := List.mem_map.mp hy
  have e2 := t_add (a := l) (b := [c]) (by simp; omega)
  have e3 := e_WL
  refine ⟨c, sr', hc, i1, ?_⟩
  simp only [b_law_word_0, cSeq, cSkip, cAsg, cRet, cExpr, cIfS, cFor, cPar, cAug, cSetIx, cBinE, cBinV, cCall1, cCallN, cCall, cIt, cRangeC1, cRangeC2, cEnum, cZip, cTup, cLst, cNil, cCons, cConsR, cStar, cD, cVar, cVarV, vE, cT, cAnd, cOr, cNot, cAndV, cOrV, cNotV, cIf, cChain, cSlE2, cSlV2, bnd, cRev2, cNeg, cBits, cMeth, gNm, gTp, gsCons, gsNil, setMany, datAt, SV.dat, SV.settle, datas, fnsOf, cTupF, cFn, okA, tyD, bnd_ok, bnd_exc, opt_some, quiet_ok, shs_cons, shs_nil, itemsOf, Option.map_some, Option.bind_some, Option.map_none, Option.bind_none, padS, List.map_cons, List.map_nil, List.length_cons, List.length_nil, Nat.reduceAdd, Nat.reduceSub, List.replicate_succ, List.replicate_zero, List.cons_append, List.nil_append, List.getElem?_cons_zero, List.getElem?_cons_succ, List.set_cons_zero, List.set_cons_succ, if_true, if_false, Bool.false_eq_true, dGt, dLt, dLe2, dGe2, dOrd, dOrdI, dAddI, dSub, decide_eq_true_eq, Bool.not_eq_true', decide_eq_false_iff_not, sizeLine_eq, Nat.reduceLeDiff, Nat.zero_le, Nat.reduceLT, Nat.reducePow, beq_self_eq_true, id_eq, wS, e3, e1, e2]
theorem word_loop : ∀ (n k : Nat) (l : List Nat) (o2 : Option SV) (sr : Src), SrcIn sr → l.length + n ≤ 1000 → (∀ c ∈ l, c ∈ AN) → ∃ l' o2' sr', l'.length = l.length + n ∧ (∀ c ∈ l', c ∈ AN) ∧ SrcIn sr' ∧ forL (gNm 2) b_law_word_0 (shs (rg k n)) (wS l o2 sr) = .ok .nx (wS l' o2' sr')
  | 0, k, l, o2, sr, hi, hl, hc => ⟨l, o2, sr, rfl, hc, hi, rfl⟩
  | n + 1, k, l, o2, sr, hi, hl, hc => by
    obtain ⟨c, sr1, h1, i1, e1⟩ := word_step (l := l) (by omega) (some (.sh (.int (k : Int)))) hi
    obtain ⟨l', o2', sr', h2, h3, i2, e2⟩ := word_loop n (k + 1) (l ++ [c]) (some (.sh (.int (k : Int)))) sr1 i1 (by simp; omega) (fun d hd => (List.mem_append.mp hd).elim (hc d) fun hd => by
      simp at hd
      subst hd
      exact (by decide : ∀ c ∈ WL, c ∈ AN) d h1)
    rw [rg_succ, shs_cons]
    exact ⟨l', o2', sr', by rw [h2]; simp; omega, h3, i2, (forL_step (s1 := wS l (some (.sh (.int (k : Int)))) sr) (by rfl) e1).trans e2⟩
theorem word_draws : Draws F_law_word [.src] fun r => ∃ w, r = .sh (.str (tx w)) ∧ WordOk w := fun sr hi => by
  obtain ⟨r1, sr1, e1, ⟨y, hy, rfl⟩, i1⟩ := (of_draws (xs := [.int 1, .int 1, .int 2, .int 3, .int 12, .int 13, .int 40]) (by simp) (by simp)).app (n := 2) hi
  obtain ⟨n, hn, hn1, rfl⟩ : ∃ n : Nat, n ≤ 40 ∧ 0 < n ∧ y = .int (n : Int) := by
    simp only [List.mem_cons, List.not_mem_nil, or_false] at hy
    rcases hy with rfl | rfl | rfl | rfl | rfl | rfl | rfl
    · exact ⟨1, by omega, by omega, rfl⟩
    · exact ⟨1, by omega, by omega, rfl⟩
    · exact ⟨2, by omega, by omega, rfl⟩
    · exact ⟨3, by omega, by omega, rfl⟩
    · exact ⟨12, by omega, by omega, rfl⟩
    · exact ⟨13, by omega, by omega, rfl⟩
    · exact ⟨40, by omega, by omega, rfl⟩
  obtain ⟨l, o2, sr2, h1, h2, i2, e2⟩ := word_loop n 0 [] none sr1 i1 (by simp; omega) (fun c h => by simp at h)
  obtain ⟨r3, sr3, e3, ⟨z, hz, rfl⟩, i3⟩ := (of_draws (xs := [.str (tx l), .str (tx l), .str "deal", .str "0", .str "007", .str "999999999", .str "1000000000"]) (by simp) (by simp)).app (n := 2) i2
  have hl : WordOk l := ⟨fun z => by rw [z] at h1; simp at h1; omega, by rw [h1]; simp; omega, h2⟩
  obtain ⟨w, rfl, hw⟩ : ∃ w, z = .str (tx w) ∧ WordOk w := by
    simp only [List.mem_cons, List.not_mem_nil, or_false] at hz
    have lit : ∀ (x : Str) (w : List Nat), x = tx w → WordOk w → (∃ w, PyData.str x = .str (tx w) ∧ WordOk w) := fun x w e h => ⟨w, by rw [e], h⟩
    rcases hz with rfl | rfl | rfl | rfl | rfl | rfl | rfl
    · exact ⟨l, rfl, hl⟩
    · exact ⟨l, rfl, hl⟩
    · exact lit _ [100, 101, 97, 108] (by decide +kernel) ⟨by decide, by decide, by decide⟩
    · exact lit _ [48] (by decide +kernel) ⟨by decide, by decide, by decide⟩
    · exact lit _ [48, 48, 55] (by decide +kernel) ⟨by decide, by decide, by decide⟩
    · exact lit _ [57, 57, 57, 57, 57, 57, 57, 57, 57] (by decide +kernel) ⟨by decide, by decide, by decide⟩
    · exact lit _ [49, 48, 48, 48, 48, 48, 48, 48, 48, 48] (by decide +kernel) ⟨by decide, by decide, by decide⟩
  have b1 : -(2 ^ 62 : Int) ≤ (n : Int) ∧ (n : Int) < 2 ^ 62 := by omega
  have e9 : tx [] = ("" : Str) := by decide +kernel
  simp only [wS, e9] at e2
  refine ⟨.sh (.str (tx w)), sr3, [some .src, some (.sh (.str (tx l))), o2], ?_, ⟨w, rfl, hw⟩, i3⟩
  unfold F_law_word
  refine run_ret ?_
  simp only [m_law_word, cSeq, cSkip, cAsg, cRet, cExpr, cIfS, cFor, cPar, cAug, cSetIx, cBinE, cBinV, cCall1, cCallN, cCall, cIt, cRangeC1, cRangeC2, cEnum, cZip, cTup, cLst, cNil, cCons, cConsR, cStar, cD, cVar, cVarV, vE, cT, cAnd, cOr, cNot, cAndV, cOrV, cNotV, cIf, cChain, cSlE2, cSlV2, bnd, cRev2, cNeg, cBits, cMeth, gNm, gTp, gsCons, gsNil, setMany, datAt, SV.dat, SV.settle, datas, fnsOf, cTupF, cFn, okA, tyD, bnd_ok, bnd_exc, opt_some, quiet_ok, shs_cons, shs_nil, itemsOf, Option.map_some, Option.bind_some, Option.map_none, Option.bind_none, padS, List.map_cons, List.map_nil, List.length_cons, List.length_nil, Nat.reduceAdd, Nat.reduceSub, List.replicate_succ, List.replicate_zero, List.cons_append, List.nil_append, List.getElem?_cons_zero, List.getElem?_cons_succ, List.set_cons_zero, List.set_cons_succ, if_true, if_false, Bool.false_eq_true, dGt, dLt, dLe2, dGe2, dOrd, dOrdI, dAddI, dSub, decide_eq_true_eq, Bool.not_eq_true', decide_eq_false_iff_not, sizeLine_eq, Nat.reduceLeDiff, Nat.zero_le, Nat.reduceLT, Nat.reducePow, beq_self_eq_true, id_eq, dis_lst, e1, ifc_pos b1, Int.toNat_natCast, rgD_zero, e2, e3]
end Law
end Pw
set_option Elab.async false
set_option linter.all false
set_option maxRecDepth 100000
namespace Pw
namespace Law
open PySem PySem.Spec PyProof.Rows L2 Pw.Lx
/-! ### _law_line -/
abbrev nS (o1 o2 : Option SV) (t : List Nat) (fs : List Lm) (o5 : Option SV) (sr : Src) : S := ⟨[some .src, o1, o2, some (.sh (.str (tx t))), some (.own (.list (fs.map Lm.d))), o5], some sr⟩
theorem lit_of {xs : List Str} {ls : List (List Nat)} (e : xs = ls.map tx) {P : List Nat → Prop} (h : ∀ l ∈ ls, P l) {y : D} (hy : y ∈ xs.map PyData.str) : ∃ l, y = .str (tx l) ∧ P l := by
  subst e
  rw [List.map_map] at hy
  obtain ⟨l, hl, rfl⟩ := List.mem_map.mp hy
  exact ⟨l, rfl, h l hl⟩
theorem gaps_ok : ∀ y ∈ [PyData.str "", .str "", .str " ", .str "\n", .str "   "], ∃ g, y = .str (tx g) ∧ (∀ c ∈ g, c ∈ BL) ∧ g.length ≤ 3 := fun y hy =>
  lit_of (xs := ["", "", " ", "\n", "   "]) (ls := [[], [], [32], [10], [32, 32, 32]]) (by decide +kernel) (P := fun g => (∀ c ∈ g, c ∈ BL) ∧ g.length ≤ 3) (by decide) hy
theorem blanks_ok : ∀ y ∈ [PyData.str " ", .str "\n"], ∃ g, y = .str (tx g) ∧ (∀ c ∈ g, c ∈ BL) ∧ g ≠ [] ∧ g.length = 1 := fun y hy =>
  lit_of (xs := [" ", "\n"]) (ls := [[32], [10]]) (by decide +kernel) (P := fun g => (∀ c ∈ g, c ∈ BL) ∧ g ≠ [] ∧ g.length = 1) (by decide) hy
theorem signs_ok : ∀ y ∈ [PyData.str ",", .str ":", .str ";", .str "-"], ∃ g, y = .str (tx g) ∧ ∃ s, g = [s] ∧ s ∈ SG := fun y hy =>
  lit_of (xs := [",", ":", ";", "-"]) (ls := [[44], [58], [59], [45]]) (by decide +kernel) (P := fun g => ∃ s, g = [s] ∧ s ∈ SG) (by
    intro l hl
    simp only [List.mem_cons, List.not_mem_nil, or_false] at hl
    rcases hl with rfl | rfl | rfl | rfl
    · exact ⟨_, rfl, by decide⟩
    · exact ⟨_, rfl, by decide⟩
    · exact ⟨_, rfl, by decide⟩
    · exact ⟨_, rfl, by decide⟩) hy
theorem plain_m : ∀ fs : List Lm, PyData.plainAll (fs.map Lm.d) = true
  | [] => rfl
  | f :: fs => by
    rw [List.map_cons]
    show (f.d.plain && PyData.plainAll (fs.map Lm.d)) = true
    rw [plain_m fs]
    rfl
theorem depth_m : ∀ fs : List Lm, PyData.depthAll (fs.map Lm.d) ≤ 5
  | [] => by decide
  | f :: fs => by
    rw [List.map_cons]
    show max f.d.depth (PyData.depthAll (fs.map Lm.d)) ≤ 5
    have := depth_m fs
    have h : f.d.depth ≤ 5 := by simp [Lm.d, PyData.depth, PyData.depthAll]
    omega
theorem dNe_ml (fs : List Lm) (l : Lm) : dNe (.list ((fs ++ [l]).map Lm.d)) (.list []) = some (.sh (.bool true)) := by
  have h1 : eqOk (.list ((fs ++ [l]).map Lm.d)) (.list []) = true := by
    unfold eqOk
    have h2 := plain_m (fs ++ [l])
    have h3 := depth_m (fs ++ [l])
    simp only [PyData.plain, h2, PyData.plainAll, PyData.depth, Bool.and_self, Bool.true_and, decide_eq_true_eq]
    first | omega | exact decide_eq_true (by omega)
  unfold dNe
  rw [if_pos h1]
  have : (fs ++ [l]).map Lm.d ≠ [] := by simp
  cases e : (fs ++ [l]).map Lm.d with
  | nil => exact absurd e this
  | cons a b => rfl
/-- what the last part of a lap does -/
theorem lap_end {k : Kd} {w t : List Nat} {fs : List Lm} (hz : t.length + w.length + 3 ≤ 900000) (hf : fs.length < 1000000) (o1 o2 : Option SV) {sr : Src} (hi : SrcIn sr) : ∃ g sr', (∀ c ∈ g, c ∈ BL) ∧ g.length ≤ 3 ∧ SrcIn sr' ∧
    (cSeq (cExpr (cMeth 4 "list" mAppend (cCons (cBinV dAdd 5 (vE (cTup (cCons (cCall1 dLen (cVarV 3)) cNil)))) cNil))) (cAsg (cBinE dAdd (cBinV dAdd 3 (vE (cBinV dIx 5 (vE (cD (.int 1)))))) (vE (cCall 2 F_law_of (cCons (cVar 0) (cCons (cLst (cCons (cD (.str "")) (cCons (cD (.str "")) (cCons (cD (.str " ")) (cCons (cD (.str "\n")) (cCons (cD (.str "   ")) cNil)))))) cNil))))) (gNm 3)))
      (nS o1 o2 t fs (some (.sh (.tuple [.str k.txt, .str (tx w)]))) sr) = .ok .nx (nS o1 o2 ((t ++ w) ++ g) (fs ++ [⟨k, w, t.length⟩]) (some (.sh (.tuple [.str k.txt, .str (tx w)]))) sr') := by
  obtain ⟨r1, sr1, e1, ⟨y, hy, rfl⟩, i1⟩ := (of_draws (xs := [.str "", .str "", .str " ", .str "\n", .str "   "]) (by simp) (by simp)).app (n := 2) hi
  obtain ⟨g, rfl, h1, h2⟩ := gaps_ok y hy
  have e2 := t_len (l := t) (by omega)
  have e3 : dAdd (.tuple [.str k.txt, .str (tx w)]) (.tuple [.int (t.length : Int)]) = some (.sh (Lm.d ⟨k, w, t.length⟩)) := by
    have : [PyData.str k.txt, .str (tx w)].length + [PyData.int (t.length : Int)].length ≤ sizeLine := szl (Nat.le_of_ble_eq_true rfl)
    unfold dAdd
    dsimp only
    rw [if_pos this]
    rfl
  have e4 := app_ok (xs := fs.map Lm.d) (x := Lm.d ⟨k, w, t.length⟩) (by simpa using hf)
  have e5 : fs.map Lm.d ++ [Lm.d ⟨k, w, t.length⟩] = (fs ++ [(⟨k, w, t.length⟩ : Lm)]).map Lm.d := by simp
  have e6 : dIx (.tuple [.str k.txt, .str (tx w)]) (.int 1) = some (.sh (.str (tx w))) := ix_t1 _ _ _
  have e7 := t_add (a := t) (b := w) (by omega)
  have e8 := t_add (a := t ++ w) (b := g) (by simp; omega)
  refine ⟨g, sr1, h1, h2, i1, ?_⟩
  simp only [cSeq, cSkip, cAsg, cRet, cExpr, cIfS, cFor, cPar, cAug, cSetIx, cBinE, cBinV, cCall1, cCallN, cCall, cIt, cRangeC1, cRangeC2, cEnum, cZip, cTup, cLst, cNil, cCons, cConsR, cStar, cD, cVar, cVarV, vE, cT, cAnd, cOr, cNot, cAndV, cOrV, cNotV, cIf, cChain, cSlE2, cSlV2, bnd, cRev2, cNeg, cBits, cMeth, gNm, gTp, gsCons, gsNil, setMany, datAt, SV.dat, SV.settle, datas, fnsOf, cTupF, cFn, okA, tyD, bnd_ok, bnd_exc, opt_some, quiet_ok, shs_cons, shs_nil, itemsOf, Option.map_some, Option.bind_some, Option.map_none, Option.bind_none, padS, List.map_cons, List.map_nil, List.length_cons, List.length_nil, Nat.reduceAdd, Nat.reduceSub, List.replicate_succ, List.replicate_zero, List.cons_append, List.nil_append, List.getElem?_cons_zero, List.getElem?_cons_succ, List.set_cons_zero, List.set_cons_succ, if_true, if_false, Bool.false_eq_true, dGt, dLt, dLe2, dGe2, dOrd, dOrdI, dAddI, dSub, decide_eq_true_eq, Bool.not_eq_true', decide_eq_false_iff_not, sizeLine_eq, Nat.reduceLeDiff, Nat.zero_le, Nat.reduceLT, Nat.reducePow, beq_self_eq_true, id_eq, nS, e2, e3, e4, e5, e6, e7, dis_tup, dis_lst, e1, e8]
theorem line_step {o : Bool} {t : List Nat} {fs : List Lm} (I : Lx.LI o t fs) (hz : t.length ≤ 800000) (hf : fs.length < 1000000) (o1 o2 o5 : Option SV) {sr : Src} (hi : SrcIn sr) : ∃ o' t' l o5' sr', Lx.LI o' t' (fs ++ [l]) ∧ t'.length ≤ t.length + 44 ∧ SrcIn sr' ∧ b_law_line_0 (nS o1 o2 t fs o5 sr) = .ok .nx (nS o1 o2 t' (fs ++ [l]) o5' sr') := by
  obtain ⟨r1, sr1, e1, ⟨v, rfl, p1, p1'⟩, i1⟩ := (pick_draws (many := 3) (by decide)).app (n := 2) hi
  by_cases hv : v = 0
  · subst hv
    have d1 : dEq (.int 0) (.int 0) = some (.sh (.bool true)) := by rw [dEq_int]; rfl
    obtain ⟨r2, sr2, e2, ⟨y, hy, rfl⟩, i2⟩ := (of_draws (xs := [.str ",", .str ":", .str ";", .str "-"]) (by simp) (by simp)).app (n := 2) i1
    obtain ⟨g, rfl, s, rfl, hs⟩ := signs_ok y hy
    obtain ⟨g, sr3, g1, g2, i3, e3⟩ := lap_end (k := .sign) (w := [s]) (t := t) (fs := fs) (by simp; omega) hf o1 o2 i2
    have J := I.sign hs
    have JJ : ∃ o', Lx.LI o' ((t ++ [s]) ++ g) (fs ++ [⟨.sign, [s], t.length⟩]) := by
      by_cases hg : g = []
      · subst hg; rw [List.append_nil]; exact ⟨_, J⟩
      · exact ⟨_, J.gap g1 hg⟩
    obtain ⟨o', J'⟩ := JJ
    refine ⟨o', _, _, some (.sh (.tuple [.str Kd.sign.txt, .str (tx [s])])), sr3, J', by simp; omega, i3, ?_⟩
    unfold b_law_line_0
    refine seq_nx (s1 := nS o1 o2 t fs (some (.sh (.tuple [.str Kd.sign.txt, .str (tx [s])]))) sr2) ?_ e3
    simp only [cSeq, cSkip, cAsg, cRet, cExpr, cIfS, cFor, cPar, cAug, cSetIx, cBinE, cBinV, cCall1, cCallN, cCall, cIt, cRangeC1, cRangeC2, cEnum, cZip, cTup, cLst, cNil, cCons, cConsR, cStar, cD, cVar, cVarV, vE, cT, cAnd, cOr, cNot, cAndV, cOrV, cNotV, cIf, cChain, cSlE2, cSlV2, bnd, cRev2, cNeg, cBits, cMeth, gNm, gTp, gsCons, gsNil, setMany, datAt, SV.dat, SV.settle, datas, fnsOf, cTupF, cFn, okA, tyD, bnd_ok, bnd_exc, opt_some, quiet_ok, shs_cons, shs_nil, itemsOf, Option.map_some, Option.bind_some, Option.map_none, Option.bind_none, padS, List.map_cons, List.map_nil, List.length_cons, List.length_nil, Nat.reduceAdd, Nat.reduceSub, List.replicate_succ, List.replicate_zero, List.cons_append, List.nil_append, List.getElem?_cons_zero, List.getElem?_cons_succ, List.set_cons_zero, List.set_cons_succ, if_true, if_false, Bool.false_eq_true, dGt, dLt, dLe2, dGe2, dOrd, dOrdI, dAddI, dSub, decide_eq_true_eq, Bool.not_eq_true', decide_eq_false_iff_not, sizeLine_eq, Nat.reduceLeDiff, Nat.zero_le, Nat.reduceLT, Nat.reducePow, beq_self_eq_true, id_eq, nS, e1, d1, dis_lst, e2, dis_tup, Kd.txt]
  · have d1 : dEq (.int v) (.int 0) = some (.sh (.bool false)) := by rw [dEq_int, decide_eq_false hv]
    obtain ⟨r2, sr2, e2, ⟨w, rfl, hw0, hw1, hw2⟩, i2⟩ := word_draws.app (n := 1) i1
    obtain ⟨t1, sr3, J, ht1, i3, e3⟩ : ∃ t1 sr3, Lx.LI false t1 fs ∧ t1.length ≤ t.length + 1 ∧ SrcIn sr3 ∧
        cIfS (cAnd (cT (cBinV dNe 4 (vE (cLst cNil)))) (cAnd (cT (cBinE dEq (cBinE dIx (cBinV dIx 4 (vE (cNeg (vE (cD (.int 1)))))) (vE (cD (.int 0)))) (vE (cD (.str "word"))))) (cT (cBinE (dIn true) (cBinV dIx 3 (vE (cNeg (vE (cD (.int 1)))))) (vE (cD (.str " \n"))))))) (cAsg (cBinV dAdd 3 (vE (cCall 2 F_law_of (cCons (cVar 0) (cCons (cLst (cCons (cD (.str " ")) (cCons (cD (.str "\n")) cNil))) cNil))))) (gNm 3)) cSkip
          (nS o1 o2 t fs (some (.sh (.tuple [.str Kd.word.txt, .str (tx w)]))) sr2) = .ok .nx (nS o1 o2 t1 fs (some (.sh (.tuple [.str Kd.word.txt, .str (tx w)]))) sr3) := by
      rcases List.eq_nil_or_concat fs with rfl | ⟨fs', l, rfl⟩
      · have ho : o = false := by
          cases o with
          | false => rfl
          | true => obtain ⟨fs', l, t', c, e, _⟩ := I.opn rfl; simp at e
        refine ⟨t, sr2, I.shut ho, by omega, i2, ?_⟩
        have n1 : dNe (.list []) (.list []) = some (.sh (.bool false)) := by rfl
        simp only [cSeq, cSkip, cAsg, cRet, cExpr, cIfS, cFor, cPar, cAug, cSetIx, cBinE, cBinV, cCall1, cCallN, cCall, cIt, cRangeC1, cRangeC2, cEnum, cZip, cTup, cLst, cNil, cCons, cConsR, cStar, cD, cVar, cVarV, vE, cT, cAnd, cOr, cNot, cAndV, cOrV, cNotV, cIf, cChain, cSlE2, cSlV2, bnd, cRev2, cNeg, cBits, cMeth, gNm, gTp, gsCons, gsNil, setMany, datAt, SV.dat, SV.settle, datas, fnsOf, cTupF, cFn, okA, tyD, bnd_ok, bnd_exc, opt_some, quiet_ok, shs_cons, shs_nil, itemsOf, Option.map_some, Option.bind_some, Option.map_none, Option.bind_none, padS, List.map_cons, List.map_nil, List.length_cons, List.length_nil, Nat.reduceAdd, Nat.reduceSub, List.replicate_succ, List.replicate_zero, List.cons_append, List.nil_append, List.getElem?_cons_zero, List.getElem?_cons_succ, List.set_cons_zero, List.set_cons_succ, if_true, if_false, Bool.false_eq_true, dGt, dLt, dLe2, dGe2, dOrd, dOrdI, dAddI, dSub, decide_eq_true_eq, Bool.not_eq_true', decide_eq_false_iff_not, sizeLine_eq, Nat.reduceLeDiff, Nat.zero_le, Nat.reduceLT, Nat.reducePow, beq_self_eq_true, id_eq, nS, dis_lst, n1]
      · rw [List.concat_eq_append] at *
        have n1 := dNe_ml fs' l
        have n2 : dIx (.list ((fs' ++ [l]).map Lm.d)) (.int (-1)) = some (.sh l.d) := by
          have e : (fs' ++ [l]).map Lm.d = fs'.map Lm.d ++ [l.d] := by simp
          rw [e]
          exact ix_ll _ _
        have n3 : dIx l.d (.int 0) = some (.sh (.str l.k.txt)) := ix_t0 _ _
        by_cases hk : l.k = .word
        · have n4 : dEq (.str l.k.txt) (.str "word") = some (.sh (.bool true)) := by
            rw [hk]
            have : decide (Kd.word.txt = "word") = true := by decide +kernel
            rw [dEq_str, this]
          have ht := I.ne (by simp)
          have et : t = t.dropLast ++ [t.getLast ht] := (List.dropLast_concat_getLast ht).symm
          generalize hc : t.getLast ht = c at et
          generalize t.dropLast = t' at et
          subst et
          have n5 := t_last (l := t') c (by omega)
          have n6 := t_notIn c BL
          rw [← e_BL] at n6
          by_cases hb : c ∈ BL
          · rw [decide_eq_true hb] at n6
            have ho : o = false := by
              cases o with
              | false => rfl
              | true =>
                obtain ⟨fs2, l2, t2, c2, _, _, e2, h2⟩ := I.opn rfl
                have := List.append_inj_right' e2 rfl
                simp at this
                exact absurd (this ▸ hb) h2
            refine ⟨t' ++ [c], sr2, I.shut ho, by omega, i2, ?_⟩
            simp only [cSeq, cSkip, cAsg, cRet, cExpr, cIfS, cFor, cPar, cAug, cSetIx, cBinE, cBinV, cCall1, cCallN, cCall, cIt, cRangeC1, cRangeC2, cEnum, cZip, cTup, cLst, cNil, cCons, cConsR, cStar, cD, cVar, cVarV, vE, cT, cAnd, cOr, cNot, cAndV, cOrV, cNotV, cIf, cChain, cSlE2, cSlV2, bnd, cRev2, cNeg, cBits, cMeth, gNm, gTp, gsCons, gsNil, setMany, datAt, SV.dat, SV.settle, datas, fnsOf, cTupF, cFn, okA, tyD, bnd_ok, bnd_exc, opt_some, quiet_ok, shs_cons, shs_nil, itemsOf, Option.map_some, Option.bind_some, Option.map_none, Option.bind_none, padS, List.map_cons, List.map_nil, List.length_cons, List.length_nil, Nat.reduceAdd, Nat.reduceSub, List.replicate_succ, List.replicate_zero, List.cons_append, List.nil_append, List.getElem?_cons_zero, List.getElem?_cons_succ, List.set_cons_zero, List.set_cons_succ, if_true, if_false, Bool.false_eq_true, dGt, dLt, dLe2, dGe2, dOrd, dOrdI, dAddI, dSub, decide_eq_true_eq, Bool.not_eq_true', decide_eq_false_iff_not, sizeLine_eq, Nat.reduceLeDiff, Nat.zero_le, Nat.reduceLT, Nat.reducePow, beq_self_eq_true, id_eq, nS, dis_lst, n1, n2, n3, n4, n5, n6, Bool.not_true]
          · rw [decide_eq_false hb] at n6
            obtain ⟨r4, sr4, e4, ⟨y, hy, rfl⟩, i4⟩ := (of_draws (xs := [.str " ", .str "\n"]) (by simp) (by simp)).app (n := 2) i2
            obtain ⟨g, rfl, h1, h2, h3⟩ := blanks_ok y hy
            have n7 := t_add (a := t' ++ [c]) (b := g) (by rw [h3]; omega)
            refine ⟨(t' ++ [c]) ++ g, sr4, I.gap h1 h2, by rw [List.length_append, h3]; omega, i4, ?_⟩
            simp only [cSeq, cSkip, cAsg, cRet, cExpr, cIfS, cFor, cPar, cAug, cSetIx, cBinE, cBinV, cCall1, cCallN, cCall, cIt, cRangeC1, cRangeC2, cEnum, cZip, cTup, cLst, cNil, cCons, cConsR, cStar, cD, cVar, cVarV, vE, cT, cAnd, cOr, cNot, cAndV, cOrV, cNotV, cIf, cChain, cSlE2, cSlV2, bnd, cRev2, cNeg, cBits, cMeth, gNm, gTp, gsCons, gsNil, setMany, datAt, SV.dat, SV.settle, datas, fnsOf, cTupF, cFn, okA, tyD, bnd_ok, bnd_exc, opt_some, quiet_ok, shs_cons, shs_nil, itemsOf, Option.map_some, Option.bind_some, Option.map_none, Option.bind_none, padS, List.map_cons, List.map_nil, List.length_cons, List.length_nil, Nat.reduceAdd, Nat.reduceSub, List.replicate_succ, List.replicate_zero, List.cons_append, List.nil_append, List.getElem?_cons_zero, List.getElem?_cons_succ, List.set_cons_zero, List.set_cons_succ, if_true, if_false, Bool.false_eq_true, dGt, dLt, dLe2, dGe2, dOrd, dOrdI, dAddI, dSub, decide_eq_true_eq, Bool.not_eq_true', decide_eq_false_iff_not, sizeLine_eq, Nat.reduceLeDiff, Nat.zero_le, Nat.reduceLT, Nat.reducePow, beq_self_eq_true, id_eq, nS, dis_lst, n1, n2, n3, n4, n5, n6, Bool.not_false, e4, n7]
        · have hk' : l.k = .sign := (I.kind l (by simp)).elim id fun z => absurd z hk
          have n4 : dEq (.str l.k.txt) (.str "word") = some (.sh (.bool false)) := by
            rw [hk']
            have : decide (Kd.sign.txt = "word") = false := by decide +kernel
            rw [dEq_str, this]
          have ho : o = false := by
            cases o with
            | false => rfl
            | true =>
              obtain ⟨fs2, l2, t2, c2, e2, h2, _, _⟩ := I.opn rfl
              have := List.append_inj_right' e2 rfl
              simp at this
              exact absurd (this ▸ h2) hk
          refine ⟨t, sr2, I.shut ho, by omega, i2, ?_⟩
          simp only [cSeq, cSkip, cAsg, cRet, cExpr, cIfS, cFor, cPar, cAug, cSetIx, cBinE, cBinV, cCall1, cCallN, cCall, cIt, cRangeC1, cRangeC2, cEnum, cZip, cTup, cLst, cNil, cCons, cConsR, cStar, cD, cVar, cVarV, vE, cT, cAnd, cOr, cNot, cAndV, cOrV, cNotV, cIf, cChain, cSlE2, cSlV2, bnd, cRev2, cNeg, cBits, cMeth, gNm, gTp, gsCons, gsNil, setMany, datAt, SV.dat, SV.settle, datas, fnsOf, cTupF, cFn, okA, tyD, bnd_ok, bnd_exc, opt_some, quiet_ok, shs_cons, shs_nil, itemsOf, Option.map_some, Option.bind_some, Option.map_none, Option.bind_none, padS, List.map_cons, List.map_nil, List.length_cons, List.length_nil, Nat.reduceAdd, Nat.reduceSub, List.replicate_succ, List.replicate_zero, List.cons_append, List.nil_append, List.getElem?_cons_zero, List.getElem?_cons_succ, List.set_cons_zero, List.set_cons_succ, if_true, if_false, Bool.false_eq_true, dGt, dLt, dLe2, dGe2, dOrd, dOrdI, dAddI, dSub, decide_eq_true_eq, Bool.not_eq_true', decide_eq_false_iff_not, sizeLine_eq, Nat.reduceLeDiff, Nat.zero_le, Nat.reduceLT, Nat.reducePow, beq_self_eq_true, id_eq, nS, dis_lst, n1, n2, n3, n4]
    obtain ⟨g, sr5, g1, g2, i5, e5⟩ := lap_end (k := .word) (w := w) (t := t1) (fs := fs) (by omega) hf o1 o2 i3
    have J2 := J.word hw0 (by omega) hw2
    have JJ : ∃ o', Lx.LI o' ((t1 ++ w) ++ g) (fs ++ [⟨.word, w, t1.length⟩]) := by
      by_cases hg : g = []
      · subst hg; rw [List.append_nil]; exact ⟨_, J2⟩
      · exact ⟨_, J2.gap g1 hg⟩
    obtain ⟨o', J'⟩ := JJ
    refine ⟨o', _, _, some (.sh (.tuple [.str Kd.word.txt, .str (tx w)])), sr5, J', by simp; omega, i5, ?_⟩
    unfold b_law_line_0
    refine seq_nx (s1 := nS o1 o2 t1 fs (some (.sh (.tuple [.str Kd.word.txt, .str (tx w)]))) sr3) ?_ e5
    have e6 : cAsg (cTup (cCons (cD (.str "word")) (cCons (cCall 1 F_law_word (cCons (cVar 0) cNil)) cNil))) (gNm 5) (nS o1 o2 t fs o5 sr1) = .ok .nx (nS o1 o2 t fs (some (.sh (.tuple [.str Kd.word.txt, .str (tx w)]))) sr2) := by
      simp only [cSeq, cSkip, cAsg, cRet, cExpr, cIfS, cFor, cPar, cAug, cSetIx, cBinE, cBinV, cCall1, cCallN, cCall, cIt, cRangeC1, cRangeC2, cEnum, cZip, cTup, cLst, cNil, cCons, cConsR, cStar, cD, cVar, cVarV, vE, cT, cAnd, cOr, cNot, cAndV, cOrV, cNotV, cIf, cChain, cSlE2, cSlV2, bnd, cRev2, cNeg, cBits, cMeth, gNm, gTp, gsCons, gsNil, setMany, datAt, SV.dat, SV.settle, datas, fnsOf, cTupF, cFn, okA, tyD, bnd_ok, bnd_exc, opt_some, quiet_ok, shs_cons, shs_nil, itemsOf, Option.map_some, Option.bind_some, Option.map_none, Option.bind_none, padS, List.map_cons, List.map_nil, List.length_cons, List.length_nil, Nat.reduceAdd, Nat.reduceSub, List.replicate_succ, List.replicate_zero, List.cons_append, List.nil_append, List.getElem?_cons_zero, List.getElem?_cons_succ, List.set_cons_zero, List.set_cons_succ, if_true, if_false, Bool.false_eq_true, dGt, dLt, dLe2, dGe2, dOrd, dOrdI, dAddI, dSub, decide_eq_true_eq, Bool.not_eq_true', decide_eq_false_iff_not, sizeLine_eq, Nat.reduceLeDiff, Nat.zero_le, Nat.reduceLT, Nat.reducePow, beq_self_eq_true, id_eq, nS, e2, dis_tup, Kd.txt]
    have e7 := seq_nx e6 e3
    simp only [nS] at e7
    have e8 : cT (cBinE dEq (cCall 2 F_law_pick (cCons (cVar 0) (cCons (cD (.int 3)) cNil))) (vE (cD (.int 0)))) (nS o1 o2 t fs o5 sr) = .ok false (nS o1 o2 t fs o5 sr1) := by
      simp only [cSeq, cSkip, cAsg, cRet, cExpr, cIfS, cFor, cPar, cAug, cSetIx, cBinE, cBinV, cCall1, cCallN, cCall, cIt, cRangeC1, cRangeC2, cEnum, cZip, cTup, cLst, cNil, cCons, cConsR, cStar, cD, cVar, cVarV, vE, cT, cAnd, cOr, cNot, cAndV, cOrV, cNotV, cIf, cChain, cSlE2, cSlV2, bnd, cRev2, cNeg, cBits, cMeth, gNm, gTp, gsCons, gsNil, setMany, datAt, SV.dat, SV.settle, datas, fnsOf, cTupF, cFn, okA, tyD, bnd_ok, bnd_exc, opt_some, quiet_ok, shs_cons, shs_nil, itemsOf, Option.map_some, Option.bind_some, Option.map_none, Option.bind_none, padS, List.map_cons, List.map_nil, List.length_cons, List.length_nil, Nat.reduceAdd, Nat.reduceSub, List.replicate_succ, List.replicate_zero, List.cons_append, List.nil_append, List.getElem?_cons_zero, List.getElem?_cons_succ, List.set_cons_zero, List.set_cons_succ, if_true, if_false, Bool.false_eq_true, dGt, dLt, dLe2, dGe2, dOrd, dOrdI, dAddI, dSub, decide_eq_true_eq, Bool.not_eq_true', decide_eq_false_iff_not, sizeLine_eq, Nat.reduceLeDiff, Nat.zero_le, Nat.reduceLT, Nat.reducePow, beq_self_eq_true, id_eq, nS, e1, d1]
    exact ifs_ff e8 e7
end Law
end Pw
set_option Elab.async false
set_option linter.all false
set_option maxRecDepth 100000
namespace Pw
namespace Law
open PySem PySem.Spec PyProof.Rows L2 Pw.Lx
theorem line_loop (o1 : Option SV) : ∀ (n k : Nat) (o : Bool) (t : List Nat) (fs : List Lm) (o2 o5 : Option SV) (sr : Src), SrcIn sr → Lx.LI o t fs → t.length + 44 * n ≤ 800000 → fs.length + n < 1000000 → ∃ o' t' fs' o2' o5' sr', Lx.LI o' t' fs' ∧ t'.length ≤ t.length + 44 * n ∧ fs'.length = fs.length + n ∧ SrcIn sr' ∧ forL (gNm 2) b_law_line_0 (shs (rg k n)) (nS o1 o2 t fs o5 sr) = .ok .nx (nS o1 o2' t' fs' o5' sr')
  | 0, k, o, t, fs, o2, o5, sr, hi, I, h1, h2 => ⟨o, t, fs, o2, o5, sr, I, by omega, rfl, hi, rfl⟩
  | n + 1, k, o, t, fs, o2, o5, sr, hi, I, h1, h2 => by
    obtain ⟨o', t', l, o5', sr1, J, b1, i1, e1⟩ := line_step I (by omega) (by omega) o1 (some (.sh (.int (k : Int)))) o5 hi
    obtain ⟨o'', t'', fs'', o2'', o5'', sr2, J2, b2, b3, i2, e2⟩ := line_loop o1 n (k + 1) o' t' (fs ++ [l]) (some (.sh (.int (k : Int)))) o5' sr1 i1 J (by omega) (by simp; omega)
    rw [rg_succ, shs_cons]
    exact ⟨o'', t'', fs'', o2'', o5'', sr2, J2, by omega, by rw [b3]; simp; omega, i2, (forL_step (s1 := nS o1 (some (.sh (.int (k : Int)))) t fs o5 sr) (by rfl) e1).trans e2⟩
structure Line (t : List Nat) (fs : List Lm) : Prop where
  ex : ∃ o, Lx.LI o t fs
  len : t.length ≤ 20000
  few : fs.length ≤ 400
theorem starts_ok : ∀ y ∈ [PyData.str "", .str " ", .str "\n", .str "  \n "], ∃ g, y = .str (tx g) ∧ (∀ c ∈ g, c ∈ BL) ∧ g.length ≤ 4 := fun y hy =>
  lit_of (xs := ["", " ", "\n", "  \n "]) (ls := [[], [32], [10], [32, 32, 10, 32]]) (by decide +kernel) (P := fun g => (∀ c ∈ g, c ∈ BL) ∧ g.length ≤ 4) (by decide) hy
theorem line_draws {n : Nat} (hn : n ≤ 400) : Draws F_law_line [.src, .sh (.int (n : Int))] fun r => ∃ t fs, r = .sh (.tuple [.str (tx t), .list (fs.map Lm.d)]) ∧ Line t fs := fun sr hi => by
  obtain ⟨r1, sr1, e1, ⟨y, hy, rfl⟩, i1⟩ := (of_draws (xs := [.str "", .str " ", .str "\n", .str "  \n "]) (by simp) (by simp)).app (n := 2) hi
  obtain ⟨g, rfl, h1, h2⟩ := starts_ok y hy
  obtain ⟨o, t, fs, o2, o5, sr2, I, b1, b2, i2, e2⟩ := line_loop (some (.sh (.int (n : Int)))) n 0 false g [] none none sr1 i1 (.start h1) (by omega) (by simp; omega)
  have bb : -(2 ^ 62 : Int) ≤ (n : Int) ∧ (n : Int) < 2 ^ 62 := by omega
  simp only [nS, List.map_nil] at e2
  refine ⟨.sh (.tuple [.str (tx t), .list (fs.map Lm.d)]), sr2, [some .src, some (.sh (.int (n : Int))), o2, some (.sh (.str (tx t))), some (.sh (.list (fs.map Lm.d))), o5], ?_, ⟨t, fs, rfl, ⟨o, I⟩, by omega, by rw [b2]; simp; omega⟩, i2⟩
  unfold F_law_line
  refine run_ret ?_
  simp only [m_law_line, cSeq, cSkip, cAsg, cRet, cExpr, cIfS, cFor, cPar, cAug, cSetIx, cBinE, cBinV, cCall1, cCallN, cCall, cIt, cRangeC1, cRangeC2, cEnum, cZip, cTup, cLst, cNil, cCons, cConsR, cStar, cD, cVar, cVarV, vE, cT, cAnd, cOr, cNot, cAndV, cOrV, cNotV, cIf, cChain, cSlE2, cSlV2, bnd, cRev2, cNeg, cBits, cMeth, gNm, gTp, gsCons, gsNil, setMany, datAt, SV.dat, SV.settle, datas, fnsOf, cTupF, cFn, okA, tyD, bnd_ok, bnd_exc, opt_some, quiet_ok, shs_cons, shs_nil, itemsOf, Option.map_some, Option.bind_some, Option.map_none, Option.bind_none, padS, List.map_cons, List.map_nil, List.length_cons, List.length_nil, Nat.reduceAdd, Nat.reduceSub, List.replicate_succ, List.replicate_zero, List.cons_append, List.nil_append, List.getElem?_cons_zero, List.getElem?_cons_succ, List.set_cons_zero, List.set_cons_succ, if_true, if_false, Bool.false_eq_true, dGt, dLt, dLe2, dGe2, dOrd, dOrdI, dAddI, dSub, decide_eq_true_eq, Bool.not_eq_true', decide_eq_false_iff_not, sizeLine_eq, Nat.reduceLeDiff, Nat.zero_le, Nat.reduceLT, Nat.reducePow, beq_self_eq_true, id_eq, dis_lst, e1, ifc_pos bb, Int.toNat_natCast, rgD_zero, e2, dis_tup]
/-! ### what can be shown -/
theorem legal_small {c : Nat} (h : Legal c) : c < 16 ^ 8 := by
  have : ∀ c ∈ BL ++ SG ++ AN, c < 16 ^ 8 := by decide
  refine this c ?_
  rcases h with h | h | h <;> simp [h]
theorem nice_tx {l : List Nat} (h : ∀ c ∈ l, c < 16 ^ 8) : Nice (.str (tx l)) 0 (10 * l.length + 2) := .str (by
  rw [PyData.shown_str]
  have := StrLaws.reprText_len (tx l) (by simpa [tx] using h)
  rwa [tx_len] at this)
theorem nice_i {i : Nat} (h : i < 1000000) : Nice (.int (i : Int)) 0 6 := Nice.int (by omega) (by omega) (by decide) (by decide)
theorem nice_k (k : Kd) : Nice (.str k.txt) 0 10 := .str (by cases k <;> decide +kernel)
theorem nice_lm {l : Lm} (h1 : l.t.length ≤ 45) (h2 : ∀ c ∈ l.t, Legal c) (h3 : l.at' < 1000000) : Nice l.d 1 2000 := by
  refine (Nice.tuple (k := 0) (n := 452) fun d hd => ?_).mono (Nat.le_refl _) (by simp)
  simp only [List.mem_cons, List.not_mem_nil, or_false] at hd
  rcases hd with rfl | rfl | rfl
  · exact (nice_k _).mono (Nat.le_refl _) (by decide)
  · exact (nice_tx fun c hc => legal_small (h2 c hc)).mono (Nat.le_refl _) (by omega)
  · exact (nice_i h3).mono (Nat.le_refl _) (by decide)
theorem Line.nice {t : List Nat} {fs : List Lm} (h : Line t fs) : Nice (.tuple [.str "told", .list (fs.map Lm.d)]) 3 2000000 := by
  obtain ⟨o, I⟩ := h.ex
  refine (Nice.tuple (k := 2) (n := 900000) fun d hd => ?_).mono (Nat.le_refl _) (by simp)
  simp only [List.mem_cons, List.not_mem_nil, or_false] at hd
  rcases hd with rfl | rfl
  · exact (Nice.str (n := 10) (by decide +kernel)).mono (by decide) (by decide)
  · refine (Nice.list (k := 1) (n := 2000) fun d hd => ?_).mono (Nat.le_refl _) ?_
    · obtain ⟨l, hl, rfl⟩ := List.mem_map.mp hd
      have := I.at' l hl
      have := h.len
      exact nice_lm (I.short l hl).1 (I.short l hl).2 (by omega)
    · rw [List.length_map]
      have := h.few
      omega
theorem nice_wrong {p : Nat} (h : p < 1000000) : Nice (.tuple [.str "wrong", .int (p : Int)]) 1 100 := by
  refine (Nice.tuple (k := 0) (n := 10) fun d hd => ?_).mono (Nat.le_refl _) (by simp)
  simp only [List.mem_cons, List.not_mem_nil, or_false] at hd
  rcases hd with rfl | rfl
  · exact Nice.str (by decide +kernel)
  · exact (nice_i h).mono (Nat.le_refl _) (by decide)
/-! ### a lap of the law -/
abbrev mS (o2 o3 o4 o5 o6 o7 o8 o9 o10 o11 : Option SV) (sr : Src) : S := ⟨[none, some .src, o2, o3, o4, o5, o6, o7, o8, o9, o10, o11], some sr⟩
theorem wrongs_ok : ∀ y ∈ [PyData.str "A", .str ".", .str "_", .str "(", .str "*", .str "\t", .str "+", .str "/", .str "=", .str "~"], ∃ g, y = .str (tx g) ∧ ∃ w, g = [w] ∧ w ∉ BL ∧ w ∉ SG ∧ w ∉ AN := fun y hy =>
  lit_of (xs := ["A", ".", "_", "(", "*", "\t", "+", "/", "=", "~"]) (ls := [[65], [46], [95], [40], [42], [9], [43], [47], [61], [126]]) (by decide +kernel) (P := fun g => ∃ w, g = [w] ∧ w ∉ BL ∧ w ∉ SG ∧ w ∉ AN) (by
    intro l hl
    simp only [List.mem_cons, List.not_mem_nil, or_false] at hl
    rcases hl with rfl | rfl | rfl | rfl | rfl | rfl | rfl | rfl | rfl | rfl <;> exact ⟨_, rfl, by decide, by decide, by decide⟩) hy
theorem junk_ok : ∀ y ∈ [PyData.str "", .str "?", .str " x;", .str "B"], ∃ g, y = .str (tx g) ∧ g.length ≤ 3 := fun y hy =>
  lit_of (xs := ["", "?", " x;", "B"]) (ls := [[], [63], [32, 120, 59], [66]]) (by decide +kernel) (P := fun g => g.length ≤ 3) (by decide) hy
theorem lap_ok (c : Addr) {n : Nat} (hn : n ≤ 400) (o3 o4 o5 o6 o7 o8 o9 o10 o11 : Option SV) {sr : Src} (hi : SrcIn sr) : ∃ o6' o7' o8' o9' o10' sr', SrcIn sr' ∧ b_law_0 c (mS (some (.sh (.int (n : Int)))) o3 o4 o5 o6 o7 o8 o9 o10 o11 sr) = .ok .nx (mS (some (.sh (.int (n : Int)))) o3 o4 o5 o6' o7' o8' o9' o10' o11 sr') := by
  obtain ⟨r1, sr1, e1, ⟨t, fs, rfl, hL⟩, i1⟩ := (line_draws hn).app (n := 2) hi
  obtain ⟨o, I⟩ := hL.ex
  have hl := hL.len
  have e2 := (told_ok c (T := t) (by omega) I.scan).app (n := 1)
  have e3 := t_len (l := t) (by omega)
  obtain ⟨r4, sr4, e4, ⟨v, rfl, p0, p1⟩, i4⟩ := (pick_draws (many := (t.length : Int) + 1) (by omega)).app (n := 2) i1
  obtain ⟨p, rfl⟩ : ∃ p : Nat, v = (p : Int) := ⟨v.toNat, by omega⟩
  have hp : p ≤ t.length := by omega
  obtain ⟨r5, sr5, e5, ⟨y, hy, rfl⟩, i5⟩ := (of_draws (xs := [.str "A", .str ".", .str "_", .str "(", .str "*", .str "\t", .str "+", .str "/", .str "=", .str "~"]) (by simp) (by simp)).app (n := 2) i4
  obtain ⟨_, rfl, w, rfl, w1, w2, w3⟩ := wrongs_ok y hy
  obtain ⟨r6, sr6, e6, ⟨z, hz, rfl⟩, i6⟩ := (of_draws (xs := [.str "", .str "?", .str " x;", .str "B"]) (by simp) (by simp)).app (n := 2) i5
  obtain ⟨j, rfl, hj⟩ := junk_ok z hz
  have k1 := t_take (l := t) (by omega) p
  have k2 := t_drop (l := t) (by omega) p
  have l1 : (t.take p).length ≤ 20000 := by rw [List.length_take]; omega
  have l2 : (t.drop p).length ≤ 20000 := by rw [List.length_drop]; omega
  have k3 := t_add (a := t.take p) (b := [w]) (by simp; omega)
  have k4 := t_add (a := t.take p ++ [w]) (b := t.drop p) (by simp; omega)
  have k5 := t_add (a := t.take p ++ [w] ++ t.drop p) (b := j) (by simp; omega)
  obtain ⟨ls, hs⟩ := I.wrong hp w1 w2 w3 j
  have e7 := (told_no c (T := t.take p ++ [w] ++ t.drop p ++ j) (by simp; omega) hs).app (n := 1)
  simp only [App] at e2 e7
  refine ⟨some (.sh (.int (p : Int))), some (.sh (.str (tx [w]))), some (.sh (.str (tx (t.take p ++ [w] ++ t.drop p ++ j)))), some (.sh (.str (tx t))), some (.sh (.list (fs.map Lm.d))), sr6, i6, ?_⟩
  have a1 : cAsg (cCall 2 F_law_line (cCons (cVar 1) (cCons (cVar 2) cNil))) (gTp (gsCons (gNm 9) (gsCons (gNm 10) gsNil))) (mS (some (.sh (.int (n : Int)))) o3 o4 o5 o6 o7 o8 o9 o10 o11 sr) = .ok .nx (mS (some (.sh (.int (n : Int)))) o3 o4 o5 o6 o7 o8 (some (.sh (.str (tx t)))) (some (.sh (.list (fs.map Lm.d)))) o11 sr1) := by
    simp only [cSeq, cSkip, cAsg, cRet, cExpr, cIfS, cFor, cPar, cAug, cSetIx, cBinE, cBinV, cCall1, cCallN, cCall, cIt, cRangeC1, cRangeC2, cEnum, cZip, cTup, cLst, cNil, cCons, cConsR, cStar, cD, cVar, cVarV, vE, cT, cAnd, cOr, cNot, cAndV, cOrV, cNotV, cIf, cChain, cSlE2, cSlV2, bnd, cRev2, cNeg, cBits, cMeth, gNm, gTp, gsCons, gsNil, setMany, datAt, SV.dat, SV.settle, datas, fnsOf, cTupF, cFn, okA, tyD, bnd_ok, bnd_exc, opt_some, quiet_ok, shs_cons, shs_nil, itemsOf, Option.map_some, Option.bind_some, Option.map_none, Option.bind_none, padS, List.map_cons, List.map_nil, List.length_cons, List.length_nil, Nat.reduceAdd, Nat.reduceSub, List.replicate_succ, List.replicate_zero, List.cons_append, List.nil_append, List.getElem?_cons_zero, List.getElem?_cons_succ, List.set_cons_zero, List.set_cons_succ, if_true, if_false, Bool.false_eq_true, dGt, dLt, dLe2, dGe2, dOrd, dOrdI, dAddI, dSub, decide_eq_true_eq, Bool.not_eq_true', decide_eq_false_iff_not, sizeLine_eq, Nat.reduceLeDiff, Nat.zero_le, Nat.reduceLT, Nat.reducePow, beq_self_eq_true, id_eq, mS, e1]
  have a2 : cIfS (cT (cBinE dNe (cCall1 dRepr (vE (cCall 1 (F_law_told c) (cCons (cVar 9) cNil)))) (vE (cCall1 dRepr (vE (cTup (cCons (cD (.str "told")) (cCons (cVar 10) cNil)))))))) (cRet (cD (.bool false))) cSkip (mS (some (.sh (.int (n : Int)))) o3 o4 o5 o6 o7 o8 (some (.sh (.str (tx t)))) (some (.sh (.list (fs.map Lm.d)))) o11 sr1) = .ok .nx (mS (some (.sh (.int (n : Int)))) o3 o4 o5 o6 o7 o8 (some (.sh (.str (tx t)))) (some (.sh (.list (fs.map Lm.d)))) o11 sr1) := by
    refine ifs_ff (s1 := mS (some (.sh (.int (n : Int)))) o3 o4 o5 o6 o7 o8 (some (.sh (.str (tx t)))) (some (.sh (.list (fs.map Lm.d)))) o11 sr1) (reprs_ne (s1 := mS (some (.sh (.int (n : Int)))) o3 o4 o5 o6 o7 o8 (some (.sh (.str (tx t)))) (some (.sh (.list (fs.map Lm.d)))) o11 sr1) hL.nice (by decide) (by decide) (Eq.refl _) ?_ ?_) (by rfl)
    · simp only [cSeq, cSkip, cAsg, cRet, cExpr, cIfS, cFor, cPar, cAug, cSetIx, cBinE, cBinV, cCall1, cCallN, cCall, cIt, cRangeC1, cRangeC2, cEnum, cZip, cTup, cLst, cNil, cCons, cConsR, cStar, cD, cVar, cVarV, vE, cT, cAnd, cOr, cNot, cAndV, cOrV, cNotV, cIf, cChain, cSlE2, cSlV2, bnd, cRev2, cNeg, cBits, cMeth, gNm, gTp, gsCons, gsNil, setMany, datAt, SV.dat, SV.settle, datas, fnsOf, cTupF, cFn, okA, tyD, bnd_ok, bnd_exc, opt_some, quiet_ok, shs_cons, shs_nil, itemsOf, Option.map_some, Option.bind_some, Option.map_none, Option.bind_none, padS, List.map_cons, List.map_nil, List.length_cons, List.length_nil, Nat.reduceAdd, Nat.reduceSub, List.replicate_succ, List.replicate_zero, List.cons_append, List.nil_append, List.getElem?_cons_zero, List.getElem?_cons_succ, List.set_cons_zero, List.set_cons_succ, if_true, if_false, Bool.false_eq_true, dGt, dLt, dLe2, dGe2, dOrd, dOrdI, dAddI, dSub, decide_eq_true_eq, Bool.not_eq_true', decide_eq_false_iff_not, sizeLine_eq, Nat.reduceLeDiff, Nat.zero_le, Nat.reduceLT, Nat.reducePow, beq_self_eq_true, id_eq, mS, e2]
    · simp only [cSeq, cSkip, cAsg, cRet, cExpr, cIfS, cFor, cPar, cAug, cSetIx, cBinE, cBinV, cCall1, cCallN, cCall, cIt, cRangeC1, cRangeC2, cEnum, cZip, cTup, cLst, cNil, cCons, cConsR, cStar, cD, cVar, cVarV, vE, cT, cAnd, cOr, cNot, cAndV, cOrV, cNotV, cIf, cChain, cSlE2, cSlV2, bnd, cRev2, cNeg, cBits, cMeth, gNm, gTp, gsCons, gsNil, setMany, datAt, SV.dat, SV.settle, datas, fnsOf, cTupF, cFn, okA, tyD, bnd_ok, bnd_exc, opt_some, quiet_ok, shs_cons, shs_nil, itemsOf, Option.map_some, Option.bind_some, Option.map_none, Option.bind_none, padS, List.map_cons, List.map_nil, List.length_cons, List.length_nil, Nat.reduceAdd, Nat.reduceSub, List.replicate_succ, List.replicate_zero, List.cons_append, List.nil_append, List.getElem?_cons_zero, List.getElem?_cons_succ, List.set_cons_zero, List.set_cons_succ, if_true, if_false, Bool.false_eq_true, dGt, dLt, dLe2, dGe2, dOrd, dOrdI, dAddI, dSub, decide_eq_true_eq, Bool.not_eq_true', decide_eq_false_iff_not, sizeLine_eq, Nat.reduceLeDiff, Nat.zero_le, Nat.reduceLT, Nat.reducePow, beq_self_eq_true, id_eq, mS, dis_tup]
  have a3 : cAsg (cCall 2 F_law_pick (cCons (cVar 1) (cCons (cBinE dAdd (cCall1 dLen (cVarV 9)) (vE (cD (.int 1)))) cNil))) (gNm 6) (mS (some (.sh (.int (n : Int)))) o3 o4 o5 o6 o7 o8 (some (.sh (.str (tx t)))) (some (.sh (.list (fs.map Lm.d)))) o11 sr1) = .ok .nx (mS (some (.sh (.int (n : Int)))) o3 o4 o5 (some (.sh (.int (p : Int)))) o7 o8 (some (.sh (.str (tx t)))) (some (.sh (.list (fs.map Lm.d)))) o11 sr4) := by
    simp only [cSeq, cSkip, cAsg, cRet, cExpr, cIfS, cFor, cPar, cAug, cSetIx, cBinE, cBinV, cCall1, cCallN, cCall, cIt, cRangeC1, cRangeC2, cEnum, cZip, cTup, cLst, cNil, cCons, cConsR, cStar, cD, cVar, cVarV, vE, cT, cAnd, cOr, cNot, cAndV, cOrV, cNotV, cIf, cChain, cSlE2, cSlV2, bnd, cRev2, cNeg, cBits, cMeth, gNm, gTp, gsCons, gsNil, setMany, datAt, SV.dat, SV.settle, datas, fnsOf, cTupF, cFn, okA, tyD, bnd_ok, bnd_exc, opt_some, quiet_ok, shs_cons, shs_nil, itemsOf, Option.map_some, Option.bind_some, Option.map_none, Option.bind_none, padS, List.map_cons, List.map_nil, List.length_cons, List.length_nil, Nat.reduceAdd, Nat.reduceSub, List.replicate_succ, List.replicate_zero, List.cons_append, List.nil_append, List.getElem?_cons_zero, List.getElem?_cons_succ, List.set_cons_zero, List.set_cons_succ, if_true, if_false, Bool.false_eq_true, dGt, dLt, dLe2, dGe2, dOrd, dOrdI, dAddI, dSub, decide_eq_true_eq, Bool.not_eq_true', decide_eq_false_iff_not, sizeLine_eq, Nat.reduceLeDiff, Nat.zero_le, Nat.reduceLT, Nat.reducePow, beq_self_eq_true, id_eq, mS, e3, add_int, e4]
  unfold b_law_0
  refine seq_nx a1 (seq_nx a2 (seq_nx a3 ?_))
  refine seq_nx (s1 := mS (some (.sh (.int (n : Int)))) o3 o4 o5 (some (.sh (.int (p : Int)))) (some (.sh (.str (tx [w])))) o8 (some (.sh (.str (tx t)))) (some (.sh (.list (fs.map Lm.d)))) o11 sr5) ?_ (seq_nx (s1 := mS (some (.sh (.int (n : Int)))) o3 o4 o5 (some (.sh (.int (p : Int)))) (some (.sh (.str (tx [w])))) (some (.sh (.str (tx (t.take p ++ [w] ++ t.drop p ++ j))))) (some (.sh (.str (tx t)))) (some (.sh (.list (fs.map Lm.d)))) o11 sr6) ?_ ?_)
  · simp only [cSeq, cSkip, cAsg, cRet, cExpr, cIfS, cFor, cPar, cAug, cSetIx, cBinE, cBinV, cCall1, cCallN, cCall, cIt, cRangeC1, cRangeC2, cEnum, cZip, cTup, cLst, cNil, cCons, cConsR, cStar, cD, cVar, cVarV, vE, cT, cAnd, cOr, cNot, cAndV, cOrV, cNotV, cIf, cChain, cSlE2, cSlV2, bnd, cRev2, cNeg, cBits, cMeth, gNm, gTp, gsCons, gsNil, setMany, datAt, SV.dat, SV.settle, datas, fnsOf, cTupF, cFn, okA, tyD, bnd_ok, bnd_exc, opt_some, quiet_ok, shs_cons, shs_nil, itemsOf, Option.map_some, Option.bind_some, Option.map_none, Option.bind_none, padS, List.map_cons, List.map_nil, List.length_cons, List.length_nil, Nat.reduceAdd, Nat.reduceSub, List.replicate_succ, List.replicate_zero, List.cons_append, List.nil_append, List.getElem?_cons_zero, List.getElem?_cons_succ, List.set_cons_zero, List.set_cons_succ, if_true, if_false, Bool.false_eq_true, dGt, dLt, dLe2, dGe2, dOrd, dOrdI, dAddI, dSub, decide_eq_true_eq, Bool.not_eq_true', decide_eq_false_iff_not, sizeLine_eq, Nat.reduceLeDiff, Nat.zero_le, Nat.reduceLT, Nat.reducePow, beq_self_eq_true, id_eq, mS, dis_lst, e5]
  · simp only [cSeq, cSkip, cAsg, cRet, cExpr, cIfS, cFor, cPar, cAug, cSetIx, cBinE, cBinV, cCall1, cCallN, cCall, cIt, cRangeC1, cRangeC2, cEnum, cZip, cTup, cLst, cNil, cCons, cConsR, cStar, cD, cVar, cVarV, vE, cT, cAnd, cOr, cNot, cAndV, cOrV, cNotV, cIf, cChain, cSlE2, cSlV2, bnd, cRev2, cNeg, cBits, cMeth, gNm, gTp, gsCons, gsNil, setMany, datAt, SV.dat, SV.settle, datas, fnsOf, cTupF, cFn, okA, tyD, bnd_ok, bnd_exc, opt_some, quiet_ok, shs_cons, shs_nil, itemsOf, Option.map_some, Option.bind_some, Option.map_none, Option.bind_none, padS, List.map_cons, List.map_nil, List.length_cons, List.length_nil, Nat.reduceAdd, Nat.reduceSub, List.replicate_succ, List.replicate_zero, List.cons_append, List.nil_append, List.getElem?_cons_zero, List.getElem?_cons_succ, List.set_cons_zero, List.set_cons_succ, if_true, if_false, Bool.false_eq_true, dGt, dLt, dLe2, dGe2, dOrd, dOrdI, dAddI, dSub, decide_eq_true_eq, Bool.not_eq_true', decide_eq_false_iff_not, sizeLine_eq, Nat.reduceLeDiff, Nat.zero_le, Nat.reduceLT, Nat.reducePow, beq_self_eq_true, id_eq, mS, k1, k2, k3, k4, dis_lst, e6, k5]
  · refine ifs_ff (s1 := mS (some (.sh (.int (n : Int)))) o3 o4 o5 (some (.sh (.int (p : Int)))) (some (.sh (.str (tx [w])))) (some (.sh (.str (tx (t.take p ++ [w] ++ t.drop p ++ j))))) (some (.sh (.str (tx t)))) (some (.sh (.list (fs.map Lm.d)))) o11 sr6) (reprs_ne (s1 := mS (some (.sh (.int (n : Int)))) o3 o4 o5 (some (.sh (.int (p : Int)))) (some (.sh (.str (tx [w])))) (some (.sh (.str (tx (t.take p ++ [w] ++ t.drop p ++ j))))) (some (.sh (.str (tx t)))) (some (.sh (.list (fs.map Lm.d)))) o11 sr6) (nice_wrong (p := p) (by omega)) (by decide) (by decide) (Eq.refl _) ?_ ?_) (by rfl)
    · simp only [cSeq, cSkip, cAsg, cRet, cExpr, cIfS, cFor, cPar, cAug, cSetIx, cBinE, cBinV, cCall1, cCallN, cCall, cIt, cRangeC1, cRangeC2, cEnum, cZip, cTup, cLst, cNil, cCons, cConsR, cStar, cD, cVar, cVarV, vE, cT, cAnd, cOr, cNot, cAndV, cOrV, cNotV, cIf, cChain, cSlE2, cSlV2, bnd, cRev2, cNeg, cBits, cMeth, gNm, gTp, gsCons, gsNil, setMany, datAt, SV.dat, SV.settle, datas, fnsOf, cTupF, cFn, okA, tyD, bnd_ok, bnd_exc, opt_some, quiet_ok, shs_cons, shs_nil, itemsOf, Option.map_some, Option.bind_some, Option.map_none, Option.bind_none, padS, List.map_cons, List.map_nil, List.length_cons, List.length_nil, Nat.reduceAdd, Nat.reduceSub, List.replicate_succ, List.replicate_zero, List.cons_append, List.nil_append, List.getElem?_cons_zero, List.getElem?_cons_succ, List.set_cons_zero, List.set_cons_succ, if_true, if_false, Bool.false_eq_true, dGt, dLt, dLe2, dGe2, dOrd, dOrdI, dAddI, dSub, decide_eq_true_eq, Bool.not_eq_true', decide_eq_false_iff_not, sizeLine_eq, Nat.reduceLeDiff, Nat.zero_le, Nat.reduceLT, Nat.reducePow, beq_self_eq_true, id_eq, mS, e7]
    · simp only [cSeq, cSkip, cAsg, cRet, cExpr, cIfS, cFor, cPar, cAug, cSetIx, cBinE, cBinV, cCall1, cCallN, cCall, cIt, cRangeC1, cRangeC2, cEnum, cZip, cTup, cLst, cNil, cCons, cConsR, cStar, cD, cVar, cVarV, vE, cT, cAnd, cOr, cNot, cAndV, cOrV, cNotV, cIf, cChain, cSlE2, cSlV2, bnd, cRev2, cNeg, cBits, cMeth, gNm, gTp, gsCons, gsNil, setMany, datAt, SV.dat, SV.settle, datas, fnsOf, cTupF, cFn, okA, tyD, bnd_ok, bnd_exc, opt_some, quiet_ok, shs_cons, shs_nil, itemsOf, Option.map_some, Option.bind_some, Option.map_none, Option.bind_none, padS, List.map_cons, List.map_nil, List.length_cons, List.length_nil, Nat.reduceAdd, Nat.reduceSub, List.replicate_succ, List.replicate_zero, List.cons_append, List.nil_append, List.getElem?_cons_zero, List.getElem?_cons_succ, List.set_cons_zero, List.set_cons_succ, if_true, if_false, Bool.false_eq_true, dGt, dLt, dLe2, dGe2, dOrd, dOrdI, dAddI, dSub, decide_eq_true_eq, Bool.not_eq_true', decide_eq_false_iff_not, sizeLine_eq, Nat.reduceLeDiff, Nat.zero_le, Nat.reduceLT, Nat.reducePow, beq_self_eq_true, id_eq, mS, dis_tup]
end Law
end Pw
set_option Elab.async false
set_option linter.all false
set_option maxRecDepth 100000
namespace Pw
namespace Law
open PySem PySem.Spec PyProof.Rows L2 Pw.Lx
/-! ### is_name, twice -/
theorem plain_s (w : List Str) : PyData.plainAll (w.map .str) = true := by
  induction w with
  | nil => rfl
  | cons p w ih => simp only [List.map_cons, PyData.plainAll, PyData.plain, ih, Bool.and_self]
theorem depth_s (w : List Str) : PyData.depthAll (w.map .str) = 0 := by
  induction w with
  | nil => rfl
  | cons p w ih => simp only [List.map_cons, PyData.depthAll, ih, PyData.depth, Nat.max_self]
theorem any_s (x : Str) : ∀ w : List Str, ((w.map PyData.str).any fun y => PyData.eqv y (.str x)) = decide (x ∈ w)
  | [] => by simp
  | p :: w => by
    rw [List.map_cons, List.any_cons, any_s x w]
    simp only [PyData.eqv, List.mem_cons]
    by_cases h1 : x = p
    · subst h1; simp
    · have : ¬ p = x := fun z => h1 z.symm
      by_cases h2 : x ∈ w <;> simp [h1, h2, this]
theorem inOk_s (x : Str) (w : List Str) : inOk (.str x) (w.map .str) = true := by
  unfold inOk
  rw [plain_s]
  rfl
theorem in_t (x : Str) (w : List Str) : dIn false (.str x) (.tuple (w.map .str)) = some (.sh (.bool (decide (x ∈ w)))) := by
  unfold dIn
  dsimp only
  rw [if_pos (inOk_s x w), any_s, Bool.false_xor]
theorem in_l (x : Str) (w : List Str) : dIn false (.str x) (.list (w.map .str)) = some (.sh (.bool (decide (x ∈ w)))) := by
  unfold dIn
  dsimp only
  rw [if_pos (inOk_s x w), any_s, Bool.false_xor]
theorem is_str (x : Str) : dIsTy "str" (.str x) = some (.sh (.bool true)) := by
  have : kitB "str" "str" = some true := by decide +kernel
  unfold dIsTy tyNm
  simp only [Option.bind_some, this, Option.map_some]
def nmB : List Nat → Bool
  | [] => false
  | c :: r => decide ((c :: r).length ≤ 12) && (decide (c ∈ SM) && (!decide (tx (c :: r) ∈ kk_KEPT) && (c :: r).all fun c => decide (c ∈ AN)))
theorem nmB_cons (c : Nat) (r : List Nat) : nmB (c :: r) = (decide ((c :: r).length ≤ 12) && (decide (c ∈ SM) && (!decide (tx (c :: r) ∈ kk_KEPT) && (c :: r).all fun c => decide (c ∈ AN)))) := rfl
theorem all_ok (ns : List Bool) : dAll (.list (ns.map .bool)) = some (.sh (.bool (ns.all id))) := by
  unfold dAll
  dsimp only
  rw [bools_map]
  rfl
theorem chars_tx (l : List Nat) : chars (tx l) = l.map fun c => .str (tx [c]) := rfl
theorem name_all {l : List Nat} (hl : l.length ≤ 1000) (src : Option Src) : cCall1 dAll (vE (cComp (cIt (cVar 0)) (gNm 1) cYes e_is_name_0 [1])) ⟨[some (.sh (.str (tx l))), none], src⟩ = .ok (.sh (.bool (l.all fun c => decide (c ∈ AN)))) ⟨[some (.sh (.str (tx l))), none], src⟩ := by
  have e4 := e_AN
  have ec := comp_map (g := gNm 1) (f := e_is_name_0) (vs := [1]) (s := ⟨[some (.sh (.str (tx l))), none], src⟩) (fun c : Nat => .sh (.str (tx [c]))) (fun c => .bool (decide (c ∈ AN))) l [] (fun c hc => by
    have e5 := t_in c AN
    refine ⟨⟨[some (.sh (.str (tx l))), some (.sh (.str (tx [c])))], src⟩, ⟨[some (.sh (.str (tx l))), some (.sh (.str (tx [c])))], src⟩, .sh (.bool (decide (c ∈ AN))), rfl, ?_, rfl, rfl⟩
    simp only [e_is_name_0, cSeq, cSkip, cAsg, cRet, cExpr, cIfS, cFor, cPar, cAug, cSetIx, cBinE, cBinV, cCall1, cCallN, cCall, cIt, cRangeC1, cRangeC2, cEnum, cZip, cTup, cLst, cNil, cCons, cConsR, cStar, cD, cVar, cVarV, vE, cT, cAnd, cOr, cNot, cAndV, cOrV, cNotV, cIf, cChain, cSlE2, cSlV2, bnd, cRev2, cNeg, cBits, cMeth, gNm, gTp, gsCons, gsNil, setMany, datAt, SV.dat, SV.settle, datas, fnsOf, cTupF, cFn, okA, tyD, bnd_ok, bnd_exc, opt_some, quiet_ok, shs_cons, shs_nil, itemsOf, Option.map_some, Option.bind_some, Option.map_none, Option.bind_none, padS, List.map_cons, List.map_nil, List.length_cons, List.length_nil, Nat.reduceAdd, Nat.reduceSub, List.replicate_succ, List.replicate_zero, List.cons_append, List.nil_append, List.getElem?_cons_zero, List.getElem?_cons_succ, List.set_cons_zero, List.set_cons_succ, if_true, if_false, Bool.false_eq_true, dGt, dLt, dLe2, dGe2, dOrd, dOrdI, dAddI, dSub, decide_eq_true_eq, Bool.not_eq_true', decide_eq_false_iff_not, sizeLine_eq, Nat.reduceLeDiff, Nat.zero_le, Nat.reduceLT, Nat.reducePow, beq_self_eq_true, id_eq, e4, e5]) (szl (by simp; omega))
  have es : shs (chars (tx l)) = l.map fun c => SV.sh (.str (tx [c])) := by
    rw [chars_tx]
    unfold shs
    rw [List.map_map]
    rfl
  have ea := all_ok (l.map fun c => decide (c ∈ AN))
  rw [List.map_map, List.all_map] at ea
  have ef : (fun c : Nat => PyData.bool (decide (c ∈ AN))) = (PyData.bool ∘ fun c => decide (c ∈ AN)) := rfl
  simp only [List.nil_append, ef] at ec
  have eg : (id ∘ fun c => decide (c ∈ AN)) = fun c => decide (c ∈ AN) := rfl
  rw [eg] at ea
  simp only [cSeq, cSkip, cAsg, cRet, cExpr, cIfS, cFor, cPar, cAug, cSetIx, cBinE, cBinV, cCall1, cCallN, cCall, cIt, cRangeC1, cRangeC2, cEnum, cZip, cTup, cLst, cNil, cCons, cConsR, cStar, cD, cVar, cVarV, vE, cT, cAnd, cOr, cNot, cAndV, cOrV, cNotV, cIf, cChain, cSlE2, cSlV2, bnd, cRev2, cNeg, cBits, cMeth, gNm, gTp, gsCons, gsNil, setMany, datAt, SV.dat, SV.settle, datas, fnsOf, cTupF, cFn, okA, tyD, bnd_ok, bnd_exc, opt_some, quiet_ok, shs_cons, shs_nil, itemsOf, Option.map_some, Option.bind_some, Option.map_none, Option.bind_none, padS, List.map_cons, List.map_nil, List.length_cons, List.length_nil, Nat.reduceAdd, Nat.reduceSub, List.replicate_succ, List.replicate_zero, List.cons_append, List.nil_append, List.getElem?_cons_zero, List.getElem?_cons_succ, List.set_cons_zero, List.set_cons_succ, if_true, if_false, Bool.false_eq_true, dGt, dLt, dLe2, dGe2, dOrd, dOrdI, dAddI, dSub, decide_eq_true_eq, Bool.not_eq_true', decide_eq_false_iff_not, sizeLine_eq, Nat.reduceLeDiff, Nat.zero_le, Nat.reduceLT, Nat.reducePow, beq_self_eq_true, id_eq, cComp, es, wipeS, ec, backS, ea]
  rfl
theorem name_ok {l : List Nat} (hl : l.length ≤ 1000) : Rets F_is_name [.sh (.str (tx l))] (.sh (.bool (nmB l))) := rets_of fun src => by
  have e1 := is_str (tx l)
  have e2 := t_len (l := l) (by omega)
  refine ⟨[some (.sh (.str (tx l))), none], ?_⟩
  have e9 := name_all hl src
  cases l with
  | nil =>
    simp only [List.length_nil] at e2
    have : ¬ (0 : Int) < ((0 : Nat) : Int) := by decide
    simp only [m_is_name, cSeq, cSkip, cAsg, cRet, cExpr, cIfS, cFor, cPar, cAug, cSetIx, cBinE, cBinV, cCall1, cCallN, cCall, cIt, cRangeC1, cRangeC2, cEnum, cZip, cTup, cLst, cNil, cCons, cConsR, cStar, cD, cVar, cVarV, vE, cT, cAnd, cOr, cNot, cAndV, cOrV, cNotV, cIf, cChain, cSlE2, cSlV2, bnd, cRev2, cNeg, cBits, cMeth, gNm, gTp, gsCons, gsNil, setMany, datAt, SV.dat, SV.settle, datas, fnsOf, cTupF, cFn, okA, tyD, bnd_ok, bnd_exc, opt_some, quiet_ok, shs_cons, shs_nil, itemsOf, Option.map_some, Option.bind_some, Option.map_none, Option.bind_none, padS, List.map_cons, List.map_nil, List.length_cons, List.length_nil, Nat.reduceAdd, Nat.reduceSub, List.replicate_succ, List.replicate_zero, List.cons_append, List.nil_append, List.getElem?_cons_zero, List.getElem?_cons_succ, List.set_cons_zero, List.set_cons_succ, if_true, if_false, Bool.false_eq_true, dGt, dLt, dLe2, dGe2, dOrd, dOrdI, dAddI, dSub, decide_eq_true_eq, Bool.not_eq_true', decide_eq_false_iff_not, sizeLine_eq, Nat.reduceLeDiff, Nat.zero_le, Nat.reduceLT, Nat.reducePow, beq_self_eq_true, id_eq, e1, e2, this, decide_false, Bool.not_true, Bool.not_false, nmB]
  | cons c r =>
    have h0 : (0 : Int) < (((c :: r).length : Nat) : Int) := by rw [List.length_cons]; omega
    by_cases h1 : (c :: r).length ≤ 12
    · have h1' : ¬ (12 : Int) < (((c :: r).length : Nat) : Int) := by omega
      have h1'' : (((c :: r).length : Nat) : Int) ≤ 12 := by omega
      have e3 : dIx (.str (tx (c :: r))) (.int 0) = some (.sh (.str (tx [c]))) := t_ix (by omega) (atI_zero c r)
      have e4 := t_notIn c SM
      rw [← e_SM] at e4
      have e5 := in_t (tx (c :: r)) kk_KEPT
      by_cases h2 : c ∈ SM
      · rw [decide_eq_true h2] at e4
        by_cases h3 : tx (c :: r) ∈ kk_KEPT
        · rw [decide_eq_true h3] at e5
          simp only [List.map_cons, List.map_nil] at e5
          have en : nmB (c :: r) = false := by simp [nmB, h3]
          rw [en]
          generalize (c :: r).length = n at *
          generalize tx (c :: r) = x at *
          simp only [m_is_name, cIfS, cOr, cNot, cT, cSeq, cRet, cSkip, cBinE, cBinV, cCall1, cVarV, cChain, cD, vE, cSeq, cSkip, cAsg, cRet, cExpr, cIfS, cFor, cPar, cAug, cSetIx, cBinE, cBinV, cCall1, cCallN, cCall, cIt, cRangeC1, cRangeC2, cEnum, cZip, cTup, cLst, cNil, cCons, cConsR, cStar, cD, cVar, cVarV, vE, cT, cAnd, cOr, cNot, cAndV, cOrV, cNotV, cIf, cChain, cSlE2, cSlV2, bnd, cRev2, cNeg, cBits, cMeth, gNm, gTp, gsCons, gsNil, setMany, datAt, SV.dat, SV.settle, datas, fnsOf, cTupF, cFn, okA, tyD, bnd_ok, bnd_exc, opt_some, quiet_ok, shs_cons, shs_nil, itemsOf, Option.map_some, Option.bind_some, Option.map_none, Option.bind_none, padS, List.map_cons, List.map_nil, List.length_cons, List.length_nil, Nat.reduceAdd, Nat.reduceSub, List.replicate_succ, List.replicate_zero, List.cons_append, List.nil_append, List.getElem?_cons_zero, List.getElem?_cons_succ, List.set_cons_zero, List.set_cons_succ, if_true, if_false, Bool.false_eq_true, dGt, dLt, dLe2, dGe2, dOrd, dOrdI, dAddI, dSub, decide_eq_true_eq, Bool.not_eq_true', decide_eq_false_iff_not, sizeLine_eq, Nat.reduceLeDiff, Nat.zero_le, Nat.reduceLT, Nat.reducePow, beq_self_eq_true, id_eq, e1, e2, h0, h1', h1'', decide_true, decide_false, e3, e4, e5, Bool.not_true, Bool.not_false]
        · rw [decide_eq_false h3] at e5
          simp only [List.map_cons, List.map_nil] at e5
          have en : nmB (c :: r) = (c :: r).all fun c => decide (c ∈ AN) := by
            rw [nmB_cons, decide_eq_true h1, decide_eq_true h2, decide_eq_false h3]
            rfl
          rw [en]
          unfold m_is_name
          refine seq_nx (s1 := ⟨[some (.sh (.str (tx (c :: r)))), none], src⟩) ?_ (ret_ok e9)
          generalize (c :: r).length = n at *
          generalize tx (c :: r) = x at *
          simp only [cIfS, cSeq, cSkip, cAsg, cRet, cExpr, cIfS, cFor, cPar, cAug, cSetIx, cBinE, cBinV, cCall1, cCallN, cCall, cIt, cRangeC1, cRangeC2, cEnum, cZip, cTup, cLst, cNil, cCons, cConsR, cStar, cD, cVar, cVarV, vE, cT, cAnd, cOr, cNot, cAndV, cOrV, cNotV, cIf, cChain, cSlE2, cSlV2, bnd, cRev2, cNeg, cBits, cMeth, gNm, gTp, gsCons, gsNil, setMany, datAt, SV.dat, SV.settle, datas, fnsOf, cTupF, cFn, okA, tyD, bnd_ok, bnd_exc, opt_some, quiet_ok, shs_cons, shs_nil, itemsOf, Option.map_some, Option.bind_some, Option.map_none, Option.bind_none, padS, List.map_cons, List.map_nil, List.length_cons, List.length_nil, Nat.reduceAdd, Nat.reduceSub, List.replicate_succ, List.replicate_zero, List.cons_append, List.nil_append, List.getElem?_cons_zero, List.getElem?_cons_succ, List.set_cons_zero, List.set_cons_succ, if_true, if_false, Bool.false_eq_true, dGt, dLt, dLe2, dGe2, dOrd, dOrdI, dAddI, dSub, decide_eq_true_eq, Bool.not_eq_true', decide_eq_false_iff_not, sizeLine_eq, Nat.reduceLeDiff, Nat.zero_le, Nat.reduceLT, Nat.reducePow, beq_self_eq_true, id_eq, e1, e2, h0, h1', h1'', decide_true, decide_false, e3, e4, e5, Bool.not_true, Bool.not_false]
      · rw [decide_eq_false h2] at e4
        have en : nmB (c :: r) = false := by simp [nmB, h2]
        rw [en]
        generalize (c :: r).length = n at *
        generalize tx (c :: r) = x at *
        simp only [m_is_name, cSeq, cSkip, cAsg, cRet, cExpr, cIfS, cFor, cPar, cAug, cSetIx, cBinE, cBinV, cCall1, cCallN, cCall, cIt, cRangeC1, cRangeC2, cEnum, cZip, cTup, cLst, cNil, cCons, cConsR, cStar, cD, cVar, cVarV, vE, cT, cAnd, cOr, cNot, cAndV, cOrV, cNotV, cIf, cChain, cSlE2, cSlV2, bnd, cRev2, cNeg, cBits, cMeth, gNm, gTp, gsCons, gsNil, setMany, datAt, SV.dat, SV.settle, datas, fnsOf, cTupF, cFn, okA, tyD, bnd_ok, bnd_exc, opt_some, quiet_ok, shs_cons, shs_nil, itemsOf, Option.map_some, Option.bind_some, Option.map_none, Option.bind_none, padS, List.map_cons, List.map_nil, List.length_cons, List.length_nil, Nat.reduceAdd, Nat.reduceSub, List.replicate_succ, List.replicate_zero, List.cons_append, List.nil_append, List.getElem?_cons_zero, List.getElem?_cons_succ, List.set_cons_zero, List.set_cons_succ, if_true, if_false, Bool.false_eq_true, dGt, dLt, dLe2, dGe2, dOrd, dOrdI, dAddI, dSub, decide_eq_true_eq, Bool.not_eq_true', decide_eq_false_iff_not, sizeLine_eq, Nat.reduceLeDiff, Nat.zero_le, Nat.reduceLT, Nat.reducePow, beq_self_eq_true, id_eq, e1, e2, h0, h1', h1'', decide_true, decide_false, e3, e4, Bool.not_true, Bool.not_false]
    · have h1' : (12 : Int) < (((c :: r).length : Nat) : Int) := by omega
      have h1'' : ¬ (((c :: r).length : Nat) : Int) ≤ 12 := by omega
      have en : nmB (c :: r) = false := by
        have : ¬ (r.length + 1 ≤ 12) := by simpa using h1
        simp [nmB]
        omega
      rw [en]
      generalize (c :: r).length = n at *
      generalize tx (c :: r) = x at *
      simp only [m_is_name, cSeq, cSkip, cAsg, cRet, cExpr, cIfS, cFor, cPar, cAug, cSetIx, cBinE, cBinV, cCall1, cCallN, cCall, cIt, cRangeC1, cRangeC2, cEnum, cZip, cTup, cLst, cNil, cCons, cConsR, cStar, cD, cVar, cVarV, vE, cT, cAnd, cOr, cNot, cAndV, cOrV, cNotV, cIf, cChain, cSlE2, cSlV2, bnd, cRev2, cNeg, cBits, cMeth, gNm, gTp, gsCons, gsNil, setMany, datAt, SV.dat, SV.settle, datas, fnsOf, cTupF, cFn, okA, tyD, bnd_ok, bnd_exc, opt_some, quiet_ok, shs_cons, shs_nil, itemsOf, Option.map_some, Option.bind_some, Option.map_none, Option.bind_none, padS, List.map_cons, List.map_nil, List.length_cons, List.length_nil, Nat.reduceAdd, Nat.reduceSub, List.replicate_succ, List.replicate_zero, List.cons_append, List.nil_append, List.getElem?_cons_zero, List.getElem?_cons_succ, List.set_cons_zero, List.set_cons_succ, if_true, if_false, Bool.false_eq_true, dGt, dLt, dLe2, dGe2, dOrd, dOrdI, dAddI, dSub, decide_eq_true_eq, Bool.not_eq_true', decide_eq_false_iff_not, sizeLine_eq, Nat.reduceLeDiff, Nat.zero_le, Nat.reduceLT, Nat.reducePow, beq_self_eq_true, id_eq, e1, e2, h0, h1', h1'', decide_true, decide_false, Bool.not_true, Bool.not_false]
/-! ### _law_is_name -/
def KA : Str := "again and as back below by comes counts deal even feed form from grow hears in kept leads least letter lot"
def KB : Str := KA ++ " many meets mirror none of order parts pipe power promise returns ring round same spelled"
def KC : Str := KB ++ " stands then times told turn undone where windows word"
theorem s_add {a b : Str} (h : a.length + b.length ≤ 1000000) : dAdd (.str a) (.str b) = some (.sh (.str (a ++ b))) := by
  have : a.length + b.length ≤ sizeLine := szl h
  unfold dAdd
  dsimp only
  rw [if_pos this]
theorem kb_ok : dAdd (.str KA) (.str " many meets mirror none of order parts pipe power promise returns ring round same spelled") = some (.sh (.str KB)) := s_add (by decide +kernel)
theorem kc_ok : dAdd (.str KB) (.str " stands then times told turn undone where windows word") = some (.sh (.str KC)) := s_add (by decide +kernel)
theorem kc_split : dSplit (.str KC) [.str " "] = some (.own (.list (kk_KEPT.map .str))) := by
  have h : (((" " : Str).length == 0) = false ∧ KC.length + 2 ≤ 1000000) := by decide +kernel
  have h2 : ((" " : Str).length == 0) = false ∧ KC.length + 2 ≤ sizeLine := ⟨h.1, szl h.2⟩
  have e1 : (" " : Str) = SX.S [32] := by decide +kernel
  have e2 : KC = SX.S KC.cps.toList := (SX.S_tl KC).symm
  have e3 : (TL.spl [32] 0 [] KC.cps.toList).map SX.S = kk_KEPT := by decide +kernel
  have e4 : Txt.split KC " " = kk_KEPT := by
    rw [e1, e2, SX.split_S (by decide) (by decide), e3]
  unfold dSplit
  dsimp only
  rw [if_pos h2, e4]
theorem eqvAll_nil (xs : List D) : PyData.eqvAll xs [] = xs.isEmpty := by cases xs <;> rfl
theorem dEq_sl (xs : List Str) : dEq (.list (xs.map .str)) (.list []) = some (.sh (.bool xs.isEmpty)) := by
  have h1 : eqOk (.list (xs.map .str)) (.list []) = true := by
    unfold eqOk
    have h2 := plain_s xs
    have h3 := depth_s xs
    simp only [PyData.plain, h2, PyData.plainAll, PyData.depth, h3, Bool.and_self, Bool.true_and, decide_eq_true_eq]
    first | omega | exact decide_eq_true (by omega)
  unfold dEq
  rw [if_pos h1]
  show some (SV.sh (.bool (PyData.eqvAll (xs.map .str) []))) = _
  rw [eqvAll_nil]
  cases xs <;> rfl
abbrev lnS (ks : List D) (x : Str) (o4 : Option SV) (src : Option Src) : S := ⟨[some (.sh (.str x)), some (.own (.list ks)), some (.sh (.str (tx SM))), some (.sh (.str (tx FG))), o4], src⟩
theorem an_add : dAdd (.str (tx SM)) (.str (tx FG)) = some (.sh (.str (tx AN))) := t_add (by decide)
theorem ln_comp (ks : List D) {l : List Nat} (hl : l.length ≤ 1000) (src : Option Src) : cBinE dEq (cComp (cIt (cVar 0)) (gNm 4) c_law_is_name_0 e_law_is_name_1 [4]) (vE (cLst cNil)) (lnS ks (tx l) none src) = .ok (.sh (.bool (l.all fun c => decide (c ∈ AN)))) (lnS ks (tx l) none src) := by
  have e4 := an_add
  have ec := comp_filter (g := gNm 4) (c := c_law_is_name_0) (f := e_law_is_name_1) (vs := [4]) (s := lnS ks (tx l) none src) (fun c : Nat => .sh (.str (tx [c]))) (fun c => !decide (c ∈ AN)) (fun c => .str (tx [c])) l [] (fun c hc => by
    have e5 := t_notIn c AN
    refine ⟨lnS ks (tx l) (some (.sh (.str (tx [c])))) src, lnS ks (tx l) (some (.sh (.str (tx [c])))) src, rfl, ?_, fun _ => rfl, fun _ => ⟨lnS ks (tx l) (some (.sh (.str (tx [c])))) src, .sh (.str (tx [c])), rfl, rfl, rfl⟩⟩
    simp only [c_law_is_name_0, cSeq, cSkip, cAsg, cRet, cExpr, cIfS, cFor, cPar, cAug, cSetIx, cBinE, cBinV, cCall1, cCallN, cCall, cIt, cRangeC1, cRangeC2, cEnum, cZip, cTup, cLst, cNil, cCons, cConsR, cStar, cD, cVar, cVarV, vE, cT, cAnd, cOr, cNot, cAndV, cOrV, cNotV, cIf, cChain, cSlE2, cSlV2, bnd, cRev2, cNeg, cBits, cMeth, gNm, gTp, gsCons, gsNil, setMany, datAt, SV.dat, SV.settle, datas, fnsOf, cTupF, cFn, okA, tyD, bnd_ok, bnd_exc, opt_some, quiet_ok, shs_cons, shs_nil, itemsOf, Option.map_some, Option.bind_some, Option.map_none, Option.bind_none, padS, List.map_cons, List.map_nil, List.length_cons, List.length_nil, Nat.reduceAdd, Nat.reduceSub, List.replicate_succ, List.replicate_zero, List.cons_append, List.nil_append, List.getElem?_cons_zero, List.getElem?_cons_succ, List.set_cons_zero, List.set_cons_succ, if_true, if_false, Bool.false_eq_true, dGt, dLt, dLe2, dGe2, dOrd, dOrdI, dAddI, dSub, decide_eq_true_eq, Bool.not_eq_true', decide_eq_false_iff_not, sizeLine_eq, Nat.reduceLeDiff, Nat.zero_le, Nat.reduceLT, Nat.reducePow, beq_self_eq_true, id_eq, e4, e5]) (szl (by simp; omega))
  have es : shs (chars (tx l)) = l.map fun c => SV.sh (.str (tx [c])) := by
    rw [chars_tx]
    unfold shs
    rw [List.map_map]
    rfl
  have ed := dEq_sl ((l.filter fun c => !decide (c ∈ AN)).map fun c => tx [c])
  rw [List.map_map] at ed
  have ef : (fun c : Nat => PyData.str (tx [c])) = (PyData.str ∘ fun c => tx [c]) := rfl
  have eg : ((l.filter fun c => !decide (c ∈ AN)).map fun c => tx [c]).isEmpty = l.all fun c => decide (c ∈ AN) := by
    rw [Bool.eq_iff_iff]
    simp [List.filter_eq_nil_iff]
  rw [eg] at ed
  simp only [List.nil_append, ef, lnS] at ec
  generalize (l.filter fun c => !decide (c ∈ AN)).map (PyData.str ∘ fun c => tx [c]) = xs at *
  simp only [cBinE, vE, cLst, cNil, cComp, cIt, cVar, cSeq, cSkip, cAsg, cRet, cExpr, cIfS, cFor, cPar, cAug, cSetIx, cBinE, cBinV, cCall1, cCallN, cCall, cIt, cRangeC1, cRangeC2, cEnum, cZip, cTup, cLst, cNil, cCons, cConsR, cStar, cD, cVar, cVarV, vE, cT, cAnd, cOr, cNot, cAndV, cOrV, cNotV, cIf, cChain, cSlE2, cSlV2, bnd, cRev2, cNeg, cBits, cMeth, gNm, gTp, gsCons, gsNil, setMany, datAt, SV.dat, SV.settle, datas, fnsOf, cTupF, cFn, okA, tyD, bnd_ok, bnd_exc, opt_some, quiet_ok, shs_cons, shs_nil, itemsOf, Option.map_some, Option.bind_some, Option.map_none, Option.bind_none, padS, List.map_cons, List.map_nil, List.length_cons, List.length_nil, Nat.reduceAdd, Nat.reduceSub, List.replicate_succ, List.replicate_zero, List.cons_append, List.nil_append, List.getElem?_cons_zero, List.getElem?_cons_succ, List.set_cons_zero, List.set_cons_succ, if_true, if_false, Bool.false_eq_true, dGt, dLt, dLe2, dGe2, dOrd, dOrdI, dAddI, dSub, decide_eq_true_eq, Bool.not_eq_true', decide_eq_false_iff_not, sizeLine_eq, Nat.reduceLeDiff, Nat.zero_le, Nat.reduceLT, Nat.reducePow, beq_self_eq_true, id_eq, lnS, es, wipeS, ec, backS, dis_lst, ed]
  rfl
noncomputable def rest_of : Sm := (cSeq (cIfS (cOr (cNot (cT (cCall1 (dIsTy "str") (cVarV 0)))) (cOr (cNot (cT (cChain dLe2 dLe2 (cD (.int 1)) (cCall1 dLen (cVarV 0)) (vE (cD (.int 12)))))) (cT (cBinV (dIn false) 0 (cVarV 1))))) (cRet (cD (.bool false))) cSkip) (cSeq (cPar [2, 3] (cConsR (cD (.str "abcdefghijklmnopqrstuvwxyz")) (cConsR (cD (.str "0123456789")) cNil))) (cRet (cAndV (cBinE (dIn false) (cBinV dIx 0 (vE (cD (.int 0)))) (cVarV 2)) (cBinE dEq (cComp (cIt (cVar 0)) (gNm 4) c_law_is_name_0 e_law_is_name_1 [4]) (vE (cLst cNil)))))))
theorem lname_m (x : D) (src : Option Src) : m_law_is_name ⟨[some (.sh x), none, none, none, none], src⟩ = rest_of ⟨[some (.sh x), some (.own (.list (kk_KEPT.map .str))), none, none, none], src⟩ := by
  have e1 := kb_ok
  have e2 := kc_ok
  have e3 := kc_split
  have e0 : ("again and as back below by comes counts deal even feed form from grow hears in kept leads least letter lot" : Str) = KA := rfl
  unfold m_law_is_name
  rw [e0]
  generalize KA = ka at *
  generalize KB = kb at *
  generalize KC = kc at *
  generalize kk_KEPT.map PyData.str = ks at *
  refine seq_nx (s1 := ⟨[some (.sh x), some (.sh (.str ka)), none, none, none], src⟩) rfl (seq_nx (s1 := ⟨[some (.sh x), some (.sh (.str kb)), none, none, none], src⟩) ?_ (seq_nx (s1 := ⟨[some (.sh x), some (.own (.list ks)), none, none, none], src⟩) ?_ rfl))
  · simp only [cSeq, cSkip, cAsg, cRet, cExpr, cIfS, cFor, cPar, cAug, cSetIx, cBinE, cBinV, cCall1, cCallN, cCall, cIt, cRangeC1, cRangeC2, cEnum, cZip, cTup, cLst, cNil, cCons, cConsR, cStar, cD, cVar, cVarV, vE, cT, cAnd, cOr, cNot, cAndV, cOrV, cNotV, cIf, cChain, cSlE2, cSlV2, bnd, cRev2, cNeg, cBits, cMeth, gNm, gTp, gsCons, gsNil, setMany, datAt, SV.dat, SV.settle, datas, fnsOf, cTupF, cFn, okA, tyD, bnd_ok, bnd_exc, opt_some, quiet_ok, shs_cons, shs_nil, itemsOf, Option.map_some, Option.bind_some, Option.map_none, Option.bind_none, padS, List.map_cons, List.map_nil, List.length_cons, List.length_nil, Nat.reduceAdd, Nat.reduceSub, List.replicate_succ, List.replicate_zero, List.cons_append, List.nil_append, List.getElem?_cons_zero, List.getElem?_cons_succ, List.set_cons_zero, List.set_cons_succ, if_true, if_false, Bool.false_eq_true, dGt, dLt, dLe2, dGe2, dOrd, dOrdI, dAddI, dSub, decide_eq_true_eq, Bool.not_eq_true', decide_eq_false_iff_not, sizeLine_eq, Nat.reduceLeDiff, Nat.zero_le, Nat.reduceLT, Nat.reducePow, beq_self_eq_true, id_eq, e1]
  · simp only [cSeq, cSkip, cAsg, cRet, cExpr, cIfS, cFor, cPar, cAug, cSetIx, cBinE, cBinV, cCall1, cCallN, cCall, cIt, cRangeC1, cRangeC2, cEnum, cZip, cTup, cLst, cNil, cCons, cConsR, cStar, cD, cVar, cVarV, vE, cT, cAnd, cOr, cNot, cAndV, cOrV, cNotV, cIf, cChain, cSlE2, cSlV2, bnd, cRev2, cNeg, cBits, cMeth, gNm, gTp, gsCons, gsNil, setMany, datAt, SV.dat, SV.settle, datas, fnsOf, cTupF, cFn, okA, tyD, bnd_ok, bnd_exc, opt_some, quiet_ok, shs_cons, shs_nil, itemsOf, Option.map_some, Option.bind_some, Option.map_none, Option.bind_none, padS, List.map_cons, List.map_nil, List.length_cons, List.length_nil, Nat.reduceAdd, Nat.reduceSub, List.replicate_succ, List.replicate_zero, List.cons_append, List.nil_append, List.getElem?_cons_zero, List.getElem?_cons_succ, List.set_cons_zero, List.set_cons_succ, if_true, if_false, Bool.false_eq_true, dGt, dLt, dLe2, dGe2, dOrd, dOrdI, dAddI, dSub, decide_eq_true_eq, Bool.not_eq_true', decide_eq_false_iff_not, sizeLine_eq, Nat.reduceLeDiff, Nat.zero_le, Nat.reduceLT, Nat.reducePow, beq_self_eq_true, id_eq, cMethE, e2, e3]
theorem lname_ok {l : List Nat} (hl : l.length ≤ 1000) : Rets F_law_is_name [.sh (.str (tx l))] (.sh (.bool (nmB l))) := rets_of fun src => by
  have em := lname_m (.str (tx l)) src
  show ∃ sl, m_law_is_name ⟨[some (.sh (.str (tx l))), none, none, none, none], src⟩ = _
  rw [em]
  have e1 := is_str (tx l)
  have e2 := t_len (l := l) (by omega)
  have e5 := in_l (tx l) kk_KEPT
  have e9 := ln_comp (kk_KEPT.map .str) hl src
  have hk : ∀ c r, l = c :: r → nmB l = (decide ((c :: r).length ≤ 12) && (decide (c ∈ SM) && (!decide (tx (c :: r) ∈ kk_KEPT) && (c :: r).all fun c => decide (c ∈ AN)))) := fun c r e => by rw [e, nmB_cons]
  generalize kk_KEPT.map PyData.str = ks at *
  unfold rest_of
  cases l with
  | nil =>
    have h1 : ¬ (1 : Int) ≤ 0 := by decide
    refine ⟨[some (.sh (.str (tx []))), some (.own (.list ks)), none, none, none], ?_⟩
    simp only [List.length_nil] at e2
    have e3 : ((0 : Nat) : Int) = 0 := rfl
    rw [e3] at e2
    simp only [cSeq, cSkip, cAsg, cRet, cExpr, cIfS, cFor, cPar, cAug, cSetIx, cBinE, cBinV, cCall1, cCallN, cCall, cIt, cRangeC1, cRangeC2, cEnum, cZip, cTup, cLst, cNil, cCons, cConsR, cStar, cD, cVar, cVarV, vE, cT, cAnd, cOr, cNot, cAndV, cOrV, cNotV, cIf, cChain, cSlE2, cSlV2, bnd, cRev2, cNeg, cBits, cMeth, gNm, gTp, gsCons, gsNil, setMany, datAt, SV.dat, SV.settle, datas, fnsOf, cTupF, cFn, okA, tyD, bnd_ok, bnd_exc, opt_some, quiet_ok, shs_cons, shs_nil, itemsOf, Option.map_some, Option.bind_some, Option.map_none, Option.bind_none, padS, List.map_cons, List.map_nil, List.length_cons, List.length_nil, Nat.reduceAdd, Nat.reduceSub, List.replicate_succ, List.replicate_zero, List.cons_append, List.nil_append, List.getElem?_cons_zero, List.getElem?_cons_succ, List.set_cons_zero, List.set_cons_succ, if_true, if_false, Bool.false_eq_true, dGt, dLt, dLe2, dGe2, dOrd, dOrdI, dAddI, dSub, decide_eq_true_eq, Bool.not_eq_true', decide_eq_false_iff_not, sizeLine_eq, Nat.reduceLeDiff, Nat.zero_le, Nat.reduceLT, Nat.reducePow, beq_self_eq_true, id_eq, e1, e2, h1, decide_false, Bool.not_true, Bool.not_false, nmB]
  | cons c r =>
    have hk := hk c r rfl
    have h0 : (1 : Int) ≤ (((c :: r).length : Nat) : Int) := by rw [List.length_cons]; omega
    have e3 : dIx (.str (tx (c :: r))) (.int 0) = some (.sh (.str (tx [c]))) := t_ix (by omega) (atI_zero c r)
    have e4 := t_in c SM
    have e6 := e_SM
    have e7 := e_FG
    by_cases h1 : (c :: r).length ≤ 12
    · have h1' : (((c :: r).length : Nat) : Int) ≤ 12 := by omega
      by_cases h3 : tx (c :: r) ∈ kk_KEPT
      · rw [decide_eq_true h3] at e5 hk
        have en : nmB (c :: r) = false := by rw [hk]; simp
        rw [en]
        refine ⟨[some (.sh (.str (tx (c :: r)))), some (.own (.list ks)), none, none, none], ?_⟩
        generalize (c :: r).length = n at *
        generalize tx (c :: r) = x at *
        simp only [cSeq, cSkip, cAsg, cRet, cExpr, cIfS, cFor, cPar, cAug, cSetIx, cBinE, cBinV, cCall1, cCallN, cCall, cIt, cRangeC1, cRangeC2, cEnum, cZip, cTup, cLst, cNil, cCons, cConsR, cStar, cD, cVar, cVarV, vE, cT, cAnd, cOr, cNot, cAndV, cOrV, cNotV, cIf, cChain, cSlE2, cSlV2, bnd, cRev2, cNeg, cBits, cMeth, gNm, gTp, gsCons, gsNil, setMany, datAt, SV.dat, SV.settle, datas, fnsOf, cTupF, cFn, okA, tyD, bnd_ok, bnd_exc, opt_some, quiet_ok, shs_cons, shs_nil, itemsOf, Option.map_some, Option.bind_some, Option.map_none, Option.bind_none, padS, List.map_cons, List.map_nil, List.length_cons, List.length_nil, Nat.reduceAdd, Nat.reduceSub, List.replicate_succ, List.replicate_zero, List.cons_append, List.nil_append, List.getElem?_cons_zero, List.getElem?_cons_succ, List.set_cons_zero, List.set_cons_succ, if_true, if_false, Bool.false_eq_true, dGt, dLt, dLe2, dGe2, dOrd, dOrdI, dAddI, dSub, decide_eq_true_eq, Bool.not_eq_true', decide_eq_false_iff_not, sizeLine_eq, Nat.reduceLeDiff, Nat.zero_le, Nat.reduceLT, Nat.reducePow, beq_self_eq_true, id_eq, e1, e2, h0, h1', decide_true, e5, Bool.not_true, Bool.not_false]
      · rw [decide_eq_false h3] at e5 hk
        refine ⟨[some (.sh (.str (tx (c :: r)))), some (.own (.list ks)), some (.sh (.str (tx SM))), some (.sh (.str (tx FG))), none], ?_⟩
        refine seq_nx (s1 := ⟨[some (.sh (.str (tx (c :: r)))), some (.own (.list ks)), none, none, none], src⟩) ?_ (seq_nx (s1 := ⟨[some (.sh (.str (tx (c :: r)))), some (.own (.list ks)), some (.sh (.str (tx SM))), some (.sh (.str (tx FG))), none], src⟩) ?_ ?_)
        · generalize (c :: r).length = n at *
          generalize tx (c :: r) = x at *
          simp only [cSeq, cSkip, cAsg, cRet, cExpr, cIfS, cFor, cPar, cAug, cSetIx, cBinE, cBinV, cCall1, cCallN, cCall, cIt, cRangeC1, cRangeC2, cEnum, cZip, cTup, cLst, cNil, cCons, cConsR, cStar, cD, cVar, cVarV, vE, cT, cAnd, cOr, cNot, cAndV, cOrV, cNotV, cIf, cChain, cSlE2, cSlV2, bnd, cRev2, cNeg, cBits, cMeth, gNm, gTp, gsCons, gsNil, setMany, datAt, SV.dat, SV.settle, datas, fnsOf, cTupF, cFn, okA, tyD, bnd_ok, bnd_exc, opt_some, quiet_ok, shs_cons, shs_nil, itemsOf, Option.map_some, Option.bind_some, Option.map_none, Option.bind_none, padS, List.map_cons, List.map_nil, List.length_cons, List.length_nil, Nat.reduceAdd, Nat.reduceSub, List.replicate_succ, List.replicate_zero, List.cons_append, List.nil_append, List.getElem?_cons_zero, List.getElem?_cons_succ, List.set_cons_zero, List.set_cons_succ, if_true, if_false, Bool.false_eq_true, dGt, dLt, dLe2, dGe2, dOrd, dOrdI, dAddI, dSub, decide_eq_true_eq, Bool.not_eq_true', decide_eq_false_iff_not, sizeLine_eq, Nat.reduceLeDiff, Nat.zero_le, Nat.reduceLT, Nat.reducePow, beq_self_eq_true, id_eq, e1, e2, h0, h1', decide_true, e5, Bool.not_true, Bool.not_false]
        · rw [e6, e7]
          rfl
        · have f1 : cBinE (dIn false) (cBinV dIx 0 (vE (cD (.int 0)))) (cVarV 2) (lnS ks (tx (c :: r)) none src) = .ok (.sh (.bool (decide (c ∈ SM)))) (lnS ks (tx (c :: r)) none src) := by
            generalize (c :: r).length = n at *
            generalize tx (c :: r) = x at *
            simp only [cSeq, cSkip, cAsg, cRet, cExpr, cIfS, cFor, cPar, cAug, cSetIx, cBinE, cBinV, cCall1, cCallN, cCall, cIt, cRangeC1, cRangeC2, cEnum, cZip, cTup, cLst, cNil, cCons, cConsR, cStar, cD, cVar, cVarV, vE, cT, cAnd, cOr, cNot, cAndV, cOrV, cNotV, cIf, cChain, cSlE2, cSlV2, bnd, cRev2, cNeg, cBits, cMeth, gNm, gTp, gsCons, gsNil, setMany, datAt, SV.dat, SV.settle, datas, fnsOf, cTupF, cFn, okA, tyD, bnd_ok, bnd_exc, opt_some, quiet_ok, shs_cons, shs_nil, itemsOf, Option.map_some, Option.bind_some, Option.map_none, Option.bind_none, padS, List.map_cons, List.map_nil, List.length_cons, List.length_nil, Nat.reduceAdd, Nat.reduceSub, List.replicate_succ, List.replicate_zero, List.cons_append, List.nil_append, List.getElem?_cons_zero, List.getElem?_cons_succ, List.set_cons_zero, List.set_cons_succ, if_true, if_false, Bool.false_eq_true, dGt, dLt, dLe2, dGe2, dOrd, dOrdI, dAddI, dSub, decide_eq_true_eq, Bool.not_eq_true', decide_eq_false_iff_not, sizeLine_eq, Nat.reduceLeDiff, Nat.zero_le, Nat.reduceLT, Nat.reducePow, beq_self_eq_true, id_eq, lnS, e3, e4]
          rw [hk, decide_eq_true h1]
          by_cases h2 : c ∈ SM
          · rw [decide_eq_true h2] at f1 ⊢
            refine ret_ok ?_
            unfold cAndV
            rw [f1]
            exact e9
          · rw [decide_eq_false h2] at f1 ⊢
            refine ret_ok ?_
            unfold cAndV
            rw [f1]
            rfl
    · have h1' : ¬ (((c :: r).length : Nat) : Int) ≤ 12 := by omega
      have en : nmB (c :: r) = false := by rw [hk, decide_eq_false h1]; rfl
      rw [en]
      refine ⟨[some (.sh (.str (tx (c :: r)))), some (.own (.list ks)), none, none, none], ?_⟩
      generalize (c :: r).length = n at *
      generalize tx (c :: r) = x at *
      simp only [cSeq, cSkip, cAsg, cRet, cExpr, cIfS, cFor, cPar, cAug, cSetIx, cBinE, cBinV, cCall1, cCallN, cCall, cIt, cRangeC1, cRangeC2, cEnum, cZip, cTup, cLst, cNil, cCons, cConsR, cStar, cD, cVar, cVarV, vE, cT, cAnd, cOr, cNot, cAndV, cOrV, cNotV, cIf, cChain, cSlE2, cSlV2, bnd, cRev2, cNeg, cBits, cMeth, gNm, gTp, gsCons, gsNil, setMany, datAt, SV.dat, SV.settle, datas, fnsOf, cTupF, cFn, okA, tyD, bnd_ok, bnd_exc, opt_some, quiet_ok, shs_cons, shs_nil, itemsOf, Option.map_some, Option.bind_some, Option.map_none, Option.bind_none, padS, List.map_cons, List.map_nil, List.length_cons, List.length_nil, Nat.reduceAdd, Nat.reduceSub, List.replicate_succ, List.replicate_zero, List.cons_append, List.nil_append, List.getElem?_cons_zero, List.getElem?_cons_succ, List.set_cons_zero, List.set_cons_succ, if_true, if_false, Bool.false_eq_true, dGt, dLt, dLe2, dGe2, dOrd, dOrdI, dAddI, dSub, decide_eq_true_eq, Bool.not_eq_true', decide_eq_false_iff_not, sizeLine_eq, Nat.reduceLeDiff, Nat.zero_le, Nat.reduceLT, Nat.reducePow, beq_self_eq_true, id_eq, e1, e2, h0, h1', decide_true, decide_false, Bool.not_true, Bool.not_false]
end Law
end Pw
set_option Elab.async false
set_option linter.all false
set_option maxRecDepth 100000
namespace Pw
namespace Law
open PySem PySem.Spec PyProof.Rows L2 Pw.Lx
/-! ### the values -/
def NV (d : D) : Prop := (∃ x : Str, d = .str x ∧ x.length ≤ 1000) ∨ dIsTy "str" d = some (.sh (.bool false))
theorem nv_str {x : Str} (h : x.length ≤ 1000) : NV (.str x) := .inl ⟨x, rfl, h⟩
theorem not_str {d : D} {n : String} (h : tyNm d = some n) (k : kitB n "str" = some false) : dIsTy "str" d = some (.sh (.bool false)) := by
  unfold dIsTy
  rw [h]
  simp only [Option.bind_some, k, Option.map_some]
theorem nice_b (b : Bool) : Nice (.bool b) 0 10 := ⟨rfl, rfl, rfl, Nat.le_refl _, by cases b <;> decide +kernel⟩
theorem value_ok {d : D} (h : NV d) (o2 o3 o4 o6 o7 o8 o9 o10 o11 : Option SV) (sr : Src) : b_law_3 (mS o2 o3 o4 (some (.sh d)) o6 o7 o8 o9 o10 o11 sr) = .ok .nx (mS o2 o3 o4 (some (.sh d)) o6 o7 o8 o9 o10 o11 sr) := by
  obtain ⟨b, h1, h2⟩ : ∃ b, Rets F_is_name [.sh d] (.sh (.bool b)) ∧ Rets F_law_is_name [.sh d] (.sh (.bool b)) := by
    rcases h with ⟨x, rfl, hx⟩ | h
    · have e : x = tx x.cps.toList := rfl
      rw [e]
      have hl : x.cps.toList.length ≤ 1000 := by rw [Array.length_toList]; exact hx
      exact ⟨_, name_ok hl, lname_ok hl⟩
    · refine ⟨false, rets_of fun src => ⟨[some (.sh d), none], ?_⟩, rets_of fun src => ⟨[some (.sh d), some (.own (.list (kk_KEPT.map .str))), none, none, none], ?_⟩⟩
      · show m_is_name ⟨[some (.sh d), none], src⟩ = _
        unfold m_is_name
        generalize kk_KEPT.map PyData.str = ks at *
        simp only [cSeq, cSkip, cAsg, cRet, cExpr, cIfS, cFor, cPar, cAug, cSetIx, cBinE, cBinV, cCall1, cCallN, cCall, cIt, cRangeC1, cRangeC2, cEnum, cZip, cTup, cLst, cNil, cCons, cConsR, cStar, cD, cVar, cVarV, vE, cT, cAnd, cOr, cNot, cAndV, cOrV, cNotV, cIf, cChain, cSlE2, cSlV2, bnd, cRev2, cNeg, cBits, cMeth, gNm, gTp, gsCons, gsNil, setMany, datAt, SV.dat, SV.settle, datas, fnsOf, cTupF, cFn, okA, tyD, bnd_ok, bnd_exc, opt_some, quiet_ok, shs_cons, shs_nil, itemsOf, Option.map_some, Option.bind_some, Option.map_none, Option.bind_none, padS, List.map_cons, List.map_nil, List.length_cons, List.length_nil, Nat.reduceAdd, Nat.reduceSub, List.replicate_succ, List.replicate_zero, List.cons_append, List.nil_append, List.getElem?_cons_zero, List.getElem?_cons_succ, List.set_cons_zero, List.set_cons_succ, if_true, if_false, Bool.false_eq_true, dGt, dLt, dLe2, dGe2, dOrd, dOrdI, dAddI, dSub, decide_eq_true_eq, Bool.not_eq_true', decide_eq_false_iff_not, sizeLine_eq, Nat.reduceLeDiff, Nat.zero_le, Nat.reduceLT, Nat.reducePow, beq_self_eq_true, id_eq, h, Bool.not_false]
      · show m_law_is_name ⟨[some (.sh d), none, none, none, none], src⟩ = _
        rw [lname_m]
        generalize kk_KEPT.map PyData.str = ks at *
        simp only [rest_of, cSeq, cSkip, cAsg, cRet, cExpr, cIfS, cFor, cPar, cAug, cSetIx, cBinE, cBinV, cCall1, cCallN, cCall, cIt, cRangeC1, cRangeC2, cEnum, cZip, cTup, cLst, cNil, cCons, cConsR, cStar, cD, cVar, cVarV, vE, cT, cAnd, cOr, cNot, cAndV, cOrV, cNotV, cIf, cChain, cSlE2, cSlV2, bnd, cRev2, cNeg, cBits, cMeth, gNm, gTp, gsCons, gsNil, setMany, datAt, SV.dat, SV.settle, datas, fnsOf, cTupF, cFn, okA, tyD, bnd_ok, bnd_exc, opt_some, quiet_ok, shs_cons, shs_nil, itemsOf, Option.map_some, Option.bind_some, Option.map_none, Option.bind_none, padS, List.map_cons, List.map_nil, List.length_cons, List.length_nil, Nat.reduceAdd, Nat.reduceSub, List.replicate_succ, List.replicate_zero, List.cons_append, List.nil_append, List.getElem?_cons_zero, List.getElem?_cons_succ, List.set_cons_zero, List.set_cons_succ, if_true, if_false, Bool.false_eq_true, dGt, dLt, dLe2, dGe2, dOrd, dOrdI, dAddI, dSub, decide_eq_true_eq, Bool.not_eq_true', decide_eq_false_iff_not, sizeLine_eq, Nat.reduceLeDiff, Nat.zero_le, Nat.reduceLT, Nat.reducePow, beq_self_eq_true, id_eq, h, Bool.not_false]
  have e1 := h1.app (n := 1)
  have e2 := h2.app (n := 1)
  simp only [App] at e1 e2
  refine ifs_ff (s1 := mS o2 o3 o4 (some (.sh d)) o6 o7 o8 o9 o10 o11 sr) (reprs_ne (s1 := mS o2 o3 o4 (some (.sh d)) o6 o7 o8 o9 o10 o11 sr) (nice_b b) (by decide) (by decide) (Eq.refl _) ?_ ?_) (by rfl)
  · simp only [cSeq, cSkip, cAsg, cRet, cExpr, cIfS, cFor, cPar, cAug, cSetIx, cBinE, cBinV, cCall1, cCallN, cCall, cIt, cRangeC1, cRangeC2, cEnum, cZip, cTup, cLst, cNil, cCons, cConsR, cStar, cD, cVar, cVarV, vE, cT, cAnd, cOr, cNot, cAndV, cOrV, cNotV, cIf, cChain, cSlE2, cSlV2, bnd, cRev2, cNeg, cBits, cMeth, gNm, gTp, gsCons, gsNil, setMany, datAt, SV.dat, SV.settle, datas, fnsOf, cTupF, cFn, okA, tyD, bnd_ok, bnd_exc, opt_some, quiet_ok, shs_cons, shs_nil, itemsOf, Option.map_some, Option.bind_some, Option.map_none, Option.bind_none, padS, List.map_cons, List.map_nil, List.length_cons, List.length_nil, Nat.reduceAdd, Nat.reduceSub, List.replicate_succ, List.replicate_zero, List.cons_append, List.nil_append, List.getElem?_cons_zero, List.getElem?_cons_succ, List.set_cons_zero, List.set_cons_succ, if_true, if_false, Bool.false_eq_true, dGt, dLt, dLe2, dGe2, dOrd, dOrdI, dAddI, dSub, decide_eq_true_eq, Bool.not_eq_true', decide_eq_false_iff_not, sizeLine_eq, Nat.reduceLeDiff, Nat.zero_le, Nat.reduceLT, Nat.reducePow, beq_self_eq_true, id_eq, mS, e1]
  · simp only [cSeq, cSkip, cAsg, cRet, cExpr, cIfS, cFor, cPar, cAug, cSetIx, cBinE, cBinV, cCall1, cCallN, cCall, cIt, cRangeC1, cRangeC2, cEnum, cZip, cTup, cLst, cNil, cCons, cConsR, cStar, cD, cVar, cVarV, vE, cT, cAnd, cOr, cNot, cAndV, cOrV, cNotV, cIf, cChain, cSlE2, cSlV2, bnd, cRev2, cNeg, cBits, cMeth, gNm, gTp, gsCons, gsNil, setMany, datAt, SV.dat, SV.settle, datas, fnsOf, cTupF, cFn, okA, tyD, bnd_ok, bnd_exc, opt_some, quiet_ok, shs_cons, shs_nil, itemsOf, Option.map_some, Option.bind_some, Option.map_none, Option.bind_none, padS, List.map_cons, List.map_nil, List.length_cons, List.length_nil, Nat.reduceAdd, Nat.reduceSub, List.replicate_succ, List.replicate_zero, List.cons_append, List.nil_append, List.getElem?_cons_zero, List.getElem?_cons_succ, List.set_cons_zero, List.set_cons_succ, if_true, if_false, Bool.false_eq_true, dGt, dLt, dLe2, dGe2, dOrd, dOrdI, dAddI, dSub, decide_eq_true_eq, Bool.not_eq_true', decide_eq_false_iff_not, sizeLine_eq, Nat.reduceLeDiff, Nat.zero_le, Nat.reduceLT, Nat.reducePow, beq_self_eq_true, id_eq, mS, e2]
theorem values_loop (o2 o3 o4 o6 o7 o8 o9 o10 o11 : Option SV) (sr : Src) : ∀ (ds : List D) (o5 : Option SV), (∀ d ∈ ds, NV d) → ∃ o5', forL (gNm 5) b_law_3 (shs ds) (mS o2 o3 o4 o5 o6 o7 o8 o9 o10 o11 sr) = .ok .nx (mS o2 o3 o4 o5' o6 o7 o8 o9 o10 o11 sr)
  | [], o5, _ => ⟨o5, rfl⟩
  | d :: ds, o5, h => by
    obtain ⟨o5', e⟩ := values_loop o2 o3 o4 o6 o7 o8 o9 o10 o11 sr ds (some (.sh d)) fun x hx => h x (List.mem_cons_of_mem _ hx)
    rw [shs_cons]
    exact ⟨o5', (forL_step (s1 := mS o2 o3 o4 (some (.sh d)) o6 o7 o8 o9 o10 o11 sr) (by rfl) (value_ok (h d List.mem_cons_self) o2 o3 o4 o6 o7 o8 o9 o10 o11 sr)).trans e⟩
theorem laps_loop (c : Addr) (o3 o4 o5 o11 : Option SV) : ∀ (ns : List Nat), (∀ n ∈ ns, n ≤ 400) → ∀ (o2 o6 o7 o8 o9 o10 : Option SV) (sr : Src), SrcIn sr → ∃ o2' o6' o7' o8' o9' o10' sr', SrcIn sr' ∧ forL (gNm 2) (b_law_0 c) (shs (ns.map fun n : Nat => .int (n : Int))) (mS o2 o3 o4 o5 o6 o7 o8 o9 o10 o11 sr) = .ok .nx (mS o2' o3 o4 o5 o6' o7' o8' o9' o10' o11 sr')
  | [], _, o2, o6, o7, o8, o9, o10, sr, hi => ⟨o2, o6, o7, o8, o9, o10, sr, hi, rfl⟩
  | n :: ns, h, o2, o6, o7, o8, o9, o10, sr, hi => by
    obtain ⟨a6, a7, a8, a9, a10, sr1, i1, e1⟩ := lap_ok c (n := n) (h n List.mem_cons_self) o3 o4 o5 o6 o7 o8 o9 o10 o11 hi
    obtain ⟨b2, b6, b7, b8, b9, b10, sr2, i2, e2⟩ := laps_loop c o3 o4 o5 o11 ns (fun x hx => h x (List.mem_cons_of_mem _ hx)) (some (.sh (.int (n : Int)))) a6 a7 a8 a9 a10 sr1 i1
    rw [List.map_cons, shs_cons]
    exact ⟨b2, b6, b7, b8, b9, b10, sr2, i2, (forL_step (s1 := mS (some (.sh (.int (n : Int)))) o3 o4 o5 o6 o7 o8 o9 o10 o11 sr) (by rfl) e1).trans e2⟩
def some1 : List D := [.str "a", .str "z9", .str "abcdefghijkl", .str "abcdefghijklm", .str "", .str "9a", .str "a b", .str "a_b", .str "Ab", .str "a-", .str (Txt.mul "x" 600), .str "none", .str "lots"]
def some2 : List D := [.str "deal", .str "deals", .str "ring1", .str "in", .str "i", .str "windows", .str "window", .none, .int 7, .bool true, .tuple [.str "a"], .list [.str "a"], .str "a\n", .int 1000]
def keptL : List Str := ["again", "counts", "comes", "mirror", "returns", "spelled", "times", "undone", "where", "of", "power"]
theorem some1_nv : ∀ d ∈ some1, NV d := fun d hd => by
  simp only [some1, List.mem_cons, List.not_mem_nil, or_false] at hd
  rcases hd with rfl | rfl | rfl | rfl | rfl | rfl | rfl | rfl | rfl | rfl | rfl | rfl | rfl <;> exact nv_str (by decide +kernel)
theorem some2_nv : ∀ d ∈ some2, NV d := fun d hd => by
  simp only [some2, List.mem_cons, List.not_mem_nil, or_false] at hd
  rcases hd with rfl | rfl | rfl | rfl | rfl | rfl | rfl | rfl | rfl | rfl | rfl | rfl | rfl | rfl
  · exact nv_str (by decide +kernel)
  · exact nv_str (by decide +kernel)
  · exact nv_str (by decide +kernel)
  · exact nv_str (by decide +kernel)
  · exact nv_str (by decide +kernel)
  · exact nv_str (by decide +kernel)
  · exact nv_str (by decide +kernel)
  · exact .inr (not_str (n := "NoneType") rfl (by decide +kernel))
  · exact .inr (not_str (n := "int") rfl (by decide +kernel))
  · exact .inr (not_str (n := "bool") rfl (by decide +kernel))
  · exact .inr (not_str (n := "tuple") rfl (by decide +kernel))
  · exact .inr (not_str (n := "list") rfl (by decide +kernel))
  · exact nv_str (by decide +kernel)
  · exact .inr (not_str (n := "int") rfl (by decide +kernel))
theorem kept_short : ∀ x ∈ keptL, x.length ≤ 100 := by decide +kernel
theorem l_add {xs ys : List D} (h : xs.length + ys.length ≤ 1000) : dAdd (.list xs) (.list ys) = some (.own (.list (xs ++ ys))) := by
  have : xs.length + ys.length ≤ sizeLine := szl (by omega)
  unfold dAdd
  dsimp only
  rw [if_pos this]
section
variable {c : Addr} {o2 o3 o4 o5 o6 o7 o8 o9 o10 o11 : Option SV}
theorem lc1 {sr : Src} (hi : SrcIn sr) : ∃ o2' o6' o7' o8' o9' o10' sr', SrcIn sr' ∧ cFor (cIt (cTup (cCons (cCall 2 F_law_pick (cCons (cVar 1) (cCons (cD (.int 6)) cNil))) (cCons (cBinE dAdd (cD (.int 3)) (vE (cCall 2 F_law_pick (cCons (cVar 1) (cCons (cD (.int 30)) cNil))))) (cCons (cCall 2 F_law_of (cCons (cVar 1) (cCons (cLst (cCons (cD (.int 0)) (cCons (cD (.int 1)) (cCons (cD (.int 400)) cNil)))) cNil))) cNil))))) (gNm 2) (b_law_0 c) (mS o2 o3 o4 o5 o6 o7 o8 o9 o10 o11 sr) = .ok .nx (mS o2' o3 o4 o5 o6' o7' o8' o9' o10' o11 sr') := by
  obtain ⟨r1, sr1, e1, ⟨v1, rfl, p1, p1'⟩, i1⟩ := (pick_draws (many := 6) (by decide)).app (n := 2) hi
  obtain ⟨r2, sr2, e2, ⟨v2, rfl, p2, p2'⟩, i2⟩ := (pick_draws (many := 30) (by decide)).app (n := 2) i1
  obtain ⟨r3, sr3, e3, ⟨y, hy, rfl⟩, i3⟩ := (of_draws (xs := [.int 0, .int 1, .int 400]) (by simp) (by simp)).app (n := 2) i2
  obtain ⟨n3, hn3, rfl⟩ : ∃ n : Nat, n ≤ 400 ∧ y = .int (n : Int) := by
    simp only [List.mem_cons, List.not_mem_nil, or_false] at hy
    rcases hy with rfl | rfl | rfl
    · exact ⟨0, by omega, rfl⟩
    · exact ⟨1, by omega, rfl⟩
    · exact ⟨400, by omega, rfl⟩
  obtain ⟨n1, rfl⟩ : ∃ n : Nat, v1 = (n : Int) := ⟨v1.toNat, by omega⟩
  obtain ⟨n2, rfl⟩ : ∃ n : Nat, v2 = (n : Int) := ⟨v2.toNat, by omega⟩
  obtain ⟨a2, a6, a7, a8, a9, a10, sr4, i4, e4⟩ := laps_loop c o3 o4 o5 o11 [n1, 3 + n2, n3] (fun n hn => by
    simp only [List.mem_cons, List.not_mem_nil, or_false] at hn
    omega) o2 o6 o7 o8 o9 o10 sr3 i3
  have k : ((3 + n2 : Nat) : Int) = 3 + (n2 : Int) := by omega
  simp only [List.map_cons, List.map_nil, k, mS, gNm] at e4
  refine ⟨a2, a6, a7, a8, a9, a10, sr4, i4, ?_⟩
  simp only [cSeq, cSkip, cAsg, cRet, cExpr, cIfS, cFor, cPar, cAug, cSetIx, cBinE, cBinV, cCall1, cCallN, cCall, cIt, cRangeC1, cRangeC2, cEnum, cZip, cTup, cLst, cNil, cCons, cConsR, cStar, cD, cVar, cVarV, vE, cT, cAnd, cOr, cNot, cAndV, cOrV, cNotV, cIf, cChain, cSlE2, cSlV2, bnd, cRev2, cNeg, cBits, cMeth, gNm, gTp, gsCons, gsNil, setMany, datAt, SV.dat, SV.settle, datas, fnsOf, cTupF, cFn, okA, tyD, bnd_ok, bnd_exc, opt_some, quiet_ok, shs_cons, shs_nil, itemsOf, Option.map_some, Option.bind_some, Option.map_none, Option.bind_none, padS, List.map_cons, List.map_nil, List.length_cons, List.length_nil, Nat.reduceAdd, Nat.reduceSub, List.replicate_succ, List.replicate_zero, List.cons_append, List.nil_append, List.getElem?_cons_zero, List.getElem?_cons_succ, List.set_cons_zero, List.set_cons_succ, if_true, if_false, Bool.false_eq_true, dGt, dLt, dLe2, dGe2, dOrd, dOrdI, dAddI, dSub, decide_eq_true_eq, Bool.not_eq_true', decide_eq_false_iff_not, sizeLine_eq, Nat.reduceLeDiff, Nat.zero_le, Nat.reduceLT, Nat.reducePow, beq_self_eq_true, id_eq, mS, e1, e2, add_int, dis_lst, e3, dis_tup] at e4 ⊢
  exact e4
theorem lc2 {sr : Src} : cAsg (cLst (cCons (cD (.str "a")) (cCons (cD (.str "z9")) (cCons (cD (.str "abcdefghijkl")) (cCons (cD (.str "abcdefghijklm")) (cCons (cD (.str "")) (cCons (cD (.str "9a")) (cCons (cD (.str "a b")) (cCons (cD (.str "a_b")) (cCons (cD (.str "Ab")) (cCons (cD (.str "a-")) (cCons (cBinE dMul2 (cD (.str "x")) (vE (cD (.int 600)))) (cCons (cD (.str "none")) (cCons (cD (.str "lots")) cNil)))))))))))))) (gNm 3) (mS o2 o3 o4 o5 o6 o7 o8 o9 o10 o11 sr) = .ok .nx (mS o2 (some (.own (.list some1))) o4 o5 o6 o7 o8 o9 o10 o11 sr) := by
  have e1 : dMul2 (.str "x") (.int 600) = some (.sh (.str (Txt.mul "x" 600))) := mulS ⟨by decide, by decide, by decide +kernel⟩
  unfold some1
  generalize Txt.mul "x" 600 = x6 at *
  simp only [cSeq, cSkip, cAsg, cRet, cExpr, cIfS, cFor, cPar, cAug, cSetIx, cBinE, cBinV, cCall1, cCallN, cCall, cIt, cRangeC1, cRangeC2, cEnum, cZip, cTup, cLst, cNil, cCons, cConsR, cStar, cD, cVar, cVarV, vE, cT, cAnd, cOr, cNot, cAndV, cOrV, cNotV, cIf, cChain, cSlE2, cSlV2, bnd, cRev2, cNeg, cBits, cMeth, gNm, gTp, gsCons, gsNil, setMany, datAt, SV.dat, SV.settle, datas, fnsOf, cTupF, cFn, okA, tyD, bnd_ok, bnd_exc, opt_some, quiet_ok, shs_cons, shs_nil, itemsOf, Option.map_some, Option.bind_some, Option.map_none, Option.bind_none, padS, List.map_cons, List.map_nil, List.length_cons, List.length_nil, Nat.reduceAdd, Nat.reduceSub, List.replicate_succ, List.replicate_zero, List.cons_append, List.nil_append, List.getElem?_cons_zero, List.getElem?_cons_succ, List.set_cons_zero, List.set_cons_succ, if_true, if_false, Bool.false_eq_true, dGt, dLt, dLe2, dGe2, dOrd, dOrdI, dAddI, dSub, decide_eq_true_eq, Bool.not_eq_true', decide_eq_false_iff_not, sizeLine_eq, Nat.reduceLeDiff, Nat.zero_le, Nat.reduceLT, Nat.reducePow, beq_self_eq_true, id_eq, mS, e1, dis_lst]
theorem lc3 {xs : List D} (hx : xs.length = 13) {sr : Src} : cAsg (cBinV dAdd 3 (vE (cLst (cCons (cD (.str "deal")) (cCons (cD (.str "deals")) (cCons (cD (.str "ring1")) (cCons (cD (.str "in")) (cCons (cD (.str "i")) (cCons (cD (.str "windows")) (cCons (cD (.str "window")) (cCons (cD .none) (cCons (cD (.int 7)) (cCons (cD (.bool true)) (cCons (cTup (cCons (cD (.str "a")) cNil)) (cCons (cLst (cCons (cD (.str "a")) cNil)) (cCons (cD (.str "a\n")) (cCons (cD (.int 1000)) cNil))))))))))))))))) (gNm 3) (mS o2 (some (.own (.list xs))) o4 o5 o6 o7 o8 o9 o10 o11 sr) = .ok .nx (mS o2 (some (.own (.list (xs ++ some2)))) o4 o5 o6 o7 o8 o9 o10 o11 sr) := by
  have e1 := l_add (xs := xs) (ys := some2) (by rw [hx]; decide)
  simp only [some2] at e1 ⊢
  simp only [cSeq, cSkip, cAsg, cRet, cExpr, cIfS, cFor, cPar, cAug, cSetIx, cBinE, cBinV, cCall1, cCallN, cCall, cIt, cRangeC1, cRangeC2, cEnum, cZip, cTup, cLst, cNil, cCons, cConsR, cStar, cD, cVar, cVarV, vE, cT, cAnd, cOr, cNot, cAndV, cOrV, cNotV, cIf, cChain, cSlE2, cSlV2, bnd, cRev2, cNeg, cBits, cMeth, gNm, gTp, gsCons, gsNil, setMany, datAt, SV.dat, SV.settle, datas, fnsOf, cTupF, cFn, okA, tyD, bnd_ok, bnd_exc, opt_some, quiet_ok, shs_cons, shs_nil, itemsOf, Option.map_some, Option.bind_some, Option.map_none, Option.bind_none, padS, List.map_cons, List.map_nil, List.length_cons, List.length_nil, Nat.reduceAdd, Nat.reduceSub, List.replicate_succ, List.replicate_zero, List.cons_append, List.nil_append, List.getElem?_cons_zero, List.getElem?_cons_succ, List.set_cons_zero, List.set_cons_succ, if_true, if_false, Bool.false_eq_true, dGt, dLt, dLe2, dGe2, dOrd, dOrdI, dAddI, dSub, decide_eq_true_eq, Bool.not_eq_true', decide_eq_false_iff_not, sizeLine_eq, Nat.reduceLeDiff, Nat.zero_le, Nat.reduceLT, Nat.reducePow, beq_self_eq_true, id_eq, mS, dis_lst, dis_tup, e1]
theorem lc4 {sr : Src} : cAsg (cLst (cCons (cD (.str "again")) (cCons (cD (.str "counts")) (cCons (cD (.str "comes")) (cCons (cD (.str "mirror")) (cCons (cD (.str "returns")) (cCons (cD (.str "spelled")) (cCons (cD (.str "times")) (cCons (cD (.str "undone")) (cCons (cD (.str "where")) (cCons (cD (.str "of")) (cCons (cD (.str "power")) cNil)))))))))))) (gNm 4) (mS o2 o3 o4 o5 o6 o7 o8 o9 o10 o11 sr) = .ok .nx (mS o2 o3 (some (.own (.list (keptL.map .str)))) o5 o6 o7 o8 o9 o10 o11 sr) := by
  simp only [keptL, cSeq, cSkip, cAsg, cRet, cExpr, cIfS, cFor, cPar, cAug, cSetIx, cBinE, cBinV, cCall1, cCallN, cCall, cIt, cRangeC1, cRangeC2, cEnum, cZip, cTup, cLst, cNil, cCons, cConsR, cStar, cD, cVar, cVarV, vE, cT, cAnd, cOr, cNot, cAndV, cOrV, cNotV, cIf, cChain, cSlE2, cSlV2, bnd, cRev2, cNeg, cBits, cMeth, gNm, gTp, gsCons, gsNil, setMany, datAt, SV.dat, SV.settle, datas, fnsOf, cTupF, cFn, okA, tyD, bnd_ok, bnd_exc, opt_some, quiet_ok, shs_cons, shs_nil, itemsOf, Option.map_some, Option.bind_some, Option.map_none, Option.bind_none, padS, List.map_cons, List.map_nil, List.length_cons, List.length_nil, Nat.reduceAdd, Nat.reduceSub, List.replicate_succ, List.replicate_zero, List.cons_append, List.nil_append, List.getElem?_cons_zero, List.getElem?_cons_succ, List.set_cons_zero, List.set_cons_succ, if_true, if_false, Bool.false_eq_true, dGt, dLt, dLe2, dGe2, dOrd, dOrdI, dAddI, dSub, decide_eq_true_eq, Bool.not_eq_true', decide_eq_false_iff_not, sizeLine_eq, Nat.reduceLeDiff, Nat.zero_le, Nat.reduceLT, Nat.reducePow, beq_self_eq_true, id_eq, mS, dis_lst]
theorem lc5 {xs : List D} (hx : xs.length ≤ 100) (hn : ∀ d ∈ xs, NV d) {sr : Src} (hi : SrcIn sr) : ∃ o5' sr', SrcIn sr' ∧ cFor (cIt (cBinE dAdd (cBinV dAdd 3 (vE (cComp (cRangeC1 (cCons (cD (.int 8)) cNil)) g_law_1 cYes e_law_2 [11]))) (vE (cLst (cCons (cCall 2 F_law_of (cCons (cVar 1) (cCons (cVar 4) cNil))) (cCons (cBinE dAdd (cCall 2 F_law_of (cCons (cVar 1) (cCons (cVar 4) cNil))) (vE (cD (.str "s")))) cNil)))))) (gNm 5) b_law_3 (mS o2 (some (.own (.list xs))) (some (.own (.list (keptL.map .str)))) o5 o6 o7 o8 o9 o10 none sr) = .ok .nx (mS o2 (some (.own (.list xs))) (some (.sh (.list (keptL.map .str)))) o5' o6 o7 o8 o9 o10 none sr') := by
  obtain ⟨ds, sr1, e1, hlen, hp, i1⟩ := comp_draw (g := g_law_1) (f := e_law_2) (vs := [11]) (sl := (mS o2 (some (.own (.list xs))) (some (.own (.list (keptL.map .str)))) o5 o6 o7 o8 o9 o10 none sr).sl) (fun d => ∃ w, d = .str (tx w) ∧ WordOk w) (shs (rg 0 8)) [] sr (fun x hx sr hi => by
    obtain ⟨r, sr', e, ⟨w, rfl, hw⟩, i⟩ := word_draws.app (n := 1) hi
    refine ⟨mS o2 (some (.own (.list xs))) (some (.own (.list (keptL.map .str)))) o5 o6 o7 o8 o9 o10 (some x) sr, mS o2 (some (.own (.list xs))) (some (.own (.list (keptL.map .str)))) o5 o6 o7 o8 o9 o10 (some x) sr', .sh (.str (tx w)), sr', .str (tx w), rfl, ?_, rfl, ⟨w, rfl, hw⟩, i, rfl⟩
    simp only [e_law_2, cSeq, cSkip, cAsg, cRet, cExpr, cIfS, cFor, cPar, cAug, cSetIx, cBinE, cBinV, cCall1, cCallN, cCall, cIt, cRangeC1, cRangeC2, cEnum, cZip, cTup, cLst, cNil, cCons, cConsR, cStar, cD, cVar, cVarV, vE, cT, cAnd, cOr, cNot, cAndV, cOrV, cNotV, cIf, cChain, cSlE2, cSlV2, bnd, cRev2, cNeg, cBits, cMeth, gNm, gTp, gsCons, gsNil, setMany, datAt, SV.dat, SV.settle, datas, fnsOf, cTupF, cFn, okA, tyD, bnd_ok, bnd_exc, opt_some, quiet_ok, shs_cons, shs_nil, itemsOf, Option.map_some, Option.bind_some, Option.map_none, Option.bind_none, padS, List.map_cons, List.map_nil, List.length_cons, List.length_nil, Nat.reduceAdd, Nat.reduceSub, List.replicate_succ, List.replicate_zero, List.cons_append, List.nil_append, List.getElem?_cons_zero, List.getElem?_cons_succ, List.set_cons_zero, List.set_cons_succ, if_true, if_false, Bool.false_eq_true, dGt, dLt, dLe2, dGe2, dOrd, dOrdI, dAddI, dSub, decide_eq_true_eq, Bool.not_eq_true', decide_eq_false_iff_not, sizeLine_eq, Nat.reduceLeDiff, Nat.zero_le, Nat.reduceLT, Nat.reducePow, beq_self_eq_true, id_eq, mS, e]) hi (szl (by decide))
  have hd : ds.length = 8 := by rw [hlen]; rfl
  have hq : (keptL.map PyData.str).length = 11 := rfl
  obtain ⟨r2, sr2, e2, ⟨y, hy, rfl⟩, i2⟩ := (of_draws (xs := keptL.map .str) (by simp [keptL]) (by rw [hq]; decide)).app (n := 2) i1
  obtain ⟨r3, sr3, e3, ⟨z, hz, rfl⟩, i3⟩ := (of_draws (xs := keptL.map .str) (by simp [keptL]) (by rw [hq]; decide)).app (n := 2) i2
  obtain ⟨y, hy1, rfl⟩ := List.mem_map.mp hy
  obtain ⟨z, hz1, rfl⟩ := List.mem_map.mp hz
  have hy := kept_short y hy1
  have hz := kept_short z hz1
  have hs : ("s" : Str).length = 1 := by decide +kernel
  have e4 := s_add (a := z) (b := "s") (by omega)
  have e5 := l_add (xs := xs) (ys := ds) (by omega)
  have e6 := l_add (xs := xs ++ ds) (ys := [.str y, .str (z ++ "s")]) (by simp; omega)
  have hzs : (z ++ "s" : Str).length ≤ 1000 := by
    have e : z = tx z.cps.toList := rfl
    have e2 : ("s" : Str) = tx [115] := by decide +kernel
    have e3 : z.cps.toList.length = z.length := Array.length_toList
    rw [e2, e, tx_app, tx_len, List.length_append, e3, List.length_singleton]
    omega
  obtain ⟨o5', e7⟩ := values_loop o2 (some (.own (.list xs))) (some (.sh (.list (keptL.map .str)))) o6 o7 o8 o9 o10 none sr3 (xs ++ ds ++ [.str y, .str (z ++ "s")]) o5 (fun d h => by
    simp only [List.mem_append, List.mem_cons, List.not_mem_nil, or_false] at h
    rcases h with (h | h) | rfl | rfl
    · exact hn d h
    · obtain ⟨w, rfl, hw⟩ := hp d h
      exact nv_str (by rw [tx_len]; have := hw.2.1; omega)
    · exact nv_str (by omega)
    · exact nv_str hzs)
  have b1 : -(2 ^ 62 : Int) ≤ 8 ∧ (8 : Int) < 2 ^ 62 := by decide
  have b2 : rgD 0 (Int.toNat 8) = rg 0 8 := rgD_zero 8
  refine ⟨o5', sr3, i3, ?_⟩
  simp only [List.nil_append] at e1
  generalize keptL.map PyData.str = ks at *
  simp only [mS] at e1 e7
  simp only [cSeq, cSkip, cAsg, cRet, cExpr, cIfS, cFor, cPar, cAug, cSetIx, cBinE, cBinV, cCall1, cCallN, cCall, cIt, cRangeC1, cRangeC2, cEnum, cZip, cTup, cLst, cNil, cCons, cConsR, cStar, cD, cVar, cVarV, vE, cT, cAnd, cOr, cNot, cAndV, cOrV, cNotV, cIf, cChain, cSlE2, cSlV2, bnd, cRev2, cNeg, cBits, cMeth, gNm, gTp, gsCons, gsNil, setMany, datAt, SV.dat, SV.settle, datas, fnsOf, cTupF, cFn, okA, tyD, bnd_ok, bnd_exc, opt_some, quiet_ok, shs_cons, shs_nil, itemsOf, Option.map_some, Option.bind_some, Option.map_none, Option.bind_none, padS, List.map_cons, List.map_nil, List.length_cons, List.length_nil, Nat.reduceAdd, Nat.reduceSub, List.replicate_succ, List.replicate_zero, List.cons_append, List.nil_append, List.getElem?_cons_zero, List.getElem?_cons_succ, List.set_cons_zero, List.set_cons_succ, if_true, if_false, Bool.false_eq_true, dGt, dLt, dLe2, dGe2, dOrd, dOrdI, dAddI, dSub, decide_eq_true_eq, Bool.not_eq_true', decide_eq_false_iff_not, sizeLine_eq, Nat.reduceLeDiff, Nat.zero_le, Nat.reduceLT, Nat.reducePow, beq_self_eq_true, id_eq, mS, cComp, ifc_pos b1, b2, wipeS, e1, backS, Option.join, e5, e2, e3, e4, dis_lst, e6] at e7 ⊢
  exact e7
theorem lc6 {t : Option SV} {sr : Src} : cRet (cBinE dEq (cComp (cIt (cTup (cCons (cD (.str "")) (cCons (cD (.str "\n \n")) cNil)))) (gNm 9) cYes (e_law_4 c) [9]) (vE (cLst (cCons (cLst cNil) (cCons (cLst cNil) cNil))))) (mS o2 o3 o4 o5 o6 o7 o8 t o10 o11 sr) = .ok (.ret (.sh (.bool true))) (mS o2 o3 o4 o5 o6 o7 o8 t o10 o11 sr) := by
  have ec := comp_map (g := gNm 9) (f := e_law_4 c) (vs := [9]) (s := mS o2 o3 o4 o5 o6 o7 o8 none o10 o11 sr) (fun l => .sh (.str (tx l))) (fun _ => .list []) [[], [10, 32, 10]] [] (fun l hl => by
    have hs : Scan l 0 [] none := by
      simp only [List.mem_cons, List.not_mem_nil, or_false] at hl
      rcases hl with rfl | rfl
      · exact .fin (by rfl)
      · exact .fin (by rfl)
    have hll : l.length ≤ 10 := by
      simp only [List.mem_cons, List.not_mem_nil, or_false] at hl
      rcases hl with rfl | rfl <;> decide
    have e1 := (lex_ok c (by omega) hs).app (n := 1)
    simp only [App] at e1
    refine ⟨mS o2 o3 o4 o5 o6 o7 o8 (some (.sh (.str (tx l)))) o10 o11 sr, mS o2 o3 o4 o5 o6 o7 o8 (some (.sh (.str (tx l)))) o10 o11 sr, .sh (.list []), rfl, ?_, rfl, rfl⟩
    simp only [e_law_4, cSeq, cSkip, cAsg, cRet, cExpr, cIfS, cFor, cPar, cAug, cSetIx, cBinE, cBinV, cCall1, cCallN, cCall, cIt, cRangeC1, cRangeC2, cEnum, cZip, cTup, cLst, cNil, cCons, cConsR, cStar, cD, cVar, cVarV, vE, cT, cAnd, cOr, cNot, cAndV, cOrV, cNotV, cIf, cChain, cSlE2, cSlV2, bnd, cRev2, cNeg, cBits, cMeth, gNm, gTp, gsCons, gsNil, setMany, datAt, SV.dat, SV.settle, datas, fnsOf, cTupF, cFn, okA, tyD, bnd_ok, bnd_exc, opt_some, quiet_ok, shs_cons, shs_nil, itemsOf, Option.map_some, Option.bind_some, Option.map_none, Option.bind_none, padS, List.map_cons, List.map_nil, List.length_cons, List.length_nil, Nat.reduceAdd, Nat.reduceSub, List.replicate_succ, List.replicate_zero, List.cons_append, List.nil_append, List.getElem?_cons_zero, List.getElem?_cons_succ, List.set_cons_zero, List.set_cons_succ, if_true, if_false, Bool.false_eq_true, dGt, dLt, dLe2, dGe2, dOrd, dOrdI, dAddI, dSub, decide_eq_true_eq, Bool.not_eq_true', decide_eq_false_iff_not, sizeLine_eq, Nat.reduceLeDiff, Nat.zero_le, Nat.reduceLT, Nat.reducePow, beq_self_eq_true, id_eq, mS, e1]) (szl (by simp))
  have e1 : ("" : Str) = tx [] := by decide +kernel
  have e2 : ("\n \n" : Str) = tx [10, 32, 10] := by decide +kernel
  have e3 : dEq (.list [.list [], .list []]) (.list [.list [], .list []]) = some (.sh (.bool true)) := by rfl
  simp only [List.map_cons, List.map_nil, List.nil_append, mS] at ec
  rw [e1, e2]
  simp only [cSeq, cSkip, cAsg, cRet, cExpr, cIfS, cFor, cPar, cAug, cSetIx, cBinE, cBinV, cCall1, cCallN, cCall, cIt, cRangeC1, cRangeC2, cEnum, cZip, cTup, cLst, cNil, cCons, cConsR, cStar, cD, cVar, cVarV, vE, cT, cAnd, cOr, cNot, cAndV, cOrV, cNotV, cIf, cChain, cSlE2, cSlV2, bnd, cRev2, cNeg, cBits, cMeth, gNm, gTp, gsCons, gsNil, setMany, datAt, SV.dat, SV.settle, datas, fnsOf, cTupF, cFn, okA, tyD, bnd_ok, bnd_exc, opt_some, quiet_ok, shs_cons, shs_nil, itemsOf, Option.map_some, Option.bind_some, Option.map_none, Option.bind_none, padS, List.map_cons, List.map_nil, List.length_cons, List.length_nil, Nat.reduceAdd, Nat.reduceSub, List.replicate_succ, List.replicate_zero, List.cons_append, List.nil_append, List.getElem?_cons_zero, List.getElem?_cons_succ, List.set_cons_zero, List.set_cons_succ, if_true, if_false, Bool.false_eq_true, dGt, dLt, dLe2, dGe2, dOrd, dOrdI, dAddI, dSub, decide_eq_true_eq, Bool.not_eq_true', decide_eq_false_iff_not, sizeLine_eq, Nat.reduceLeDiff, Nat.zero_le, Nat.reduceLT, Nat.reducePow, beq_self_eq_true, id_eq, mS, cComp, dis_tup, dis_lst, wipeS, backS, ec, e3]
  rfl
end
theorem law_ok (c : Addr) (sr : Src) (hsr : SrcIn sr) : (m_law c (lawS 12 sr)).sat (fun fl _ => fl = .ret (.sh (.bool true))) fun _ _ => False := by
  suffices h : ∃ s, m_law c (lawS 12 sr) = .ok (.ret (.sh (.bool true))) s by
    obtain ⟨s, h⟩ := h
    rw [h]
    exact rfl
  have e0 : lawS 12 sr = mS none none none none none none none none none none sr := rfl
  rw [e0]
  obtain ⟨o2, o6, o7, o8, o9, o10, sr1, i1, e1⟩ := lc1 (c := c) (o2 := none) (o3 := none) (o4 := none) (o5 := none) (o6 := none) (o7 := none) (o8 := none) (o9 := none) (o10 := none) (o11 := none) hsr
  obtain ⟨o5, sr2, i2, e5⟩ := lc5 (o2 := o2) (o5 := none) (o6 := o6) (o7 := o7) (o8 := o8) (o9 := o9) (o10 := o10) (xs := some1 ++ some2) (by decide) (fun d hd => (List.mem_append.mp hd).elim (some1_nv d) (some2_nv d)) i1
  refine ⟨mS o2 (some (.own (.list (some1 ++ some2)))) (some (.sh (.list (keptL.map .str)))) o5 o6 o7 o8 o9 o10 none sr2, ?_⟩
  unfold m_law
  exact seq_nx e1 <| seq_nx lc2 <| seq_nx (lc3 rfl) <| seq_nx lc4 <| seq_nx e5 lc6
end Law
end Pw
set_option Elab.async false
set_option linter.all false
set_option maxRecDepth 100000
set_option maxHeartbeats 4000000
namespace Pw
namespace Law
open PySem PySem.Spec PyProof.Rows L2
abbrev sI_BadText : Stmt := clsDef (topS 2)
theorem all_mk {P : Program} {w : World} {K : PySem.W.Frag} {h : Heap} {mg : Str → Option Value} {fa : Addr} (X : K.In h) (G : h.Ns mainGlobals mg) (hfa : mg "law" = some (.ref fa))
    {f_run_behind f_lexeme_from f_lexemes f_is_name f_law_source f_law_pick f_law_of f_law_word f_law_line f_law_told f_law_is_name f_law c_BadText i_BadText cd_BadText cl_BadText ce_BadText : Addr}
    {od_run_behind an_run_behind : Option Addr} {sl_run_behind : Array (Option Value)} {oc_run_behind kv_run_behind dc_run_behind pm_run_behind cv_run_behind ct_run_behind : Value}
    {od_lexeme_from an_lexeme_from : Option Addr} {sl_lexeme_from : Array (Option Value)} {oc_lexeme_from kv_lexeme_from dc_lexeme_from pm_lexeme_from cv_lexeme_from ct_lexeme_from : Value}
    {od_lexemes an_lexemes : Option Addr} {sl_lexemes : Array (Option Value)} {oc_lexemes kv_lexemes dc_lexemes pm_lexemes cv_lexemes ct_lexemes : Value}
    {od_is_name an_is_name : Option Addr} {sl_is_name : Array (Option Value)} {oc_is_name kv_is_name dc_is_name pm_is_name cv_is_name ct_is_name : Value}
    {od_law_source an_law_source : Option Addr} {sl_law_source : Array (Option Value)} {oc_law_source kv_law_source dc_law_source pm_law_source cv_law_source ct_law_source : Value}
    {od_law_pick an_law_pick : Option Addr} {sl_law_pick : Array (Option Value)} {oc_law_pick kv_law_pick dc_law_pick pm_law_pick cv_law_pick ct_law_pick : Value}
    {od_law_of an_law_of : Option Addr} {sl_law_of : Array (Option Value)} {oc_law_of kv_law_of dc_law_of pm_law_of cv_law_of ct_law_of : Value}
    {od_law_word an_law_word : Option Addr} {sl_law_word : Array (Option Value)} {oc_law_word kv_law_word dc_law_word pm_law_word cv_law_word ct_law_word : Value}
    {od_law_line an_law_line : Option Addr} {sl_law_line : Array (Option Value)} {oc_law_line kv_law_line dc_law_line pm_law_line cv_law_line ct_law_line : Value}
    {od_law_told an_law_told : Option Addr} {sl_law_told : Array (Option Value)} {oc_law_told kv_law_told dc_law_told pm_law_told cv_law_told ct_law_told : Value}
    {od_law_is_name an_law_is_name : Option Addr} {sl_law_is_name : Array (Option Value)} {oc_law_is_name kv_law_is_name dc_law_is_name pm_law_is_name cv_law_is_name ct_law_is_name : Value}
    {od_law an_law : Option Addr} {sl_law : Array (Option Value)} {oc_law kv_law dc_law pm_law cv_law ct_law : Value}
    {t_BLANKS : Tok}
    {t_FIGURES : Tok}
    {t_KEPT : Addr} {od_KEPT : Option Addr} {its_KEPT : Array Value} {n_KEPT : Nat} {sl_KEPT : Array (Option Value)}
    {t_MOST_LETTERS : Tok}
    {t_SIGNS : Tok}
    {t_SMALL : Tok}
    {nm_BadText qn_BadText : Str} {ns_BadText : Addr} {bs_BadText : List Value} {sn_BadText : List Str} {sub_BadText : List Value} {ab_BadText : Bool} {co_BadText : Option Bool} {dd_BadText : Option Addr} {m0_BadText m1_BadText m2_BadText m3_BadText m5_BadText : Option Value} {io_BadText ik_BadText id_BadText ip_BadText it_BadText ccl_BadText ccv_BadText : Value} {iod_BadText ian_BadText cdd_BadText ccd_BadText : Option Addr} {isl_BadText ccs_BadText csl_BadText : Array (Option Value)} {cvs_BadText : Array Value} {fi_BadText : Str} {tf_BadText : Tok}
    (a_run_behind : PySem.W.nsIn K mainGlobals "run_behind" = some (some (.ref f_run_behind)))
    (l_run_behind : K.lookup f_run_behind = some ⟨oc_run_behind, od_run_behind, .func (PySem.W.fnOf "run_behind" "run_behind" (defArgs s_run_behind) (defBody s_run_behind) (defScope s_run_behind) .none kv_run_behind dc_run_behind pm_run_behind an_run_behind cv_run_behind ct_run_behind), sl_run_behind⟩)
    (cc_run_behind : PySem.W.codeIn K cv_run_behind "run_behind" = true)
    (kp_run_behind : PySem.W.keepIn K (.ref f_run_behind) = true)
    (a_lexeme_from : PySem.W.nsIn K mainGlobals "lexeme_from" = some (some (.ref f_lexeme_from)))
    (l_lexeme_from : K.lookup f_lexeme_from = some ⟨oc_lexeme_from, od_lexeme_from, .func (PySem.W.fnOf "lexeme_from" "lexeme_from" (defArgs s_lexeme_from) (defBody s_lexeme_from) (defScope s_lexeme_from) .none kv_lexeme_from dc_lexeme_from pm_lexeme_from an_lexeme_from cv_lexeme_from ct_lexeme_from), sl_lexeme_from⟩)
    (cc_lexeme_from : PySem.W.codeIn K cv_lexeme_from "lexeme_from" = true)
    (kp_lexeme_from : PySem.W.keepIn K (.ref f_lexeme_from) = true)
    (a_lexemes : PySem.W.nsIn K mainGlobals "lexemes" = some (some (.ref f_lexemes)))
    (l_lexemes : K.lookup f_lexemes = some ⟨oc_lexemes, od_lexemes, .func (PySem.W.fnOf "lexemes" "lexemes" (defArgs s_lexemes) (defBody s_lexemes) (defScope s_lexemes) .none kv_lexemes dc_lexemes pm_lexemes an_lexemes cv_lexemes ct_lexemes), sl_lexemes⟩)
    (cc_lexemes : PySem.W.codeIn K cv_lexemes "lexemes" = true)
    (kp_lexemes : PySem.W.keepIn K (.ref f_lexemes) = true)
    (a_is_name : PySem.W.nsIn K mainGlobals "is_name" = some (some (.ref f_is_name)))
    (l_is_name : K.lookup f_is_name = some ⟨oc_is_name, od_is_name, .func (PySem.W.fnOf "is_name" "is_name" (defArgs s_is_name) (defBody s_is_name) (defScope s_is_name) .none kv_is_name dc_is_name pm_is_name an_is_name cv_is_name ct_is_name), sl_is_name⟩)
    (cc_is_name : PySem.W.codeIn K cv_is_name "is_name" = true)
    (kp_is_name : PySem.W.keepIn K (.ref f_is_name) = true)
    (a_law_source : PySem.W.nsIn K mainGlobals "_law_source" = some (some (.ref f_law_source)))
    (l_law_source : K.lookup f_law_source = some ⟨oc_law_source, od_law_source, .func (PySem.W.fnOf "_law_source" "_law_source" (defArgs s_law_source) (defBody s_law_source) (defScope s_law_source) .none kv_law_source dc_law_source pm_law_source an_law_source cv_law_source ct_law_source), sl_law_source⟩)
    (cc_law_source : PySem.W.codeIn K cv_law_source "_law_source" = true)
    (kp_law_source : PySem.W.keepIn K (.ref f_law_source) = true)
    (a_law_pick : PySem.W.nsIn K mainGlobals "_law_pick" = some (some (.ref f_law_pick)))
    (l_law_pick : K.lookup f_law_pick = some ⟨oc_law_pick, od_law_pick, .func (PySem.W.fnOf "_law_pick" "_law_pick" (defArgs s_law_pick) (defBody s_law_pick) (defScope s_law_pick) .none kv_law_pick dc_law_pick pm_law_pick an_law_pick cv_law_pick ct_law_pick), sl_law_pick⟩)
    (cc_law_pick : PySem.W.codeIn K cv_law_pick "_law_pick" = true)
    (kp_law_pick : PySem.W.keepIn K (.ref f_law_pick) = true)
    (a_law_of : PySem.W.nsIn K mainGlobals "_law_of" = some (some (.ref f_law_of)))
    (l_law_of : K.lookup f_law_of = some ⟨oc_law_of, od_law_of, .func (PySem.W.fnOf "_law_of" "_law_of" (defArgs s_law_of) (defBody s_law_of) (defScope s_law_of) .none kv_law_of dc_law_of pm_law_of an_law_of cv_law_of ct_law_of), sl_law_of⟩)
    (cc_law_of : PySem.W.codeIn K cv_law_of "_law_of" = true)
    (kp_law_of : PySem.W.keepIn K (.ref f_law_of) = true)
    (a_law_word : PySem.W.nsIn K mainGlobals "_law_word" = some (some (.ref f_law_word)))
    (l_law_word : K.lookup f_law_word = some ⟨oc_law_word, od_law_word, .func (PySem.W.fnOf "_law_word" "_law_word" (defArgs s_law_word) (defBody s_law_word) (defScope s_law_word) .none kv_law_word dc_law_word pm_law_word an_law_word cv_law_word ct_law_word), sl_law_word⟩)
    (cc_law_word : PySem.W.codeIn K cv_law_word "_law_word" = true)
    (kp_law_word : PySem.W.keepIn K (.ref f_law_word) = true)
    (a_law_line : PySem.W.nsIn K mainGlobals "_law_line" = some (some (.ref f_law_line)))
    (l_law_line : K.lookup f_law_line = some ⟨oc_law_line, od_law_line, .func (PySem.W.fnOf "_law_line" "_law_line" (defArgs s_law_line) (defBody s_law_line) (defScope s_law_line) .none kv_law_line dc_law_line pm_law_line an_law_line cv_law_line ct_law_line), sl_law_line⟩)
    (cc_law_line : PySem.W.codeIn K cv_law_line "_law_line" = true)
    (kp_law_line : PySem.W.keepIn K (.ref f_law_line) = true)
    (a_law_told : PySem.W.nsIn K mainGlobals "_law_told" = some (some (.ref f_law_told)))
    (l_law_told : K.lookup f_law_told = some ⟨oc_law_told, od_law_told, .func (PySem.W.fnOf "_law_told" "_law_told" (defArgs s_law_told) (defBody s_law_told) (defScope s_law_told) .none kv_law_told dc_law_told pm_law_told an_law_told cv_law_told ct_law_told), sl_law_told⟩)
    (cc_law_told : PySem.W.codeIn K cv_law_told "_law_told" = true)
    (kp_law_told : PySem.W.keepIn K (.ref f_law_told) = true)
    (a_law_is_name : PySem.W.nsIn K mainGlobals "_law_is_name" = some (some (.ref f_law_is_name)))
    (l_law_is_name : K.lookup f_law_is_name = some ⟨oc_law_is_name, od_law_is_name, .func (PySem.W.fnOf "_law_is_name" "_law_is_name" (defArgs s_law_is_name) (defBody s_law_is_name) (defScope s_law_is_name) .none kv_law_is_name dc_law_is_name pm_law_is_name an_law_is_name cv_law_is_name ct_law_is_name), sl_law_is_name⟩)
    (cc_law_is_name : PySem.W.codeIn K cv_law_is_name "_law_is_name" = true)
    (kp_law_is_name : PySem.W.keepIn K (.ref f_law_is_name) = true)
    (a_law : PySem.W.nsIn K mainGlobals "law" = some (some (.ref f_law)))
    (l_law : K.lookup f_law = some ⟨oc_law, od_law, .func (PySem.W.fnOf "law" "law" (defArgs s_law) (defBody s_law) (defScope s_law) .none kv_law dc_law pm_law an_law cv_law ct_law), sl_law⟩)
    (cc_law : PySem.W.codeIn K cv_law "law" = true)
    (kp_law : PySem.W.keepIn K (.ref f_law) = true)
    (z_abs : PySem.W.nsIn K mainGlobals "abs" = some none)
    (z_all : PySem.W.nsIn K mainGlobals "all" = some none)
    (z_any : PySem.W.nsIn K mainGlobals "any" = some none)
    (z_dict : PySem.W.nsIn K mainGlobals "dict" = some none)
    (z_enumerate : PySem.W.nsIn K mainGlobals "enumerate" = some none)
    (z_int : PySem.W.nsIn K mainGlobals "int" = some none)
    (z_isinstance : PySem.W.nsIn K mainGlobals "isinstance" = some none)
    (z_len : PySem.W.nsIn K mainGlobals "len" = some none)
    (z_list : PySem.W.nsIn K mainGlobals "list" = some none)
    (z_max : PySem.W.nsIn K mainGlobals "max" = some none)
    (z_min : PySem.W.nsIn K mainGlobals "min" = some none)
    (z_range : PySem.W.nsIn K mainGlobals "range" = some none)
    (z_repr : PySem.W.nsIn K mainGlobals "repr" = some none)
    (z_sorted : PySem.W.nsIn K mainGlobals "sorted" = some none)
    (z_str : PySem.W.nsIn K mainGlobals "str" = some none)
    (z_sum : PySem.W.nsIn K mainGlobals "sum" = some none)
    (z_super : PySem.W.nsIn K mainGlobals "super" = some none)
    (z_tuple : PySem.W.nsIn K mainGlobals "tuple" = some none)
    (z_zip : PySem.W.nsIn K mainGlobals "zip" = some none)
    (v_BLANKS : PySem.W.nsIn K mainGlobals "BLANKS" = some (some (.str " \n" t_BLANKS)))
    (v_FIGURES : PySem.W.nsIn K mainGlobals "FIGURES" = some (some (.str "0123456789" t_FIGURES)))
    (v_KEPT : PySem.W.nsIn K mainGlobals "KEPT" = some (some (.ref t_KEPT)))
    (va_KEPT : K.lookup t_KEPT = some ⟨.type "tuple", od_KEPT, .seq its_KEPT n_KEPT, sl_KEPT⟩)
    (vb_KEPT : its_KEPT.size ≤ sizeLine)
    (vc_KEPT : Vals (Law.kk_KEPT.map V.str) its_KEPT.toList)
    (v_MOST_LETTERS : PySem.W.nsIn K mainGlobals "MOST_LETTERS" = some (some (.int 12 t_MOST_LETTERS)))
    (v_SIGNS : PySem.W.nsIn K mainGlobals "SIGNS" = some (some (.str ",:;-" t_SIGNS)))
    (v_SMALL : PySem.W.nsIn K mainGlobals "SMALL" = some (some (.str "abcdefghijklmnopqrstuvwxyz" t_SMALL)))
    (aX_BadText : PySem.W.nsIn K mainGlobals "BadText" = some (some (.ref c_BadText)))
    (x1_BadText : K.lookup c_BadText = some (PySem.excClassObj nm_BadText qn_BadText c_BadText ns_BadText bs_BadText [.ref ce_BadText, .type "ValueError", .type "Exception", .type "BaseException", .type "object"] true sn_BadText sub_BadText ab_BadText co_BadText dd_BadText m0_BadText m1_BadText m2_BadText m3_BadText m5_BadText "ValueError.__new__"))
    (x2_BadText : PySem.W.findIn K (.ref c_BadText) "__setattr__" = some (some (.builtin "object.__setattr__")))
    (n_BadText_place : PySem.W.findIn K (.ref c_BadText) "place" = some none)
    (x3_BadText : PySem.W.findIn K (.ref c_BadText) "__init__" = some (some (.ref i_BadText)))
    (x4_BadText : PySem.W.typeIn K (.ref i_BadText) = some (.type "function"))
    (x5_BadText : PySem.W.keepIn K (.ref c_BadText) = true)
    (x6_BadText : PySem.W.subIn K (.ref c_BadText) (.type "BaseException") = some true)
    (x7_BadText : PySem.W.subIn K (.ref c_BadText) (.type "ValueError") = some true)
    (x8_BadText : PySem.W.typeIn K (.ref c_BadText) = some (.type "type"))
    (x9_BadText : PySem.W.ks_superIn K c_BadText c_BadText "__init__" = some (some (.builtin "ValueError.__init__")))
    (xa_BadText : PySem.W.nsIn K PySem.cStatics "thirdparty.any" = some none)
    (xb_BadText : (P.main.scope.names.lookup ("super" : Str)).isSome = false)
    (xc_BadText : K.lookup i_BadText = some ⟨io_BadText, iod_BadText, .func (PySem.W.ksFn "__init__" "BadText.__init__" (defArgs sI_BadText) (defBody sI_BadText) (defScope sI_BadText) .none ik_BadText id_BadText ip_BadText ian_BadText (.ref cd_BadText) it_BadText cl_BadText), isl_BadText⟩)
    (xd_BadText : PySem.W.codeIn K (.ref cd_BadText) "BadText.__init__" = true)
    (xe_BadText : K.lookup cd_BadText = some ⟨ccl_BadText, cdd_BadText, .fields cvs_BadText, ccs_BadText⟩)
    (xf_BadText : cvs_BadText[2]? = some (.str fi_BadText tf_BadText))
    (xg_BadText : ((P.main.file : Str) == fi_BadText) = true)
    (xh_BadText : K.lookup cl_BadText = some ⟨ccv_BadText, ccd_BadText, .cell (some (.ref c_BadText)), csl_BadText⟩)
    (xi_BadText : PySem.W.findIn K (.ref c_BadText) "__getattribute__" = some (some (.builtin "BaseException.__getattribute__")))
    (xj_BadText : PySem.W.findIn K (.ref c_BadText) "__getattr__" = some none)
    (xk_BadText : PySem.W.hasDictIn K c_BadText = true)
    (xl_BadText : PySem.W.isClsIn K c_BadText = true)
    (xm_BadText : PySem.W.subIn K (.ref c_BadText) (.ref c_BadText) = some true)
    : ∃ fd : FuncData, (∀ (s : Shared) (u : Value), BindsTo s fd ⟨[u], []⟩ [("script", u)]) ∧ ∀ base : Heap, K.In base → base.Ns mainGlobals mg → FnG P w K mg base 5 fa fd ["script"] (spLaw K) := by
  have efa := hfa.symm.trans (PySem.W.mg_of X G a_law)
  cases efa
  have B : Blt mg := ⟨PySem.W.mg_none_of X G z_abs, PySem.W.mg_none_of X G z_all, PySem.W.mg_none_of X G z_any, PySem.W.mg_none_of X G z_dict, PySem.W.mg_none_of X G z_enumerate, PySem.W.mg_none_of X G z_int, PySem.W.mg_none_of X G z_isinstance, PySem.W.mg_none_of X G z_len, PySem.W.mg_none_of X G z_list, PySem.W.mg_none_of X G z_max, PySem.W.mg_none_of X G z_min, PySem.W.mg_none_of X G z_range, PySem.W.mg_none_of X G z_repr, PySem.W.mg_none_of X G z_sorted, PySem.W.mg_none_of X G z_str, PySem.W.mg_none_of X G z_sum, PySem.W.mg_none_of X G z_super, PySem.W.mg_none_of X G z_tuple, PySem.W.mg_none_of X G z_zip⟩
  have cn_BLANKS : ∃ u, mg "BLANKS" = some u ∧ RelV (vOf (.str " \n")) u := ⟨_, PySem.W.mg_of X G v_BLANKS, _, rfl⟩
  have cn_FIGURES : ∃ u, mg "FIGURES" = some u ∧ RelV (vOf (.str "0123456789")) u := ⟨_, PySem.W.mg_of X G v_FIGURES, _, rfl⟩
  have cn_KEPT : ∃ a, mg "KEPT" = some (.ref a) ∧ TupK K a kk_KEPT := ⟨_, PySem.W.mg_of X G v_KEPT, _, _, _, va_KEPT, rfl, rfl, vb_KEPT, vc_KEPT⟩
  have cn_MOST_LETTERS : ∃ u, mg "MOST_LETTERS" = some u ∧ RelV (vOf (.int 12)) u := ⟨_, PySem.W.mg_of X G v_MOST_LETTERS, _, rfl⟩
  have cn_SIGNS : ∃ u, mg "SIGNS" = some u ∧ RelV (vOf (.str ",:;-")) u := ⟨_, PySem.W.mg_of X G v_SIGNS, _, rfl⟩
  have cn_SMALL : ∃ u, mg "SMALL" = some u ∧ RelV (vOf (.str "abcdefghijklmnopqrstuvwxyz")) u := ⟨_, PySem.W.mg_of X G v_SMALL, _, rfl⟩
  have mg_BadText := PySem.W.mg_of X G aX_BadText
  have xn_BadText : ∀ f : Str, f ∈ ([("place" : Str)] : List Str) → PySem.W.findIn K (.ref c_BadText) f = some none := fun f hf => by
    simp only [List.mem_cons, List.not_mem_nil, or_false] at hf
    subst hf
    exact n_BadText_place
  have er_BadText : ErC P K mg c_BadText i_BadText "BadText.__init__" [("place" : Str)] := {
    cls := ⟨_, _, _, _, _, _, _, _, _, _, _, _, _, _, _, x1_BadText, rfl⟩, sa := x2_BadText, no := xn_BadText, iC := x3_BadText, tC := x4_BadText, kC := x5_BadText, exC := x6_BadText, veC := x7_BadText, tyC := x8_BadText, sup := x9_BadText, opq := xa_BadText, mgS := B.super, top := xb_BadText,
    fn := ⟨_, _, sI_BadText, _, _, _, _, _, _, _, _, _, _, _, _, _, _, _, _, _, _, _, _, _, _, _, _, xc_BadText, xd_BadText, xe_BadText, xf_BadText, xg_BadText, xh_BadText, rfl, (.cons .nil), (.cons .nil), fun env => ⟨_, rfl⟩, fun env => rfl, ⟨_, rfl, rfl⟩, ⟨_, _, rfl⟩, rfl, fun f hf => by
      simp only [List.mem_cons, List.not_mem_nil, or_false] at hf
      subst hf
      exact ⟨rfl, by decide, by decide⟩, rfl, rfl, by decide +kernel, fun x us hl => match us, hl with | [_], _ => rfl⟩,
    ne := by decide, nd := by decide, few := by decide }
  have xfc_BadText : XfC K c_BadText := ⟨xi_BadText, xj_BadText, x6_BadText, xk_BadText⟩
  have ex_BadText := exm_own x6_BadText xl_BadText x8_BadText xm_BadText
  have F_run_behind := fun_mk (st := s_run_behind) l_run_behind cc_run_behind kp_run_behind
  have m_run_behind := PySem.W.mg_of X G a_run_behind
  have F_lexeme_from := fun_mk (st := s_lexeme_from) l_lexeme_from cc_lexeme_from kp_lexeme_from
  have m_lexeme_from := PySem.W.mg_of X G a_lexeme_from
  have F_lexemes := fun_mk (st := s_lexemes) l_lexemes cc_lexemes kp_lexemes
  have m_lexemes := PySem.W.mg_of X G a_lexemes
  have F_is_name := fun_mk (st := s_is_name) l_is_name cc_is_name kp_is_name
  have m_is_name := PySem.W.mg_of X G a_is_name
  have F_law_source := fun_mk (st := s_law_source) l_law_source cc_law_source kp_law_source
  have m_law_source := PySem.W.mg_of X G a_law_source
  have F_law_pick := fun_mk (st := s_law_pick) l_law_pick cc_law_pick kp_law_pick
  have m_law_pick := PySem.W.mg_of X G a_law_pick
  have F_law_of := fun_mk (st := s_law_of) l_law_of cc_law_of kp_law_of
  have m_law_of := PySem.W.mg_of X G a_law_of
  have F_law_word := fun_mk (st := s_law_word) l_law_word cc_law_word kp_law_word
  have m_law_word := PySem.W.mg_of X G a_law_word
  have F_law_line := fun_mk (st := s_law_line) l_law_line cc_law_line kp_law_line
  have m_law_line := PySem.W.mg_of X G a_law_line
  have F_law_told := fun_mk (st := s_law_told) l_law_told cc_law_told kp_law_told
  have m_law_told := PySem.W.mg_of X G a_law_told
  have F_law_is_name := fun_mk (st := s_law_is_name) l_law_is_name cc_law_is_name kp_law_is_name
  have m_law_is_name := PySem.W.mg_of X G a_law_is_name
  have F_law := fun_mk (st := s_law) l_law cc_law kp_law
  refine ⟨PySem.W.fnOf "law" "law" (defArgs s_law) (defBody s_law) (defScope s_law) .none kv_law dc_law pm_law an_law cv_law ct_law, fun s u => .of_eq rfl, fun base _ _ => ?_⟩
  have G_run_behind := g_run_behind (P := P) (w := w) (base := base) F_run_behind m_run_behind B 
  have G_lexeme_from := g_lexeme_from (P := P) (w := w) (base := base) F_lexeme_from m_lexeme_from B cn_BLANKS cn_FIGURES cn_SIGNS cn_SMALL G_run_behind
  have G_lexemes := g_lexemes (P := P) (w := w) (base := base) F_lexemes m_lexemes B er_BadText mg_BadText G_lexeme_from
  have G_is_name := g_is_name (P := P) (w := w) (base := base) F_is_name m_is_name B cn_FIGURES cn_KEPT cn_MOST_LETTERS cn_SMALL
  have G_law_source := g_law_source (P := P) (w := w) (base := base) F_law_source m_law_source B 
  have G_law_pick := g_law_pick (P := P) (w := w) (base := base) F_law_pick m_law_pick B 
  have G_law_of := g_law_of (P := P) (w := w) (base := base) F_law_of m_law_of B G_law_pick
  have G_law_word := g_law_word (P := P) (w := w) (base := base) F_law_word m_law_word B G_law_of
  have G_law_line := g_law_line (P := P) (w := w) (base := base) F_law_line m_law_line B G_law_of G_law_pick G_law_word
  have G_law_told := g_law_told (P := P) (w := w) (base := base) F_law_told m_law_told B er_BadText mg_BadText xfc_BadText xn_BadText ex_BadText G_lexemes
  have G_law_is_name := g_law_is_name (P := P) (w := w) (base := base) F_law_is_name m_law_is_name B 
  exact law_of F_law sc_law rfl G_law_source (by decide) law_source_ok rfl (by first | exact Or.inl rfl | exact Or.inr rfl) (by first | exact Or.inl rfl | exact Or.inr (Or.inl rfl)) (fun cdv A outer s H E Z hz hr hgd => d_law B G_law_pick G_law_of G_law_line G_law_told G_law_word G_law_is_name G_is_name G_lexemes cdv A outer s H E Z hz hr hgd) (fun sr hsr => Law.law_ok c_BadText sr hsr) (fun _ => rfl)
end Law
end Pw
open PySem PySem.W PyProof.Rows
set_option maxRecDepth 100000 in
set_option maxHeartbeats 0 in
theorem PySem.Challenge.cw_codeddeals_k01_lexemes_and_names_holds : PySem.Challenge.rw_codeddeals_k01_lexemes_and_names.Holds := by
  w_on; o_law; k_head; (case hw => w_witness2)
  k_fill
  refine Pw.walkG (l := PySem.Challenge.rw_codeddeals_k01_lexemes_and_names) (n := 63) (k := 5) (x := "script") (sp := fun K => Pw.spLaw K) rfl (by decide) rfl ⟨rfl, by decide, by decide⟩ (fun w h Y => PySem.W.kIn_of Y) ?F (fun _ H a ns hl hO hS => ⟨a, ns, rfl, hl, hS, hO, fun _ => rfl⟩)
  case F =>
    intro w mg fa h KX G hmg
    refine' Pw.Law.all_mk KX G hmg ?a_run_behind ?l_run_behind ?cc_run_behind ?kp_run_behind ?a_lexeme_from ?l_lexeme_from ?cc_lexeme_from ?kp_lexeme_from ?a_lexemes ?l_lexemes ?cc_lexemes ?kp_lexemes ?a_is_name ?l_is_name ?cc_is_name ?kp_is_name ?a_law_source ?l_law_source ?cc_law_source ?kp_law_source ?a_law_pick ?l_law_pick ?cc_law_pick ?kp_law_pick ?a_law_of ?l_law_of ?cc_law_of ?kp_law_of ?a_law_word ?l_law_word ?cc_law_word ?kp_law_word ?a_law_line ?l_law_line ?cc_law_line ?kp_law_line ?a_law_told ?l_law_told ?cc_law_told ?kp_law_told ?a_law_is_name ?l_law_is_name ?cc_law_is_name ?kp_law_is_name ?a_law ?l_law ?cc_law ?kp_law ?z_abs ?z_all ?z_any ?z_dict ?z_enumerate ?z_int ?z_isinstance ?z_len ?z_list ?z_max ?z_min ?z_range ?z_repr ?z_sorted ?z_str ?z_sum ?z_super ?z_tuple ?z_zip ?v_BLANKS ?v_FIGURES ?v_KEPT ?va_KEPT ?vb_KEPT ?vc_KEPT ?v_MOST_LETTERS ?v_SIGNS ?v_SMALL ?aX_BadText ?x1_BadText ?x2_BadText ?n_BadText_place ?x3_BadText ?x4_BadText ?x5_BadText ?x6_BadText ?x7_BadText ?x8_BadText ?x9_BadText ?xa_BadText ?xb_BadText ?xc_BadText ?xd_BadText ?xe_BadText ?xf_BadText ?xg_BadText ?xh_BadText ?xi_BadText ?xj_BadText ?xk_BadText ?xl_BadText ?xm_BadText
    (case a_run_behind => k_is)
    (case l_run_behind => k_is)
    (case cc_run_behind => k_is)
    (case kp_run_behind => k_is)
    (case a_lexeme_from => k_is)
    (case l_lexeme_from => k_is)
    (case cc_lexeme_from => k_is)
    (case kp_lexeme_from => k_is)
    (case a_lexemes => k_is)
    (case l_lexemes => k_is)
    (case cc_lexemes => k_is)
    (case kp_lexemes => k_is)
    (case a_is_name => k_is)
    (case l_is_name => k_is)
    (case cc_is_name => k_is)
    (case kp_is_name => k_is)
    (case a_law_source => k_is)
    (case l_law_source => k_is)
    (case cc_law_source => k_is)
    (case kp_law_source => k_is)
    (case a_law_pick => k_is)
    (case l_law_pick => k_is)
    (case cc_law_pick => k_is)
    (case kp_law_pick => k_is)
    (case a_law_of => k_is)
    (case l_law_of => k_is)
    (case cc_law_of => k_is)
    (case kp_law_of => k_is)
    (case a_law_word => k_is)
    (case l_law_word => k_is)
    (case cc_law_word => k_is)
    (case kp_law_word => k_is)
    (case a_law_line => k_is)
    (case l_law_line => k_is)
    (case cc_law_line => k_is)
    (case kp_law_line => k_is)
    (case a_law_told => k_is)
    (case l_law_told => k_is)
    (case cc_law_told => k_is)
    (case kp_law_told => k_is)
    (case a_law_is_name => k_is)
    (case l_law_is_name => k_is)
    (case cc_law_is_name => k_is)
    (case kp_law_is_name => k_is)
    (case a_law => k_is)
    (case l_law => k_is)
    (case cc_law => k_is)
    (case kp_law => k_is)
    (case z_abs => k_is)
    (case z_all => k_is)
    (case z_any => k_is)
    (case z_dict => k_is)
    (case z_enumerate => k_is)
    (case z_int => k_is)
    (case z_isinstance => k_is)
    (case z_len => k_is)
    (case z_list => k_is)
    (case z_max => k_is)
    (case z_min => k_is)
    (case z_range => k_is)
    (case z_repr => k_is)
    (case z_sorted => k_is)
    (case z_str => k_is)
    (case z_sum => k_is)
    (case z_super => k_is)
    (case z_tuple => k_is)
    (case z_zip => k_is)
    (case v_BLANKS => k_is)
    (case v_FIGURES => k_is)
    (case v_KEPT => k_is)
    (case va_KEPT => k_is)
    (case vb_KEPT => (first | decide | exact Nat.le_of_ble_eq_true rfl))
    (case vc_KEPT => exact Pw.vals_by (by decide +kernel))
    (case v_MOST_LETTERS => k_is)
    (case v_SIGNS => k_is)
    (case v_SMALL => k_is)
    (case aX_BadText => k_is)
    (case x1_BadText => k_is)
    (case x2_BadText => k_is)
    (case n_BadText_place => k_is)
    (case x3_BadText => k_is)
    (case x4_BadText => k_is)
    (case x5_BadText => k_is)
    (case x6_BadText => k_is)
    (case x7_BadText => k_is)
    (case x8_BadText => k_is)
    (case x9_BadText => ks_is)
    (case xa_BadText => k_is)
    (case xb_BadText => first | rfl | decide +kernel)
    (case xc_BadText => k_is)
    (case xd_BadText => k_is)
    (case xe_BadText => k_is)
    (case xf_BadText => rfl)
    (case xg_BadText => first | rfl | decide +kernel)
    (case xh_BadText => k_is)
    (case xi_BadText => k_is)
    (case xj_BadText => k_is)
    (case xk_BadText => k_is)
    (case xl_BadText => k_is)
    (case xm_BadText => first | rfl | k_is)
