import PyProof.Rows.All
import Wide.All
import OpenK.AllK
import Wide.FinOn
import HandS.ForMost
import HandS.TupAny
import HandS.TupMul
import HandS.IsInst
import HandS.Wide
import HandS.Zip
import HandS.Walk
import HandS.Style
import HandS.CallSlots
import HandS.ExcOwn
import HandS.Exc
import HandS.WordsExc
import PySem.Challenge.RW_hangwheels_k06_normal_forms
set_option Elab.async false
set_option linter.all false
set_option maxRecDepth 100000
set_option maxHeartbeats 4000000
/-! Values by content: a layer over the hand layer. -/
namespace RL
open PySem PySem.Spec PyProof.Rows L2

/-! ### values by content -/
/-- a value by its content; ref: an object that may change; clk: a clock by its tables; scr: the script -/
inductive D where
  | non | bl (b : Bool) | int (i : Int) | str (x : Str) | ty (n : String) | ref (a : Addr)
  | tup (ds : List D) | lst (ds : List D) | clk (h c : List D) | scr (ds : List D)

/-- the attributes of a whole clock -/
def ckf (v1 v2 l : Addr) : List (Str × V) := putF "levels" (.ref l) (putF "cycle_tables" (.ref v2) (putF "head_tables" (.ref v1) []))

/-- a list that stands still: locked, or of the module -/
def FzL (K : PySem.W.Frag) (H : Hp) (a : Addr) (xs : List V) : Prop := (∃ o, H a = some (.frz o (.lst xs))) ∨
  ∃ (o : Obj) (its : Array Value) (n : Nat), K.lookup a = some o ∧ o.cls = .type "list" ∧ o.dict = none ∧ o.data = .seq its n ∧ its.size ≤ sizeLine ∧ Vals xs its.toList
theorem FzL.sq {K : PySem.W.Frag} {H : Hp} {a : Addr} {xs : List V} (h : FzL K H a xs) : SqL K H a xs := by
  rcases h with ⟨o, h⟩ | h
  · exact .inl (.inr ⟨o, h⟩)
  · exact .inr h
mutual
inductive DR (K : PySem.W.Frag) (C : Addr) (H : Hp) : D → V → Prop
  | non : DR K C H .non .non
  | bl (b : Bool) : DR K C H (.bl b) (.bl b)
  | int (i : Int) : DR K C H (.int i) (.int i)
  | str (x : Str) : DR K C H (.str x) (.str x)
  | ty (n : String) : DR K C H (.ty n) (.ty n)
  | ref (a : Addr) : DR K C H (.ref a) (.ref a)
  | tup {a : Addr} {xs : List V} {ds : List D} (h : SqT K H a xs) (r : DRs K C H ds xs) (z : xs.length ≤ sizeLine) : DR K C H (.tup ds) (.ref a)
  | lst {a : Addr} {o : Obj} {xs : List V} {ds : List D} (h : H a = some (.frz o (.lst xs))) (r : DRs K C H ds xs) (z : xs.length ≤ sizeLine) : DR K C H (.lst ds) (.ref a)
  | scr {a : Addr} {xs : List V} {ds : List D} (h : FzL K H a xs) (r : DRs K C H ds xs) : DR K C H (.scr ds) (.ref a)
  | clk {a dx v1 v2 l : Addr} {h c : List D} (e : H a = some (.ins C dx (ckf v1 v2 l))) (r1 : DR K C H (.tup h) (.ref v1)) (r2 : DR K C H (.tup c) (.ref v2)) : DR K C H (.clk h c) (.ref a)
inductive DRs (K : PySem.W.Frag) (C : Addr) (H : Hp) : List D → List V → Prop
  | nil : DRs K C H [] []
  | cons {d : D} {ds : List D} {v : V} {vs : List V} (r : DR K C H d v) (t : DRs K C H ds vs) : DRs K C H (d :: ds) (v :: vs)
end

/-- what a content leans on stays -/
structure Ext (C : Addr) (H H' : Hp) : Prop where
  tup : ∀ b xs, H b = some (.tup xs) → H' b = some (.tup xs)
  frz : ∀ b o u, H b = some (.frz o u) → H' b = some (.frz o u)
  clk : ∀ a dx v1 v2 l, H a = some (.ins C dx (ckf v1 v2 l)) → H' a = some (.ins C dx (ckf v1 v2 l))
theorem Ext.refl (C : Addr) (H : Hp) : Ext C H H := ⟨fun _ _ h => h, fun _ _ _ h => h, fun _ _ _ _ _ h => h⟩
theorem Ext.trans {C : Addr} {H H1 H2 : Hp} (a : Ext C H H1) (b : Ext C H1 H2) : Ext C H H2 :=
  ⟨fun p xs h => b.tup p xs (a.tup p xs h), fun p o u h => b.frz p o u (a.frz p o u h), fun p dx v1 v2 l h => b.clk p dx v1 v2 l (a.clk p dx v1 v2 l h)⟩
theorem Ext.sqT {C : Addr} {K : PySem.W.Frag} {H H' : Hp} (e : Ext C H H') {a : Addr} {xs : List V} (h : SqT K H a xs) : SqT K H' a xs := by
  rcases h with (h | ⟨o, h⟩) | h
  · exact .inl (.inl (e.tup _ _ h))
  · exact .inl (.inr ⟨o, e.frz _ _ _ h⟩)
  · exact .inr h
theorem Ext.fzL {C : Addr} {K : PySem.W.Frag} {H H' : Hp} (e : Ext C H H') {a : Addr} {xs : List V} (h : FzL K H a xs) : FzL K H' a xs := by
  rcases h with ⟨o, h⟩ | h
  · exact .inl ⟨o, e.frz _ _ _ h⟩
  · exact .inr h
mutual
theorem DR.ext {K : PySem.W.Frag} {C : Addr} {H H' : Hp} (e : Ext C H H') : ∀ {d : D} {v : V}, DR K C H d v → DR K C H' d v
  | _, _, .non => .non
  | _, _, .bl b => .bl b
  | _, _, .int i => .int i
  | _, _, .str x => .str x
  | _, _, .ty n => .ty n
  | _, _, .ref a => .ref a
  | _, _, .tup h r z => .tup (e.sqT h) (DRs.ext e r) z
  | _, _, .lst h r z => .lst (e.frz _ _ _ h) (DRs.ext e r) z
  | _, _, .scr h r => .scr (e.fzL h) (DRs.ext e r)
  | _, _, .clk h r1 r2 => .clk (e.clk _ _ _ _ _ h) (DR.ext e r1) (DR.ext e r2)
theorem DRs.ext {K : PySem.W.Frag} {C : Addr} {H H' : Hp} (e : Ext C H H') : ∀ {ds : List D} {vs : List V}, DRs K C H ds vs → DRs K C H' ds vs
  | _, _, .nil => .nil
  | _, _, .cons r t => .cons (DR.ext e r) (DRs.ext e t)
end
section
variable {K : PySem.W.Frag} {C : Addr} {H : Hp}
theorem DRs.length : ∀ {ds : List D} {vs : List V}, DRs K C H ds vs → ds.length = vs.length
  | _, _, .nil => rfl
  | _, _, .cons _ t => congrArg Nat.succ (DRs.length t)
theorem DRs.get : ∀ {ds : List D} {vs : List V} {i : Nat} {d : D}, DRs K C H ds vs → ds[i]? = some d → ∃ v, vs[i]? = some v ∧ DR K C H d v
  | _, _, _, _, .nil, e => by simp at e
  | _, _, 0, _, .cons r _, e => by simp at e; subst e; exact ⟨_, rfl, r⟩
  | _, _, i + 1, d, .cons _ t, e => by
    obtain ⟨v, h1, h2⟩ := DRs.get (i := i) (d := d) t (by simpa using e)
    exact ⟨v, by simpa using h1, h2⟩
theorem DRs.getV : ∀ {ds : List D} {vs : List V} {i : Nat} {v : V}, DRs K C H ds vs → vs[i]? = some v → ∃ d, ds[i]? = some d ∧ DR K C H d v
  | _, _, _, _, .nil, e => by simp at e
  | _, _, 0, _, .cons r _, e => by simp at e; subst e; exact ⟨_, rfl, r⟩
  | _, _, i + 1, d, .cons _ t, e => by
    obtain ⟨v, h1, h2⟩ := DRs.getV (i := i) (v := d) t (by simpa using e)
    exact ⟨v, by simpa using h1, h2⟩
theorem DRs.app : ∀ {ds es : List D} {vs ws : List V}, DRs K C H ds vs → DRs K C H es ws → DRs K C H (ds ++ es) (vs ++ ws)
  | _, _, _, _, .nil, s => s
  | _, _, _, _, .cons r t, s => .cons r (DRs.app t s)
theorem DRs.take : ∀ {ds : List D} {vs : List V} (n : Nat), DRs K C H ds vs → DRs K C H (ds.take n) (vs.take n)
  | _, _, 0, _ => by simp; exact .nil
  | _, _, _ + 1, .nil => .nil
  | _, _, n + 1, .cons r t => .cons r (DRs.take n t)
theorem DRs.drop : ∀ {ds : List D} {vs : List V} (n : Nat), DRs K C H ds vs → DRs K C H (ds.drop n) (vs.drop n)
  | _, _, 0, r => r
  | _, _, _ + 1, .nil => .nil
  | _, _, n + 1, .cons _ t => DRs.drop n t
theorem DRs.set {d : D} {v : V} (r : DR K C H d v) : ∀ {ds : List D} {vs : List V} (i : Nat), DRs K C H ds vs → DRs K C H (ds.set i d) (vs.set i v)
  | _, _, _, .nil => .nil
  | _, _, 0, .cons _ t => .cons r t
  | _, _, i + 1, .cons q t => .cons q (DRs.set r i t)
theorem DRs.rep {ds : List D} {vs : List V} (h : DRs K C H ds vs) : ∀ k : Nat, DRs K C H (List.replicate k ds).flatten (List.replicate k vs).flatten
  | 0 => by simp; exact .nil
  | k + 1 => by
    rw [List.replicate_succ, List.replicate_succ, List.flatten_cons, List.flatten_cons]
    exact DRs.app h (DRs.rep h k)
theorem DRs.ints : ∀ {ns : List Int} {vs : List V}, DRs K C H (ns.map D.int) vs → vs = ns.map V.int
  | [], vs, h => by
    rw [List.map_nil] at h
    cases h
    rfl
  | n :: ns, vs, h => by
    rw [List.map_cons] at h
    cases h with
    | cons r t =>
      cases r
      rw [DRs.ints t]
      rfl
theorem DRs.bls : ∀ {ns : List Bool} {vs : List V}, DRs K C H (ns.map D.bl) vs → vs = ns.map V.bl
  | [], vs, h => by
    rw [List.map_nil] at h
    cases h
    rfl
  | n :: ns, vs, h => by
    rw [List.map_cons] at h
    cases h with
    | cons r t =>
      cases r
      rw [DRs.bls t]
      rfl
theorem DRs.ofInts (ns : List Int) : DRs K C H (ns.map D.int) (ns.map V.int) := by
  induction ns with
  | nil => exact .nil
  | cons n ns ih => exact .cons (.int n) ih
end

/-! ### the store of what may change -/
inductive DO where
  | lst (ds : List D)
abbrev Sto := Addr → Option DO
def Sto.put (S : Sto) (p : Addr) (o : DO) : Sto := fun b => if b = p then some o else S b
def Sto.del (S : Sto) (p : Addr) : Sto := fun b => if b = p then none else S b
theorem Sto.put_same {S : Sto} {p : Addr} {o : DO} : S.put p o p = some o := by unfold Sto.put; rw [if_pos rfl]
theorem Sto.put_ne {S : Sto} {p b : Addr} {o : DO} (h : b ≠ p) : S.put p o b = S b := by unfold Sto.put; rw [if_neg h]
theorem Sto.put_put {S : Sto} {p : Addr} {o u : DO} : (S.put p o).put p u = S.put p u := by
  funext b
  unfold Sto.put
  split <;> rfl
theorem Sto.del_ne {S : Sto} {p b : Addr} (h : b ≠ p) : S.del p b = S b := by unfold Sto.del; rw [if_neg h]
theorem Sto.del_same {S : Sto} {p : Addr} : S.del p p = none := by unfold Sto.del; rw [if_pos rfl]
theorem Sto.del_put {S : Sto} {p : Addr} {o : DO} (h : S p = none) : (S.put p o).del p = S := by
  funext b
  by_cases e : b = p
  · rw [e, Sto.del_same, h]
  · rw [Sto.del_ne e, Sto.put_ne e]

/-! ### a clock's tables and heights, by content -/
def rowsOf : D → List D
  | .tup ds => ds
  | _ => []
def intOf : D → Int
  | .int i => i
  | _ => 0
def tabAt (h c : List D) (n : Nat) : D := if n < h.length then h.getD n .non else c.getD ((n - h.length) % c.length) .non
def lvAt (h c : List D) : Nat → List Int
  | 0 => [1]
  | n + 1 => (rowsOf (tabAt h c n)).map fun row => ((rowsOf row).map fun d => (lvAt h c n).getD (intOf d).toNat 0).sum
/-- the list of heights that a clock has made so far -/
def CkOk (h c ls : List D) : Prop := ∃ n : Nat, ls = (List.range (n + 1)).map fun i => D.lst ((lvAt h c i).map D.int)
structure LevOk (K : PySem.W.Frag) (C : Addr) (H : Hp) (v1 v2 l : Addr) : Prop where
  ex : ∃ (h c ls : List D) (lv : List V), DR K C H (.tup h) (.ref v1) ∧ DR K C H (.tup c) (.ref v2) ∧ H l = some (.lst lv) ∧ DRs K C H ls lv ∧ CkOk h c ls
/-- the store tells what stands in the abstract heap -/
structure SR (K : PySem.W.Frag) (C : Addr) (S : Sto) (H : Hp) : Prop where
  ob : ∀ p ds, S p = some (.lst ds) → ∃ xs, H p = some (.lst xs) ∧ DRs K C H ds xs ∧ xs.length ≤ sizeLine
  ck : ∀ a dx v1 v2 l, H a = some (.ins C dx (ckf v1 v2 l)) → S l = none ∧ LevOk K C H v1 v2 l
  sh : ∀ a dx v1 v2 b dx' w1 w2 l, H a = some (.ins C dx (ckf v1 v2 l)) → H b = some (.ins C dx' (ckf w1 w2 l)) → a = b
section
variable {K : PySem.W.Frag} {C : Addr} {S S' : Sto} {H : Hp} {p : Addr} {o : HO}
theorem SR.none (sr : SR K C S H) (h : H p = Option.none) : S p = Option.none := by
  cases e : S p with
  | none => rfl
  | some u =>
    cases u with
    | lst ds =>
      obtain ⟨xs, q, _, _⟩ := sr.ob p ds e
      rw [h] at q
      cases q
theorem SR.sub (sr : SR K C S' H) (h : ∀ b o, S b = some o → S' b = some o) : SR K C S H := by
  refine ⟨fun p ds e => sr.ob p ds (h _ _ e), fun a dx v1 v2 l e => ⟨?_, (sr.ck a dx v1 v2 l e).2⟩, sr.sh⟩
  cases q : S l with
  | none => rfl
  | some u =>
    have := (sr.ck a dx v1 v2 l e).1
    rw [h _ _ q] at this
    cases this
theorem SR.sdel (sr : SR K C S H) : SR K C (S.del p) H := sr.sub fun b o e => by
  unfold Sto.del at e
  split at e
  · cases e
  · exact e
def NoIns : HO → Prop
  | .ins _ _ _ => False
  | _ => True
theorem Ext.new (hp : H p = Option.none) : Ext C H (upd H p o) :=
  ⟨fun b xs h => by rw [upd_ne (ne_of_none h hp)]; exact h, fun b u xs h => by rw [upd_ne (ne_of_none h hp)]; exact h, fun a dx v1 v2 l h => by rw [upd_ne (ne_of_none h hp)]; exact h⟩
theorem LevOk.ext {H' : Hp} {v1 v2 l : Addr} (lo : LevOk K C H v1 v2 l) (e : Ext C H H') (h : ∀ xs, H l = some (.lst xs) → H' l = some (.lst xs)) : LevOk K C H' v1 v2 l := by
  obtain ⟨h0, c0, ls, lv, r1, r2, hl, r3, ck⟩ := lo.ex
  exact ⟨h0, c0, ls, lv, r1.ext e, r2.ext e, h _ hl, r3.ext e, ck⟩
theorem LevOk.at {v1 v2 l : Addr} (lo : LevOk K C H v1 v2 l) : ∃ xs, H l = some (.lst xs) := by
  obtain ⟨h0, c0, ls, lv, r1, r2, hl, r3, ck⟩ := lo.ex
  exact ⟨lv, hl⟩
theorem SR.new (sr : SR K C S H) (hp : H p = Option.none) (no : NoIns o) : SR K C S (upd H p o) := by
  have ext : Ext C H (upd H p o) := Ext.new hp
  have old : ∀ {a dx fs}, upd H p o a = some (.ins C dx fs) → H a = some (.ins C dx fs) := fun {a dx fs} e => by
    by_cases ha : a = p
    · rw [ha, upd_same] at e
      rw [Option.some.inj e] at no
      exact no.elim
    · rw [upd_ne ha] at e
      exact e
  refine ⟨fun q ds e => ?_, fun a dx v1 v2 l e => ?_, fun a dx v1 v2 b dx' w1 w2 l e1 e2 => sr.sh a dx v1 v2 b dx' w1 w2 l (old e1) (old e2)⟩
  · obtain ⟨xs, h1, h2, h3⟩ := sr.ob q ds e
    exact ⟨xs, by rw [upd_ne (ne_of_none h1 hp)]; exact h1, h2.ext ext, h3⟩
  · obtain ⟨h1, h2⟩ := sr.ck a dx v1 v2 l (old e)
    exact ⟨h1, h2.ext ext fun xs h => by rw [upd_ne (ne_of_none h hp)]; exact h⟩
/-- a new list that may change -/
theorem SR.newL (sr : SR K C S H) (hp : H p = Option.none) {ds : List D} {xs : List V} (r : DRs K C H ds xs) (z : xs.length ≤ sizeLine) : SR K C (S.put p (.lst ds)) (upd H p (.lst xs)) := by
  have b := sr.new hp (o := .lst xs) trivial
  have ext : Ext C H (upd H p (.lst xs)) := Ext.new hp
  refine ⟨fun q es e => ?_, fun a dx v1 v2 l e => ⟨?_, (b.ck a dx v1 v2 l e).2⟩, b.sh⟩
  · by_cases hq : q = p
    · rw [hq, Sto.put_same] at e
      cases e
      rw [hq, upd_same]
      exact ⟨xs, rfl, r.ext ext, z⟩
    · rw [Sto.put_ne hq] at e
      exact b.ob q es e
  · obtain ⟨s1, lo⟩ := b.ck a dx v1 v2 l e
    by_cases hl : l = p
    · exfalso
      have e0 : H a = some (.ins C dx (ckf v1 v2 l)) := by
        by_cases ha : a = p
        · rw [ha, upd_same] at e
          cases e
        · rw [upd_ne ha] at e
          exact e
      obtain ⟨ys, hy⟩ := (sr.ck a dx v1 v2 l e0).2.at
      rw [hl, hp] at hy
      cases hy
    · rw [Sto.put_ne hl]
      exact s1
/-- a list of the store is written -/
theorem Ext.wr {xs ys : List V} (h : H p = some (.lst xs)) : Ext C H (upd H p (.lst ys)) :=
  ⟨fun b zs q => by rw [upd_ne (ne_of q h (by intro z; cases z))]; exact q, fun b u zs q => by rw [upd_ne (ne_of q h (by intro z; cases z))]; exact q, fun a dx v1 v2 l q => by rw [upd_ne (ne_of q h (by intro z; cases z))]; exact q⟩
theorem Ext.fz {xs : List V} {ob : Obj} (h : H p = some (.lst xs)) : Ext C H (upd H p (.frz ob (.lst xs))) :=
  ⟨fun b zs q => by rw [upd_ne (ne_of q h (by intro z; cases z))]; exact q, fun b u zs q => by rw [upd_ne (ne_of q h (by intro z; cases z))]; exact q, fun a dx v1 v2 l q => by rw [upd_ne (ne_of q h (by intro z; cases z))]; exact q⟩
theorem SR.wr (sr : SR K C S H) {ds es : List D} {ys : List V} (hs : S p = some (.lst es)) (r : DRs K C H ds ys) (z : ys.length ≤ sizeLine) : SR K C (S.put p (.lst ds)) (upd H p (.lst ys)) := by
  obtain ⟨xs, hp, _, _⟩ := sr.ob p es hs
  have ext : Ext C H (upd H p (.lst ys)) := Ext.wr hp
  have old : ∀ {a dx fs}, upd H p (.lst ys) a = some (.ins C dx fs) → H a = some (.ins C dx fs) := fun {a dx fs} e => by
    by_cases ha : a = p
    · rw [ha, upd_same] at e
      cases e
    · rw [upd_ne ha] at e
      exact e
  have nl : ∀ {a dx v1 v2 l}, H a = some (.ins C dx (ckf v1 v2 l)) → l ≠ p := fun {a dx v1 v2 l} e z => by
    have := (sr.ck a dx v1 v2 l e).1
    rw [z, hs] at this
    cases this
  refine ⟨fun q zs e => ?_, fun a dx v1 v2 l e => ?_, fun a dx v1 v2 b dx' w1 w2 l e1 e2 => sr.sh a dx v1 v2 b dx' w1 w2 l (old e1) (old e2)⟩
  · by_cases hq : q = p
    · rw [hq, Sto.put_same] at e
      cases e
      rw [hq, upd_same]
      exact ⟨ys, rfl, r.ext ext, z⟩
    · rw [Sto.put_ne hq] at e
      obtain ⟨ws, h1, h2, h3⟩ := sr.ob q zs e
      exact ⟨ws, by rw [upd_ne hq]; exact h1, h2.ext ext, h3⟩
  · obtain ⟨h1, h2⟩ := sr.ck a dx v1 v2 l (old e)
    have n := nl (old e)
    exact ⟨by rw [Sto.put_ne n]; exact h1, h2.ext ext fun xs h => by rw [upd_ne n]; exact h⟩
/-- a list is locked for good: from now on it stands by its content -/
theorem SR.fz (sr : SR K C S H) {xs : List V} {ob : Obj} (hp : H p = some (.lst xs)) (nc : ∀ a dx v1 v2, H a ≠ some (.ins C dx (ckf v1 v2 p))) : SR K C (S.del p) (upd H p (.frz ob (.lst xs))) := by
  have ext : Ext C H (upd H p (.frz ob (.lst xs))) := Ext.fz hp
  have old : ∀ {a dx fs}, upd H p (.frz ob (.lst xs)) a = some (.ins C dx fs) → H a = some (.ins C dx fs) := fun {a dx fs} e => by
    by_cases ha : a = p
    · rw [ha, upd_same] at e
      cases e
    · rw [upd_ne ha] at e
      exact e
  have nl : ∀ {a dx v1 v2 l}, H a = some (.ins C dx (ckf v1 v2 l)) → l ≠ p := fun {a dx v1 v2 l} e z => nc a dx v1 v2 (z ▸ e)
  refine ⟨fun q zs e => ?_, fun a dx v1 v2 l e => ?_, fun a dx v1 v2 b dx' w1 w2 l e1 e2 => sr.sh a dx v1 v2 b dx' w1 w2 l (old e1) (old e2)⟩
  · have hq : q ≠ p := fun z => by
      rw [z, Sto.del_same] at e
      cases e
    rw [Sto.del_ne hq] at e
    obtain ⟨ws, h1, h2, h3⟩ := sr.ob q zs e
    exact ⟨ws, by rw [upd_ne hq]; exact h1, h2.ext ext, h3⟩
  · obtain ⟨h1, h2⟩ := sr.ck a dx v1 v2 l (old e)
    have n := nl (old e)
    exact ⟨by rw [Sto.del_ne n]; exact h1, h2.ext ext fun xs h => by rw [upd_ne n]; exact h⟩
theorem SR.fzS (sr : SR K C S H) {xs : List V} {ob : Obj} {es : List D} (hs : S p = some (.lst es)) (hp : H p = some (.lst xs)) : SR K C (S.del p) (upd H p (.frz ob (.lst xs))) :=
  sr.fz hp fun a dx v1 v2 e => by
    have := (sr.ck a dx v1 v2 p e).1
    rw [hs] at this
    cases this
end

/-! ### the list at p is locked, under the invariant -/
theorem inv_fz {X : Cx} {pins : List (Addr × Obj)} {σ : L2.St} {H : Hp} {s : Shared} {p : Addr} {xs : List V} (I : Inv X pins σ H s) (hp : H p = some (.lst xs)) : ∃ ob, Inv X pins σ (upd H p (.frz ob (.lst xs))) s := by
  obtain ⟨hz, its, n, rv, e⟩ := I.hok p _ hp
  refine ⟨{ cls := .type "list", data := .seq its.toArray n }, ?_⟩
  have nn : ∀ b, H b = none → b ≠ p := fun b q z => by
    rw [z, hp] at q
    cases q
  have hok : HOk X.prog X.w (upd H p (.frz { cls := .type "list", data := .seq its.toArray n } (.lst xs))) s.heap := fun b u q => by
    by_cases hb : b = p
    · rw [hb, upd_same] at q
      cases q
      rw [hb]
      exact ⟨e, hz, its, n, rv, e⟩
    · rw [upd_ne hb] at q
      refine (I.hok b u q).stay (fun c v _ r => r) (fun c r => ?_) fun c zs r => ?_
      · rw [upd_ne (ne_of r hp (by intro z; cases z))]
        exact r
      · rw [upd_ne (ne_of r hp (by intro z; cases z))]
        exact r
  refine ⟨I.ok, I.os, I.bare, ⟨I.base.keep, I.base.slot, fun b o q1 q2 q3 => ?_, I.base.there, fun b zs q => ?_, fun b o u q => ?_, fun b ps q => ?_⟩, I.loc, I.cell, ?_, fun x c q => ?_, fun q hq => ?_, hok, I.len⟩
  · have z := I.base.free b o q1 q2 q3
    rw [upd_ne (nn b z)]
    exact z
  · have z := I.base.tups b zs q
    rw [upd_ne (ne_of z hp (by intro z; cases z))]
    exact z
  · have z := I.base.frzs b o u q
    rw [upd_ne (ne_of z hp (by intro z; cases z))]
    exact z
  · obtain ⟨m, z⟩ := I.base.tbls b ps q
    exact ⟨m, by rw [upd_ne (ne_of z hp (by intro z; cases z))]; exact z⟩
  · rw [upd_ne (nn _ I.free)]
    exact I.free
  · rw [upd_ne (nn _ (I.freeC x c q))]
    exact I.freeC x c q
  · obtain ⟨a1, a2, a3, a4, a5⟩ := I.pin q hq
    exact ⟨a1, by rw [upd_ne (nn _ a2)]; exact a2, a3, a4, a5⟩
end RL

namespace RL
open PySem PySem.Spec PyProof.Rows L2

/-! ### judgements by content -/
abbrev EV := List (Option D)
abbrev KD := D → Sto → Prop
abbrev WE := EV → Sto → KD → Prop
abbrev WT := EV → Sto → (Bool → Sto → Prop) → Prop
abbrev WA := EV → Sto → (List D → Sto → Prop) → Prop
structure Stt (K : PySem.W.Frag) (C : Addr) (H0 : Hp) (E : EV) (S : Sto) (σ : L2.St) (H : Hp) : Prop where
  base : Ext C H0 H
  len : E.length = σ.length
  env : ∀ (i : Nat) (d : D), E[i]? = some (some d) → ∃ v, σ[i]? = some (some v) ∧ DR K C H d v
  sr : SR K C S H
theorem Stt.ext {K : PySem.W.Frag} {C : Addr} {H0 : Hp} {E : EV} {S S' : Sto} {σ : L2.St} {H H' : Hp} (st : Stt K C H0 E S σ H) (e : Ext C H H') (sr : SR K C S' H') : Stt K C H0 E S' σ H' :=
  ⟨st.base.trans e, st.len, fun i d q => let ⟨v, h1, h2⟩ := st.env i d q; ⟨v, h1, h2.ext e⟩, sr⟩
theorem Stt.set {K : PySem.W.Frag} {C : Addr} {H0 : Hp} {E : EV} {S : Sto} {σ : L2.St} {H : Hp} (st : Stt K C H0 E S σ H) {d : D} {v : V} (r : DR K C H d v) (i : Nat) : Stt K C H0 (E.set i (some d)) S (σ.set i (some v)) H := by
  refine ⟨st.base, by rw [List.length_set, List.length_set]; exact st.len, fun j e q => ?_, st.sr⟩
  by_cases hj : i = j
  · subst hj
    by_cases hl : i < E.length
    · rw [List.getElem?_set_self hl] at q
      cases q
      rw [List.getElem?_set_self (st.len ▸ hl)]
      exact ⟨v, rfl, r⟩
    · rw [List.getElem?_eq_none (by rw [List.length_set]; omega)] at q
      cases q
  · rw [List.getElem?_set_ne hj] at q
    rw [List.getElem?_set_ne hj]
    exact st.env j e q
/-- the wish Q follows from the wish Qd by content -/
def Cl (K : PySem.W.Frag) (C : Addr) (H : Hp) (Qd : KD) (Q : VK) : Prop := ∀ d S' v H', Ext C H H' → DR K C H' d v → SR K C S' H' → Qd d S' → Q v H'
theorem Cl.mono {K : PySem.W.Frag} {C : Addr} {H H1 : Hp} {Qd : KD} {Q : VK} (c : Cl K C H Qd Q) (e : Ext C H H1) : Cl K C H1 Qd Q := fun d S' v H' e' r s q => c d S' v H' (e.trans e') r s q
def liftE (K : PySem.W.Frag) (C : Addr) (H0 : Hp) (w : WE) : TE := fun σ H Q => ∃ E S Qd, Stt K C H0 E S σ H ∧ w E S Qd ∧ Cl K C H Qd Q
def liftT (K : PySem.W.Frag) (C : Addr) (H0 : Hp) (w : WT) : TT := fun σ H Q => ∃ E S Qd, Stt K C H0 E S σ H ∧ w E S Qd ∧ ∀ b S' H', Ext C H H' → SR K C S' H' → Qd b S' → Q b H'
def liftA (K : PySem.W.Frag) (C : Addr) (H0 : Hp) (w : WA) : TA := fun σ H Q => ∃ E S Qd, Stt K C H0 E S σ H ∧ w E S Qd ∧ ∀ ds S' vs H', Ext C H H' → DRs K C H' ds vs → SR K C S' H' → Qd ds S' → Q vs H'
structure DE (C : Addr) (B : Hp) (X : Cx) (e : Expr) (w : WE) : Prop where
  pe : PE X e (liftE X.K C B w)
structure DT (C : Addr) (B : Hp) (X : Cx) (e : Expr) (w : WT) : Prop where
  pt : PT X e (liftT X.K C B w)
structure DW (C : Addr) (B : Hp) (X : Cx) (e : Expr) (w : WT) : Prop where
  pw : PW X e (liftT X.K C B w)
structure DA (C : Addr) (B : Hp) (X : Cx) (es : List Expr) (w : WA) : Prop where
  pa : PA X es (liftA X.K C B w)
theorem PEimp {X : Cx} {e : Expr} {t t' : TE} (p : PE X e t) (h : ∀ σ H Q, t' σ H Q → t σ H Q) : PE X e t' := ⟨fun pins s σ H Q I q => p.run pins s σ H Q I (h σ H Q q)⟩
theorem PTimp {X : Cx} {e : Expr} {t t' : TT} (p : PT X e t) (h : ∀ σ H Q, t' σ H Q → t σ H Q) : PT X e t' := ⟨fun pins s σ H Q I q => p.run pins s σ H Q I (h σ H Q q)⟩
theorem PWimp {X : Cx} {e : Expr} {t t' : TT} (p : PW X e t) (h : ∀ σ H Q, t' σ H Q → t σ H Q) : PW X e t' := ⟨fun wh pins s σ H Q I q => p.run wh pins s σ H Q I (h σ H Q q)⟩
theorem PAimp {X : Cx} {es : List Expr} {t t' : TA} (p : PA X es t) (h : ∀ σ H Q, t' σ H Q → t σ H Q) : PA X es t' := ⟨fun pos pins s σ H Q I q => p.run pos pins s σ H Q I (h σ H Q q)⟩

section
variable {K : PySem.W.Frag} {C : Addr} {H : Hp} {Qd : KD} {Q : VK} {S : Sto} {p : Addr}
theorem Cl.now {d : D} {v : V} (c : Cl K C H Qd Q) (r : DR K C H d v) (sr : SR K C S H) (q : Qd d S) : Q v H := c d S v H (Ext.refl C H) r sr q
/-- a new tuple -/
theorem Cl.tup {ds : List D} {vs : List V} (c : Cl K C H Qd Q) (hp : H p = none) (r : DRs K C H ds vs) (z : vs.length ≤ sizeLine) (sr : SR K C S H) (q : Qd (.tup ds) S) : Q (.ref p) (upd H p (.tup vs)) :=
  c _ _ _ _ (Ext.new hp) (.tup (.inl (.inl upd_same)) (r.ext (Ext.new hp)) z) (sr.new hp trivial) q
/-- a new list that may change -/
theorem Cl.newL {ds : List D} {vs : List V} (c : Cl K C H Qd Q) (hp : H p = none) (r : DRs K C H ds vs) (z : vs.length ≤ sizeLine) (sr : SR K C S H) (q : Qd (.ref p) (S.put p (.lst ds))) : Q (.ref p) (upd H p (.lst vs)) :=
  c _ _ _ _ (Ext.new hp) (.ref p) (sr.newL hp r z) q
/-- a new list that is locked at once -/
theorem Cl.newF {ds : List D} {vs : List V} {ob : Obj} (c : Cl K C H Qd Q) (hp : H p = none) (r : DRs K C H ds vs) (z : vs.length ≤ sizeLine) (sr : SR K C S H) (q : Qd (.lst ds) S) : Q (.ref p) (upd H p (.frz ob (.lst vs))) :=
  c _ _ _ _ (Ext.new hp) (.lst upd_same (r.ext (Ext.new hp)) z) (sr.new hp trivial) q
end
/-- what is wanted of a list that was made and is locked now -/
def fzK (Q : VK) : VK := fun v H => ∃ p xs, v = .ref p ∧ H p = some (.lst xs) ∧ ∀ ob, Q v (upd H p (.frz ob (.lst xs)))
theorem ep_fz {X : Cx} {pins : List (Addr × Obj)} {σ : L2.St} {Q : VK} {u : Value} {s : Shared} (h : EP X pins σ (fzK Q) u s) : EP X pins σ Q u s := by
  obtain ⟨v, H, I, r, p, xs, rfl, hp, q⟩ := h
  obtain ⟨ob, I'⟩ := inv_fz I hp
  exact ⟨_, _, I', r, q ob⟩
theorem PEfz {X : Cx} {e : Expr} {t : TE} (p : PE X e t) : PE X e (fun σ H Q => t σ H (fzK Q)) := ⟨fun pins s σ H Q I q => thn (p.run pins s σ H _ I q) fun _ _ => ep_fz⟩
theorem CallRfz {X : Cx} {f : Value} {r : List V → Hp → VK → Prop} (p : CallR X f r) : CallR X f (fun xs H Q => r xs H (fzK Q)) := fun pins s σ H xs us Q I a q => thn (p pins s σ H xs us _ I a q) fun _ _ => ep_fz
theorem Cl.newZ {K : PySem.W.Frag} {C : Addr} {H : Hp} {Qd : KD} {Q : VK} {S : Sto} {p : Addr} {ds : List D} {vs : List V} (c : Cl K C H Qd Q) (hp : H p = none) (r : DRs K C H ds vs) (z : vs.length ≤ sizeLine) (sr : SR K C S H) (q : Qd (.lst ds) S) : fzK Q (.ref p) (upd H p (.lst vs)) :=
  ⟨p, vs, rfl, upd_same, fun ob => by rw [upd_upd]; exact c.newF hp r z sr q⟩

/-! ### names and constants -/
def wVar (i : Nat) : WE := fun E S Q => match E[i]? with
  | some (some d) => Q d S
  | _ => False
def wC (d : D) : WE := fun _ S Q => Q d S
section
variable {C : Addr} {B : Hp} {X : Cx} {pos : Pos}
theorem de_var (i : Nat) {x : Str} (hN : X.N[i]? = some x := by rfl) (hv : Vis X.env.scope x := by first | exact Or.inl rfl | exact Or.inr (Or.inl rfl) | exact Or.inr (Or.inr rfl)) (hd : (x == ("__debug__" : Str)) = false := by decide)
    (hcd : (x == ("__classdict__" : Str)) = false := by decide) : DE C B X (.Name x pos) (wVar i) :=
  ⟨PEimp (pe_var hN hv hd hcd) fun σ H Q ⟨E, S, Qd, st, h, c⟩ => by
    unfold wVar at h
    split at h
    · rename_i d e
      obtain ⟨v, h1, h2⟩ := st.env i d e
      exact ⟨v, h1, c.now h2 st.sr h⟩
    · exact h.elim⟩
theorem de_c {e : Expr} {v : V} {d : D} (h : PE X e (tC v)) (r : ∀ H, DR X.K C H d v) : DE C B X e (wC d) := ⟨PEimp h fun σ H Q ⟨E, S, Qd, st, h, c⟩ => c.now (r H) st.sr h⟩
theorem de_int {i : Int} {j : Nat} : DE C B X (.Constant (.int i) j pos) (wC (.int i)) := de_c pe_int fun _ => .int _
theorem de_bl {b : Bool} {j : Nat} : DE C B X (.Constant (.bool b) j pos) (wC (.bl b)) := de_c pe_bl fun _ => .bl _
theorem de_non {j : Nat} : DE C B X (.Constant .none j pos) (wC .non) := de_c pe_non fun _ => .non
theorem de_str {x : Str} {j : Nat} : DE C B X (.Constant (.str x) j pos) (wC (.str x)) := de_c pe_str fun _ => .str _
/-- a module's constant: an int or a text -/
theorem de_gint {x : Str} {i : Int} (hm : ∃ t, X.mg x = some (.int i t)) (hg : Gl X x := by rfl) (hd : (x == ("__debug__" : Str)) = false := by decide) : DE C B X (.Name x pos) (wC (.int i)) :=
  let ⟨t, h⟩ := hm
  de_c (pe_glob (v := .int i) hg h ⟨t, rfl⟩ hd) fun _ => .int _
theorem de_gstr {x y : Str} (hm : ∃ t, X.mg x = some (.str y t)) (hg : Gl X x := by rfl) (hd : (x == ("__debug__" : Str)) = false := by decide) : DE C B X (.Name x pos) (wC (.str y)) :=
  let ⟨t, h⟩ := hm
  de_c (pe_glob (v := .str y) hg h ⟨t, rfl⟩ hd) fun _ => .str _
/-- a class, a def of the module as a value -/
theorem de_gref {x : Str} {a : Addr} (hm : X.mg x = some (.ref a)) (hg : Gl X x := by rfl) (hd : (x == ("__debug__" : Str)) = false := by decide) : DE C B X (.Name x pos) (wC (.ref a)) :=
  de_c (pe_glob (v := .ref a) hg hm rfl hd) fun _ => .ref _
/-- a built-in class as a value -/
theorem de_gty {x : Str} {n : String} (hm : X.mg x = none) (hv : bootBuiltins x = some (.type n)) (hg : Gl X x := by rfl) (hn : x ≠ "__name__" := by decide) (hd : (x == ("__debug__" : Str)) = false := by decide) : DE C B X (.Name x pos) (wC (.ty n)) :=
  de_c (pe_bltn (v := .ty n) hg hm hv rfl hn hd) fun _ => .ty _
end

/-! ### operators by content -/
abbrev R2D := D → D → Sto → KD → Prop
def lift2 (K : PySem.W.Frag) (C : Addr) (r : R2D) : R2 := fun x y H Q => ∃ dx dy S Qd, DR K C H dx x ∧ DR K C H dy y ∧ SR K C S H ∧ r dx dy S Qd ∧ Cl K C H Qd Q
def lift1 (K : PySem.W.Frag) (C : Addr) (r : D → Sto → KD → Prop) : V → Hp → VK → Prop := fun x H Q => ∃ dx S Qd, DR K C H dx x ∧ SR K C S H ∧ r dx S Qd ∧ Cl K C H Qd Q
def liftC (K : PySem.W.Frag) (C : Addr) (r : List D → Sto → KD → Prop) : List V → Hp → VK → Prop := fun vs H Q => ∃ ds S Qd, DRs K C H ds vs ∧ SR K C S H ∧ r ds S Qd ∧ Cl K C H Qd Q
def wBin (r : R2D) (a b : WE) : WE := fun E S Q => a E S fun x S1 => b E S1 fun y S2 => r x y S2 Q
def wUn (r : D → Sto → KD → Prop) (a : WE) : WE := fun E S Q => a E S fun x S1 => r x S1 Q
section
variable {C : Addr} {B : Hp} {X : Cx} {pos : Pos} {a b c : Expr} {wa wb wc : WE}
theorem lift_bin {r : R2D} {σ : L2.St} {H : Hp} {Q : VK} (h : liftE X.K C B (wBin r wa wb) σ H Q) : tOp (lift2 X.K C r) (liftE X.K C B wa) (liftE X.K C B wb) σ H Q := by
  obtain ⟨E, S, Qd, st, h, c⟩ := h
  exact ⟨E, S, _, st, h, fun x S1 v H1 e1 r1 s1 h1 => ⟨E, S1, _, st.ext e1 s1, h1, fun y S2 u H2 e2 r2 s2 h2 => ⟨x, y, S2, Qd, r1.ext e2, r2, s2, h2, (c.mono e1).mono e2⟩⟩⟩
theorem de_bin {op : Operator} {r : R2D} (ho : OpR X (binaryOp op) (lift2 X.K C r)) (ha : DE C B X a wa) (hb : DE C B X b wb) : DE C B X (.BinOp a op b pos) (wBin r wa wb) :=
  ⟨PEimp (pe_op ho ha.pe hb.pe) fun _ _ _ h => lift_bin h⟩
theorem de_un {op : UnaryOp} {r : D → Sto → KD → Prop} (ho : UnR X (unaryOp op) (lift1 X.K C r)) (ha : DE C B X a wa) : DE C B X (.UnaryOp op a pos) (wUn r wa) :=
  ⟨PEimp (pe_un ho ha.pe) fun σ H Q ⟨E, S, Qd, st, h, c⟩ => ⟨E, S, _, st, h, fun x S1 v H1 e1 r1 s1 h1 => ⟨x, S1, Qd, r1, s1, h1, c.mono e1⟩⟩⟩
/-! comparisons -/
theorem de_cmp {op : CmpOp} {r : R2D} (ho : OpR X (compareOp op) (lift2 X.K C r)) (ha : DE C B X a wa) (hb : DE C B X b wb) (hm : behindInMarks op b = false := by first | exact nomark _ | with_unfolding_all rfl) : DE C B X (.Compare a [op] [b] pos) (wBin r wa wb) :=
  ⟨PEimp (pe_cmpR ho ha.pe hb.pe hm) fun _ _ _ h => lift_bin h⟩
def wTest (w : WE) : WT := fun E S Q => w E S fun x S1 => match x with
  | .bl k => Q k S1
  | _ => False
theorem lift_test {w : WE} {σ : L2.St} {H : Hp} {Q : Bool → Hp → Prop} (h : liftT X.K C B (wTest w) σ H Q) : liftE X.K C B w σ H fun x H' => ∃ k, x = .bl k ∧ Q k H' := by
  obtain ⟨E, S, Qd, st, h, c⟩ := h
  refine ⟨E, S, _, st, h, fun d S1 v H1 e1 r1 s1 h1 => ?_⟩
  cases d <;> first | exact False.elim h1 | skip
  cases r1
  exact ⟨_, rfl, c _ _ _ e1 s1 h1⟩
theorem dt_cmp {op : CmpOp} {r : R2D} (ho : OpR X (compareOp op) (lift2 X.K C r)) (ha : DE C B X a wa) (hb : DE C B X b wb) (hm : behindInMarks op b = false := by first | exact nomark _ | with_unfolding_all rfl) : DT C B X (.Compare a [op] [b] pos) (wTest (wBin r wa wb)) :=
  ⟨PTimp (pt_cmpR ho ha.pe hb.pe hm) fun σ H Q h => by
    obtain ⟨E, S, Qd, st, h, c⟩ := lift_test h
    exact lift_bin ⟨E, S, Qd, st, h, c⟩⟩
/-- any expression that is True or False, as a test -/
theorem dt_val {e : Expr} {w : WE} (h : DE C B X e w) (he : ∀ whole, isTrue e X.env whole = (do let v ← whole; standAt e.pos; holding [v] (truthy v)) := by intro _; rfl) : DT C B X e (wTest w) :=
  ⟨PTimp (pt_val h.pe he) fun _ _ _ h => lift_test h⟩
/-- a op1 b op2 c -/
def wChain (r r' : R2D) (a b c : WE) : WE := fun E S Q => a E S fun x S1 => b E S1 fun y S2 => r x y S2 fun z S3 => match z with
  | .bl k => if k = true then c E S3 fun w S4 => r' y w S4 Q else Q (.bl false) S3
  | _ => False
theorem lift_chain {r r' : R2D} {σ : L2.St} {H : Hp} {Q : VK} (h : liftE X.K C B (wChain r r' wa wb wc) σ H Q) : tChain (lift2 X.K C r) (lift2 X.K C r') (liftE X.K C B wa) (liftE X.K C B wb) (liftE X.K C B wc) σ H Q := by
  obtain ⟨E, S, Qd, st, h, c⟩ := h
  refine ⟨E, S, _, st, h, fun x S1 v H1 e1 r1 s1 h1 => ⟨E, S1, _, st.ext e1 s1, h1, fun y S2 u H2 e2 r2 s2 h2 => ⟨x, y, S2, _, r1.ext e2, r2, s2, h2, fun z S3 zv H3 e3 r3 s3 h3 => ?_⟩⟩⟩
  cases z <;> first | exact False.elim h3 | skip
  rename_i k
  cases r3
  refine ⟨k, rfl, ?_⟩
  have cc := ((c.mono e1).mono e2).mono e3
  cases k with
  | true =>
    have h3 : wc E S3 fun w S4 => r' y w S4 Qd := h3
    exact ⟨E, S3, _, st.ext ((e1.trans e2).trans e3) s3, h3, fun w S4 wv H4 e4 r4 s4 h4 => ⟨y, w, S4, Qd, (r2.ext e3).ext e4, r4, s4, h4, cc.mono e4⟩⟩
  | false => exact cc.now (.bl false) s3 h3
theorem de_chain {op op' : CmpOp} {r r' : R2D} (ho : OpR X (compareOp op) (lift2 X.K C r)) (ho' : OpR X (compareOp op') (lift2 X.K C r')) (ha : DE C B X a wa) (hb : DE C B X b wb) (hc : DE C B X c wc)
    (hm : lastMarks [op, op'] [b, c] = false := by with_unfolding_all rfl) : DE C B X (.Compare a [op, op'] [b, c] pos) (wChain r r' wa wb wc) :=
  ⟨PEimp (pe_chain ho ho' ha.pe hb.pe hc.pe hm) fun _ _ _ h => lift_chain h⟩
theorem dt_chain {op op' : CmpOp} {r r' : R2D} (ho : OpR X (compareOp op) (lift2 X.K C r)) (ho' : OpR X (compareOp op') (lift2 X.K C r')) (ha : DE C B X a wa) (hb : DE C B X b wb) (hc : DE C B X c wc)
    (hm : lastMarks [op, op'] [b, c] = false := by with_unfolding_all rfl) : DT C B X (.Compare a [op, op'] [b, c] pos) (wTest (wChain r r' wa wb wc)) :=
  ⟨PTimp (pt_chain ho ho' ha.pe hb.pe hc.pe hm) fun σ H Q h => by
    obtain ⟨E, S, Qd, st, h, c⟩ := lift_test h
    exact lift_chain ⟨E, S, Qd, st, h, c⟩⟩
/-! and, or, not; a if t else b -/
def wAnd (t u : WT) : WT := fun E S Q => t E S fun k S1 => if k = true then u E S1 Q else Q false S1
def wOr (t u : WT) : WT := fun E S Q => t E S fun k S1 => if k = true then Q true S1 else u E S1 Q
def wNot (t : WT) : WT := fun E S Q => t E S fun k S1 => Q (!k) S1
variable {ta tb : WT} {rest : List Expr}
theorem dw_and1 (h : DT C B X a ta) : DW C B X (.BoolOp .And [a] pos) ta := ⟨pw_and1 h.pt⟩
theorem dw_or1 (h : DT C B X a ta) : DW C B X (.BoolOp .Or [a] pos) ta := ⟨pw_or1 h.pt⟩
theorem dw_and (h : DT C B X a ta) (g : DW C B X (.BoolOp .And (b :: rest) pos) tb) : DW C B X (.BoolOp .And (a :: b :: rest) pos) (wAnd ta tb) :=
  ⟨PWimp (pw_and h.pt g.pw) fun σ H Q ⟨E, S, Qd, st, h, c⟩ => ⟨E, S, _, st, h, fun k S1 H1 e1 s1 h1 => by
    cases k with
    | true =>
      have h1 : tb E S1 Qd := h1
      exact ⟨E, S1, Qd, st.ext e1 s1, h1, fun b S2 H2 e2 s2 q => c b S2 H2 (e1.trans e2) s2 q⟩
    | false => exact c _ _ _ e1 s1 h1⟩⟩
theorem dw_or (h : DT C B X a ta) (g : DW C B X (.BoolOp .Or (b :: rest) pos) tb) : DW C B X (.BoolOp .Or (a :: b :: rest) pos) (wOr ta tb) :=
  ⟨PWimp (pw_or h.pt g.pw) fun σ H Q ⟨E, S, Qd, st, h, c⟩ => ⟨E, S, _, st, h, fun k S1 H1 e1 s1 h1 => by
    cases k with
    | false =>
      have h1 : tb E S1 Qd := h1
      exact ⟨E, S1, Qd, st.ext e1 s1, h1, fun b S2 H2 e2 s2 q => c b S2 H2 (e1.trans e2) s2 q⟩
    | true => exact c _ _ _ e1 s1 h1⟩⟩
theorem dt_w (h : DW C B X a ta) : DT C B X a ta := ⟨h.pw.pt⟩
theorem dt_not (h : DT C B X a ta) : DT C B X (.UnaryOp .Not a pos) (wNot ta) :=
  ⟨PTimp (pt_not h.pt) fun σ H Q ⟨E, S, Qd, st, h, c⟩ => ⟨E, S, _, st, h, fun k S1 H1 e1 s1 h1 => c _ _ _ e1 s1 h1⟩⟩
/-- as values, of True and False -/
def wAndV (a b : WE) : WE := fun E S Q => a E S fun x S1 => match x with
  | .bl k => if k = true then b E S1 Q else Q (.bl false) S1
  | _ => False
def wOrV (a b : WE) : WE := fun E S Q => a E S fun x S1 => match x with
  | .bl k => if k = true then Q (.bl true) S1 else b E S1 Q
  | _ => False
def wNotV (a : WE) : WE := fun E S Q => a E S fun x S1 => match x with
  | .bl k => Q (.bl (!k)) S1
  | _ => False
theorem de_one {op : BoolOp} (h : DE C B X a wa) : DE C B X (.BoolOp op [a] pos) wa := ⟨pe_one h.pe⟩
theorem de_and (h : DE C B X a wa) (g : DE C B X (.BoolOp .And (b :: rest) pos) wb) : DE C B X (.BoolOp .And (a :: b :: rest) pos) (wAndV wa wb) :=
  ⟨PEimp (pe_and h.pe g.pe) fun σ H Q ⟨E, S, Qd, st, h, c⟩ => ⟨E, S, _, st, h, fun x S1 v H1 e1 r1 s1 h1 => by
    cases x <;> first | exact False.elim h1 | skip
    rename_i k
    cases r1
    refine ⟨k, rfl, ?_⟩
    cases k with
    | true =>
      have h1 : wb E S1 Qd := h1
      exact ⟨E, S1, Qd, st.ext e1 s1, h1, c.mono e1⟩
    | false => exact (c.mono e1).now (.bl false) s1 h1⟩⟩
theorem de_or (h : DE C B X a wa) (g : DE C B X (.BoolOp .Or (b :: rest) pos) wb) : DE C B X (.BoolOp .Or (a :: b :: rest) pos) (wOrV wa wb) :=
  ⟨PEimp (pe_or h.pe g.pe) fun σ H Q ⟨E, S, Qd, st, h, c⟩ => ⟨E, S, _, st, h, fun x S1 v H1 e1 r1 s1 h1 => by
    cases x <;> first | exact False.elim h1 | skip
    rename_i k
    cases r1
    refine ⟨k, rfl, ?_⟩
    cases k with
    | false =>
      have h1 : wb E S1 Qd := h1
      exact ⟨E, S1, Qd, st.ext e1 s1, h1, c.mono e1⟩
    | true => exact (c.mono e1).now (.bl true) s1 h1⟩⟩
theorem de_not (h : DE C B X a wa) : DE C B X (.UnaryOp .Not a pos) (wNotV wa) :=
  ⟨PEimp (pe_not h.pe) fun σ H Q ⟨E, S, Qd, st, h, c⟩ => ⟨E, S, _, st, h, fun x S1 v H1 e1 r1 s1 h1 => by
    cases x <;> first | exact False.elim h1 | skip
    rename_i k
    cases r1
    exact ⟨k, rfl, (c.mono e1).now (.bl (!k)) s1 h1⟩⟩⟩
def wIfE (t : WT) (a b : WE) : WE := fun E S Q => t E S fun k S1 => if k = true then a E S1 Q else b E S1 Q
theorem de_ife {t : Expr} (ht : DT C B X t ta) (h : DE C B X a wa) (g : DE C B X b wb) : DE C B X (.IfExp t a b pos) (wIfE ta wa wb) :=
  ⟨PEimp (pe_ifExp ht.pt h.pe g.pe) fun σ H Q ⟨E, S, Qd, st, h, c⟩ => ⟨E, S, _, st, h, fun k S1 H1 e1 s1 h1 => by
    cases k with
    | true =>
      have h1 : wa E S1 Qd := h1
      exact ⟨E, S1, Qd, st.ext e1 s1, h1, c.mono e1⟩
    | false =>
      have h1 : wb E S1 Qd := h1
      exact ⟨E, S1, Qd, st.ext e1 s1, h1, c.mono e1⟩⟩⟩
/-! arguments, displays -/
def wNil : WA := fun _ S Q => Q [] S
def wCons (a : WE) (r : WA) : WA := fun E S Q => a E S fun x S1 => r E S1 fun xs S2 => Q (x :: xs) S2
theorem da_nil : DA C B X [] wNil := ⟨PAimp pa_nil fun σ H Q ⟨E, S, Qd, st, h, c⟩ => c _ _ _ _ (Ext.refl C H) .nil st.sr h⟩
theorem da_cons {es : List Expr} {w : WA} (h : DE C B X a wa) (g : DA C B X es w) (hs : starEach (a :: es) X.env = (false, eval a X.env) :: starEach es X.env := by rfl) : DA C B X (a :: es) (wCons wa w) :=
  ⟨PAimp (pa_cons h.pe g.pa hs) fun σ H Q ⟨E, S, Qd, st, h, c⟩ => ⟨E, S, _, st, h, fun x S1 v H1 e1 r1 s1 h1 => ⟨E, S1, _, st.ext e1 s1, h1, fun xs S2 vs H2 e2 r2 s2 h2 => c _ _ _ _ (e1.trans e2) (.cons (r1.ext e2) r2) s2 h2⟩⟩⟩
def wTup (w : WA) : WE := fun E S Q => w E S fun xs S1 => xs.length ≤ sizeLine ∧ Q (.tup xs) S1
/-- a list, locked at once -/
def wLst (w : WA) : WE := fun E S Q => w E S fun xs S1 => xs.length ≤ sizeLine ∧ Q (.lst xs) S1
/-- a list that may change -/
def wLstL (w : WA) : WE := fun E S Q => w E S fun xs S1 => xs.length ≤ sizeLine ∧ ∀ p, S1 p = none → Q (.ref p) (S1.put p (.lst xs))
theorem de_tup {es : List Expr} {w : WA} {k : Nat} (h : DA C B X es w) : DE C B X (.Tuple es k pos) (wTup w) :=
  ⟨PEimp (pe_tup h.pa) fun σ H Q ⟨E, S, Qd, st, h, c⟩ => ⟨E, S, _, st, h, fun xs S1 vs H1 e1 r1 s1 h1 => ⟨by rw [← r1.length]; exact h1.1, fun p hp => (c.mono e1).tup hp r1 (by rw [← r1.length]; exact h1.1) s1 h1.2⟩⟩⟩
theorem de_lst {es : List Expr} {w : WA} (h : DA C B X es w) : DE C B X (.List es pos) (wLst w) :=
  ⟨PEimp (PEfz (pe_lst h.pa)) fun σ H Q ⟨E, S, Qd, st, h, c⟩ => ⟨E, S, _, st, h, fun xs S1 vs H1 e1 r1 s1 h1 => ⟨by rw [← r1.length]; exact h1.1, fun p hp => (c.mono e1).newZ hp r1 (by rw [← r1.length]; exact h1.1) s1 h1.2⟩⟩⟩
theorem de_lstL {es : List Expr} {w : WA} (h : DA C B X es w) : DE C B X (.List es pos) (wLstL w) :=
  ⟨PEimp (pe_lst h.pa) fun σ H Q ⟨E, S, Qd, st, h, c⟩ => ⟨E, S, _, st, h, fun xs S1 vs H1 e1 r1 s1 h1 => ⟨by rw [← r1.length]; exact h1.1, fun p hp => (c.mono e1).newL hp r1 (by rw [← r1.length]; exact h1.1) s1 (h1.2 p (s1.none hp))⟩⟩⟩
end
end RL

namespace RL
open PySem PySem.Spec PyProof.Rows L2

/-! ### lists that are read, locked or not -/
section
variable {X : Cx} {pins : List (Addr × Obj)} {σ : L2.St} {H : Hp} {s : Shared} {l : Addr} {xs : List V}
theorem lst_rd (I : Inv X pins σ H s) (h : Rd H l (.lst xs)) : xs.length ≤ sizeLine ∧ ∃ (its : List Value) (n : Nat), Vals xs its ∧ xs.length = its.length ∧ s.heap.get? l = some { cls := .type "list", data := .seq its.toArray n } := by
  obtain ⟨hz, its, n, r, e⟩ := h.ok I.hok
  exact ⟨hz, its, n, r, r.length, e⟩
end
def lsOf : Option DO → Option (List D)
  | some (.lst ds) => some ds
  | none => none
/-- the content of a thing that is a list or a tuple, by the store -/
def seqD (S : Sto) : D → Option (List D)
  | .tup ds => some ds
  | .lst ds => some ds
  | .ref p => lsOf (S p)
  | _ => none
section
variable {K : PySem.W.Frag} {C : Addr} {S : Sto} {H : Hp}
theorem seqD_at {d : D} {ds : List D} {v : V} (sr : SR K C S H) (r : DR K C H d v) (h : seqD S d = some ds) : ∃ a xs, v = .ref a ∧ DRs K C H ds xs ∧ xs.length ≤ sizeLine ∧ ((Rd H a (.lst xs) ∧ (∀ es, d ≠ .tup es)) ∨ (SqT K H a xs ∧ ∃ es, d = .tup es)) := by
  cases r with
  | tup h1 h2 h3 => cases h; exact ⟨_, _, rfl, h2, h3, .inr ⟨h1, _, rfl⟩⟩
  | lst h1 h2 h3 => cases h; exact ⟨_, _, rfl, h2, h3, .inl ⟨.inr ⟨_, h1⟩, fun es z => by cases z⟩⟩
  | ref a =>
    have h : lsOf (S a) = some ds := h
    cases e : S a with
    | none => rw [e] at h; cases h
    | some o =>
      cases o with
      | lst es =>
        rw [e] at h
        cases h
        obtain ⟨xs, h1, h2, h3⟩ := sr.ob a _ e
        exact ⟨_, _, rfl, h2, h3, .inl ⟨.inl h1, fun es z => by cases z⟩⟩
  | _ => cases h
end

/-! ### arithmetic -/
/-- list + list, of any two lists -/
def rCatR : R2 := fun x y H Q => ∃ l b xs zs, x = .ref l ∧ y = .ref b ∧ Rd H l (.lst xs) ∧ Rd H b (.lst zs) ∧ xs.length + zs.length ≤ sizeLine ∧ ∀ p, H p = none → Q (.ref p) (upd H p (.lst (xs ++ zs)))
theorem op_catR {X : Cx} : OpR X (binaryOp .Add) rCatR := by
  rintro pins s σ H _ _ v u Q I rx ry ⟨l, b, xs, zs, rfl, rfl, hl, hb, hz, q⟩
  cases rx
  cases ry
  obtain ⟨-, is1, n1, v1, e1, g1⟩ := lst_rd I hl
  obtain ⟨-, is2, n2, v2, e2, g2⟩ := lst_rd I hb
  have z1 : is1.toArray.size + is2.toArray.size ≤ sizeLine := by
    simp only [List.size_toArray]
    omega
  refine PySem.P.add_list g1 g2 ?_ z1
  rw [show is1.toArray ++ is2.toArray = (is1 ++ is2).toArray by simp]
  refine ⟨.ref _, _, Inv.lnew (t' := s.toks) I (v1.append v2) ?_, rfl, q _ I.fresh⟩
  rw [List.length_append]
  exact hz
def dAdd : R2D := fun x y S Q => match x, y with
  | .int i, .int j => Q (.int (i + j)) S
  | .str i, .str j => i.length + j.length ≤ sizeLine ∧ Q (.str (i ++ j)) S
  | .tup xs, .tup ys => xs.length + ys.length ≤ sizeLine ∧ Q (.tup (xs ++ ys)) S
  | .lst xs, .lst ys => xs.length + ys.length ≤ sizeLine ∧ Q (.lst (xs ++ ys)) S
  | _, _ => False
theorem OpRfz {X : Cx} {f : Value → Value → Sem Value} {r : R2} (p : OpR X f r) : OpR X f (fun x y H Q => r x y H (fzK Q)) := fun pins s σ H x y v u Q I a b q => thn (p pins s σ H x y v u _ I a b q) fun _ _ => ep_fz
section
variable {C : Addr} {X : Cx}
theorem od_add : OpR X (binaryOp .Add) (lift2 X.K C dAdd) := by
  rintro pins s σ H x y v u Q I rx ry ⟨dx, dy, S, Qd, r1, r2, sr, h, c⟩
  cases dx <;> cases dy <;> first | exact False.elim h | skip
  · cases r1; cases r2
    exact op_add pins s σ H _ _ v u Q I rx ry ⟨_, _, rfl, rfl, c.now (.int _) sr h⟩
  · cases r1; cases r2
    exact op_add_str pins s σ H _ _ v u Q I rx ry ⟨_, _, rfl, rfl, h.1, c.now (.str _) sr h.2⟩
  · cases r1 with
    | tup a1 b1 z1 =>
      cases r2 with
      | tup a2 b2 z2 =>
        refine op_catA pins s σ H _ _ v u Q I rx ry ⟨_, _, _, _, rfl, rfl, a1, a2, by rw [← b1.length, ← b2.length]; exact h.1, fun e => ?_, fun _ e => ?_, fun _ _ p hp => c.tup hp (b1.app b2) (by rw [List.length_append, ← b1.length, ← b2.length]; exact h.1) sr h.2⟩
        · subst e
          cases b1
          exact c.now (.tup a2 b2 z2) sr h.2
        · subst e
          cases b2
          exact c.now (.tup a1 (by rw [List.append_nil]; exact b1) z1) sr h.2
  · cases r1 with
    | lst a1 b1 z1 =>
      cases r2 with
      | lst a2 b2 z2 =>
        exact OpRfz op_catR pins s σ H _ _ v u Q I rx ry ⟨_, _, _, _, rfl, rfl, .inr ⟨_, a1⟩, .inr ⟨_, a2⟩, by rw [← b1.length, ← b2.length]; exact h.1, fun p hp => c.newZ hp (b1.app b2) (by rw [List.length_append, ← b1.length, ← b2.length]; exact h.1) sr h.2⟩
/-- on two ints -/
def dII (P : Int → Int → Prop) (g : Int → Int → D) : R2D := fun x y S Q => match x, y with
  | .int i, .int j => P i j ∧ Q (g i j) S
  | _, _ => False
def dII0 (g : Int → Int → D) : R2D := fun x y S Q => match x, y with
  | .int i, .int j => Q (g i j) S
  | _, _ => False
theorem od_ii {f : Value → Value → Sem Value} {P : Int → Int → Prop} {g : Int → Int → Int} (o : OpR X f (rI P fun i j => .int (g i j))) : OpR X f (lift2 X.K C (dII P fun i j => .int (g i j))) := by
  rintro pins s σ H x y v u Q I rx ry ⟨dx, dy, S, Qd, r1, r2, sr, h, c⟩
  cases dx <;> cases dy <;> first | exact False.elim h | skip
  cases r1; cases r2
  exact o pins s σ H _ _ v u Q I rx ry ⟨_, _, rfl, rfl, h.1, c.now (.int _) sr h.2⟩
theorem od_ii0 {f : Value → Value → Sem Value} {g : Int → Int → Int} (o : OpR X f (rI0 fun i j => .int (g i j))) : OpR X f (lift2 X.K C (dII0 fun i j => .int (g i j))) := by
  rintro pins s σ H x y v u Q I rx ry ⟨dx, dy, S, Qd, r1, r2, sr, h, c⟩
  cases dx <;> cases dy <;> first | exact False.elim h | skip
  cases r1; cases r2
  exact o pins s σ H _ _ v u Q I rx ry ⟨_, _, rfl, rfl, c.now (.int _) sr h⟩
theorem od_ib0 {f : Value → Value → Sem Value} {g : Int → Int → Bool} (o : OpR X f (rI0 fun i j => .bl (g i j))) : OpR X f (lift2 X.K C (dII0 fun i j => .bl (g i j))) := by
  rintro pins s σ H x y v u Q I rx ry ⟨dx, dy, S, Qd, r1, r2, sr, h, c⟩
  cases dx <;> cases dy <;> first | exact False.elim h | skip
  cases r1; cases r2
  exact o pins s σ H _ _ v u Q I rx ry ⟨_, _, rfl, rfl, c.now (.bl _) sr h⟩
def dSub : R2D := dII0 fun i j => .int (i - j)
def dFdiv : R2D := dII CDivW fun i j => .int (i / j)
def dMod : R2D := dII (fun _ j => 0 < j) fun i j => .int (i % j)
def dPow : R2D := dII CPow fun i j => .int (i ^ j.toNat)
theorem od_sub : OpR X (binaryOp .Sub) (lift2 X.K C dSub) := od_ii0 op_sub
theorem od_fdiv : OpR X (binaryOp .FloorDiv) (lift2 X.K C dFdiv) := od_ii op_fdivW
theorem od_mod : OpR X (binaryOp .Mod) (lift2 X.K C dMod) := od_ii op_mod
theorem od_pow : OpR X (binaryOp .Pow) (lift2 X.K C dPow) := od_ii op_pow
def dLt : R2D := dII0 fun i j => .bl (decide (i < j))
def dLe : R2D := dII0 fun i j => .bl (decide (i ≤ j))
def dGt : R2D := dII0 fun i j => .bl (decide (j < i))
def dGe : R2D := dII0 fun i j => .bl (decide (j ≤ i))
theorem od_lt : OpR X (compareOp .Lt) (lift2 X.K C dLt) := od_ib0 op_lt
theorem od_le : OpR X (compareOp .LtE) (lift2 X.K C dLe) := od_ib0 op_le
theorem od_gt : OpR X (compareOp .Gt) (lift2 X.K C dGt) := od_ib0 op_gt
theorem od_ge : OpR X (compareOp .GtE) (lift2 X.K C dGe) := od_ib0 op_ge
def dNeg : D → Sto → KD → Prop := fun x S Q => match x with
  | .int i => Q (.int (-i)) S
  | _ => False
theorem ud_neg : UnR X (unaryOp .USub) (lift1 X.K C dNeg) := by
  rintro pins s σ H x v Q I rx ⟨dx, S, Qd, r1, sr, h, c⟩
  cases dx <;> first | exact False.elim h | skip
  cases r1
  exact un_neg pins s σ H _ v Q I rx ⟨_, rfl, c.now (.int _) sr h⟩
end

/-! ### a tuple, a list, times an int -/
theorem tup_mul1 (l : Addr) (items : Array Value) (n : Nat) (dd : Option Addr) (sl : Array (Option Value)) (u : Tok) :
    Meets (Builtin.«tuple.__mul__» ⟨[.ref l, .int 1 u], []⟩) (fun _ R s => s.heap.get? l = some { cls := .type "tuple", dict := dd, data := .seq items n, slots := sl } ∧ R (.ok (.ret (.ref l))) s) := .of_wp fun prog w A R s h => by
    rcases s with ⟨hp, gs, dr, tk, os⟩
    rcases h with ⟨hl, hR⟩
    have f1 := AutoSeq1.idx_int
    wp_walk using wpAny_loadPart' hl
    have c1 : (items.isEmpty || (1 : Int) == 1) = true := by simp
    repeat (first
      | (refine wpAny_ite_true (decide_eq_true c1) ?_; wp_walk using wpAny_loadPart' hl)
      | (refine wpAny_ite_true c1 ?_; wp_walk using wpAny_loadPart' hl))
    exact ⟨_, rfl, hR⟩
theorem rep_arr (its : List Value) (m : Nat) : (List.replicate m its.toArray).foldl (fun x1 x2 => x1 ++ x2) #[] = (List.replicate m its).flatten.toArray := size_rep its m
def rRep1 (K : PySem.W.Frag) : R2 := fun x y H Q => ∃ l xs, x = .ref l ∧ y = .int 1 ∧ SqT K H l xs ∧ Q (.ref l) H
theorem op_rep1 {X : Cx} : OpR X (binaryOp .Mult) (rRep1 X.K) := by
  rintro pins s σ H _ _ v u Q I rx ry ⟨l, xs, rfl, rfl, hT, q⟩
  cases rx
  obtain ⟨t, rfl⟩ := ry
  obtain ⟨its, r, ⟨⟨cls, dd, data, sl⟩, ho, hc, n, hd⟩, hs⟩ := I.tuple hT
  simp only at hc hd
  subst hc hd
  have k1 := tup_mul1 l its.toArray n dd sl t
  have k2 := int_rmul_tuple 1 t l its.toArray n dd sl
  have a1 : wpAny (model X.prog X.w) X.A (call (.builtin "tuple.__mul__") [.ref l, .int 1 t]) (EP X pins σ Q) X.xe s := by
    refine call_meets F.slot_tuple_mul ⟨_, ho, rfl⟩ F.entry_tuple_mul (F.args_tuple_mul_2 _ _) k1 ⟨ho, ?_⟩
    exact ⟨.ref l, H, I, rfl, q⟩
  have a2 : wpAny (model X.prog X.w) X.A (call (.builtin "int.__rmul__") [.int 1 t, .ref l]) (fun v s' => v = .notImplemented ∧ s'.TypeIs (.ref l) "tuple" ∧ wpAny (model X.prog X.w) X.A (call (.builtin "tuple.__mul__") [.ref l, .int 1 t]) (EP X pins σ Q) X.xe s') X.xe s := by
    refine call_meets F.slot_int_rmul (typeIs_int s 1 t) F.entry_int_rmul (F.args_int_rmul_2 _ _) k2 ⟨ho, ?_⟩
    exact ⟨rfl, ⟨_, ho, rfl⟩, a1⟩
  exact wpAny_binaryOp_repeat_ref (T := "tuple") (U := "int") (by decide) ⟨_, ho, rfl⟩ (fun s' => typeIs_int s' 1 t) noFill_tuple_mul F.fills_int_mul F.slot_int_rmul repeat_tuple F.slot_int_index.lookup a2
/-- list * int, of any list -/
def rRepR : R2 := fun x y H Q => ∃ l k xs, x = .ref l ∧ y = .int k ∧ Rd H l (.lst xs) ∧ (-(2 ^ 63) ≤ k ∧ k < 2 ^ 63) ∧ xs.length * k.toNat ≤ sizeLine ∧ ∀ p, H p = none → Q (.ref p) (upd H p (.lst (List.replicate k.toNat xs).flatten))
theorem op_repR {X : Cx} : OpR X (binaryOp .Mult) rRepR := by
  rintro pins s σ H _ _ v u Q I rx ry ⟨l, k, xs, rfl, rfl, hl, ⟨k1, k2⟩, hz, q⟩
  cases rx
  obtain ⟨t, rfl⟩ := ry
  obtain ⟨-, its, n, r, e0, g⟩ := lst_rd I hl
  have m1 : its.toArray.size * k.toNat ≤ sizeLine := by
    rw [List.size_toArray, ← e0]
    exact hz
  have m2 : ¬ its.toArray.size * k.toNat > (2 ^ 63 - 1) / 8 := fun z => absurd (Nat.lt_of_lt_of_le z m1) (by decide)
  have m3 : ¬ (!Builtin.List.listFitsIndex k) = true := by simp [fitsIndex_both k1 k2]
  have m4 : ¬ Builtin.List.listTooLong (its.toArray.size * k.toNat) = true := by
    rw [notLongL m1]
    decide
  have m5 : List.foldl (fun x1 x2 => x1 ++ x2) #[] (List.replicate (if its.toArray.isEmpty = true then 0 else k.toNat) its.toArray) = (List.replicate k.toNat its).flatten.toArray := by
    by_cases hn : its = []
    · subst hn
      simp
    · have : its.toArray.isEmpty = false := by cases its with | nil => exact absurd rfl hn | cons _ _ => rfl
      rw [this]
      exact rep_arr its k.toNat
  have d1 := AutoListH.list___mul___list_int_3 l its.toArray n k t m3 m2 m4
  have d2 := int___rmul___int_list k t l its.toArray n
  have a1 : wpAny (model X.prog X.w) X.A (call (.builtin "list.__mul__") [.ref l, .int k t]) (EP X pins σ Q) X.xe s := by
    refine call_meets F.slot_list_mul ⟨_, g, rfl⟩ F.entry_list_mul (F.args_list_mul_2 _ _) d1 ⟨g, ?_⟩
    rw [m5]
    refine ⟨.ref _, _, Inv.lnew (t' := s.toks) I (r.rep k.toNat) ?_, rfl, q _ I.fresh⟩
    rw [PyProof.Rows.lm_len_rep_flat, Nat.mul_comm]
    exact hz
  have a2 : wpAny (model X.prog X.w) X.A (call (.builtin "int.__rmul__") [.int k t, .ref l]) (fun v s' => v = .notImplemented ∧ s'.TypeIs (.ref l) "list" ∧ wpAny (model X.prog X.w) X.A (call (.builtin "list.__mul__") [.ref l, .int k t]) (EP X pins σ Q) X.xe s') X.xe s := by
    refine call_meets F.slot_int_rmul (typeIs_int s k t) F.entry_int_rmul (F.args_int_rmul_2 _ _) d2 ⟨g, ?_⟩
    exact ⟨rfl, ⟨_, g, rfl⟩, a1⟩
  exact wpAny_binaryOp_repeat_ref (T := "list") (U := "int") (by decide) ⟨_, g, rfl⟩ (fun s' => typeIs_int s' k t) noFill_list_mul F.fills_int_mul F.slot_int_rmul repeat_list F.slot_int_index.lookup a2
def dMul : R2D := fun x y S Q => match x, y with
  | .int i, .int j => CMulW i j ∧ Q (.int (i * j)) S
  | .tup xs, .int k => (1 ≤ k ∧ k ≤ 1000 ∧ xs.length ≤ 1000 ∧ xs ≠ []) ∧ Q (.tup (List.replicate k.toNat xs).flatten) S
  | .lst xs, .int k => (-(2 ^ 63) ≤ k ∧ k < 2 ^ 63 ∧ xs.length * k.toNat ≤ sizeLine) ∧ Q (.lst (List.replicate k.toNat xs).flatten) S
  | _, _ => False
theorem od_mul {C : Addr} {X : Cx} : OpR X (binaryOp .Mult) (lift2 X.K C dMul) := by
  rintro pins s σ H x y v u Q I rx ry ⟨dx, dy, S, Qd, r1, r2, sr, h, c⟩
  cases dx <;> cases dy <;> first | exact False.elim h | skip
  · cases r1; cases r2
    exact op_mulW pins s σ H _ _ v u Q I rx ry ⟨_, _, rfl, rfl, h.1, c.now (.int _) sr h.2⟩
  · cases r1 with
    | tup a1 b1 z1 =>
      rename_i xs k a vs
      cases r2
      obtain ⟨⟨k1, k2, k3, k4⟩, h⟩ := h
      by_cases e : k = 1
      · subst e
        refine op_rep1 pins s σ H _ _ v u Q I rx ry ⟨_, _, rfl, rfl, a1, c.now (.tup a1 ?_ z1) sr h⟩
        show DRs X.K C H (List.replicate 1 xs).flatten vs
        simpa using b1
      · refine op_repT pins s σ H _ _ v u Q I rx ry ⟨_, _, vs, rfl, rfl, a1, fun z => ?_, by omega, k2, by rw [← b1.length]; exact k3, fun p hp => c.tup hp (b1.rep _) ?_ sr h⟩
        · subst z
          cases b1
          exact k4 rfl
        · rw [PyProof.Rows.lm_len_rep_flat, ← b1.length, sizeLine_eq]
          have a1 : k.toNat * xs.length ≤ 1000 * 1000 := Nat.mul_le_mul (by omega) k3
          omega
  · cases r1 with
    | lst a1 b1 z1 =>
      cases r2
      exact OpRfz op_repR pins s σ H _ _ v u Q I rx ry ⟨_, _, _, rfl, rfl, .inr ⟨_, a1⟩, ⟨h.1.1, h.1.2.1⟩, by rw [← b1.length]; exact h.1.2.2, fun p hp => c.newZ hp (b1.rep _) (by rw [PyProof.Rows.lm_len_rep_flat, Nat.mul_comm, ← b1.length]; exact h.1.2.2) sr h.2⟩

/-! ### == and != of contents -/
mutual
def toPy : D → PyData
  | .bl b => .bool b
  | .int i => .int i
  | .str x => .str x
  | .tup ds => .tuple (toPys ds)
  | .lst ds => .list (toPys ds)
  | _ => .none
def toPys : List D → List PyData
  | [] => []
  | d :: ds => toPy d :: toPys ds
end
mutual
/-- nothing but data: None, bools, ints, texts, tuples and lists of such -/
def pur : D → Bool
  | .non => true
  | .bl _ => true
  | .int _ => true
  | .str _ => true
  | .tup ds => purs ds
  | .lst ds => purs ds
  | _ => false
def purs : List D → Bool
  | [] => true
  | d :: ds => pur d && purs ds
end
section
variable {K : PySem.W.Frag} {C : Addr} {H : Hp}
mutual
theorem DR.dp : ∀ {d : D} {v : V}, pur d = true → DR K C H d v → Dp K H v (toPy d)
  | .non, _, _, r => by cases r; exact .non
  | .bl _, _, _, r => by cases r; exact .bl _
  | .int _, _, _, r => by cases r; exact .int _
  | .str _, _, _, r => by cases r; exact .str _
  | .tup ds, _, p, r => by
    cases r with
    | tup a b _ => exact .tup a (DRs.dp (by simpa [pur] using p) b)
  | .lst ds, _, p, r => by
    cases r with
    | lst a b _ => exact .lst (.inl (.inr ⟨_, a⟩)) (DRs.dp (by simpa [pur] using p) b)
  | .ty _, _, p, _ => by simp [pur] at p
  | .ref _, _, p, _ => by simp [pur] at p
  | .clk _ _, _, p, _ => by simp [pur] at p
  | .scr _, _, p, _ => by simp [pur] at p
theorem DRs.dp : ∀ {ds : List D} {vs : List V}, purs ds = true → DRs K C H ds vs → DpAll K H vs (toPys ds)
  | [], _, _, r => by cases r; exact .nil
  | d :: ds, _, p, r => by
    cases r with
    | cons a b =>
      rw [purs, Bool.and_eq_true] at p
      exact .cons (DR.dp p.1 a) (DRs.dp p.2 b)
end
end
/-- a live list by its content -/
def see (S : Sto) : D → D
  | .ref p => match lsOf (S p) with
    | some ds => .lst ds
    | none => .ref p
  | d => d
def okEq (d : D) : Bool := pur d && SeqAt.shaped (toPy d)
def eqD (x y : D) : Bool := PyData.eqv (toPy x) (toPy y)
def dEq : R2D := fun x y S Q => (okEq (see S x) = true ∧ okEq (see S y) = true) ∧ Q (.bl (eqD (see S x) (see S y))) S
def dNe : R2D := fun x y S Q => (okEq (see S x) = true ∧ okEq (see S y) = true) ∧ Q (.bl (!eqD (see S x) (see S y))) S
theorem see_dp {K : PySem.W.Frag} {C : Addr} {S : Sto} {H : Hp} {d : D} {v : V} (sr : SR K C S H) (r : DR K C H d v) (h : okEq (see S d) = true) : Dp K H v (toPy (see S d)) ∧ SeqAt.shaped (toPy (see S d)) = true := by
  have h2 : pur (see S d) = true ∧ SeqAt.shaped (toPy (see S d)) = true := by simpa [okEq] using h
  refine ⟨?_, h2.2⟩
  cases d with
  | ref p =>
    cases r
    cases e : S p with
    | none =>
      have : see S (.ref p) = .ref p := by simp [see, e, lsOf]
      rw [this] at h2
      simp [pur] at h2
    | some o =>
      cases o with
      | lst ds =>
        have z : see S (.ref p) = .lst ds := by simp [see, e, lsOf]
        rw [z] at h2 ⊢
        obtain ⟨xs, q1, q2, _⟩ := sr.ob p ds e
        exact .lst (.inl (.inl q1)) (q2.dp (by simpa [pur] using h2.1))
  | _ => exact r.dp h2.1
section
variable {C : Addr} {X : Cx}
theorem od_eq (hu : X.A.units + 64 < cLine) : OpR X (compareOp .Eq) (lift2 X.K C dEq) := by
  rintro pins s σ H x y v u Q I rx ry ⟨dx, dy, S, Qd, r1, r2, sr, ⟨⟨o1, o2⟩, h⟩, c⟩
  obtain ⟨p1, q1⟩ := see_dp sr r1 o1
  obtain ⟨p2, q2⟩ := see_dp sr r2 o2
  exact op_eqD hu pins s σ H x y v u Q I rx ry ⟨_, _, p1, p2, q1, q2, c.now (.bl _) sr h⟩
theorem od_ne (hu : X.A.units + 64 < cLine) : OpR X (compareOp .NotEq) (lift2 X.K C dNe) := by
  rintro pins s σ H x y v u Q I rx ry ⟨dx, dy, S, Qd, r1, r2, sr, ⟨⟨o1, o2⟩, h⟩, c⟩
  obtain ⟨p1, q1⟩ := see_dp sr r1 o1
  obtain ⟨p2, q2⟩ := see_dp sr r2 o2
  exact op_neD hu pins s σ H x y v u Q I rx ry ⟨_, _, p1, p2, q1, q2, c.now (.bl _) sr h⟩
def isNon : D → Bool
  | .non => true
  | _ => false
theorem isNon_of {K : PySem.W.Frag} {H : Hp} {d : D} {v : V} (r : DR K C H d v) : decide (v = .non) = isNon d := by cases r <;> rfl
def dIs : R2D := fun x y S Q => match y with
  | .non => Q (.bl (isNon x)) S
  | _ => False
def dIsNot : R2D := fun x y S Q => match y with
  | .non => Q (.bl (!isNon x)) S
  | _ => False
theorem od_is : OpR X (compareOp .Is) (lift2 X.K C dIs) := by
  rintro pins s σ H x y v u Q I rx ry ⟨dx, dy, S, Qd, r1, r2, sr, h, c⟩
  cases dy <;> first | exact False.elim h | skip
  cases r2
  exact op_isN pins s σ H _ _ v u Q I rx ry ⟨rfl, by rw [isNon_of r1]; exact c.now (.bl _) sr h⟩
theorem od_isNot : OpR X (compareOp .IsNot) (lift2 X.K C dIsNot) := by
  rintro pins s σ H x y v u Q I rx ry ⟨dx, dy, S, Qd, r1, r2, sr, h, c⟩
  cases dy <;> first | exact False.elim h | skip
  cases r2
  exact op_notN pins s σ H _ _ v u Q I rx ry ⟨rfl, by rw [isNon_of r1]; exact c.now (.bl _) sr h⟩
end
end RL

namespace RL
open PySem PySem.Spec PyProof.Rows L2

/-! ### statements by content -/
structure WEnds where
  nx : EV → Sto → Prop
  rt : KD
  bk : EV → Sto → Prop := fun _ _ => False
  ct : EV → Sto → Prop := fun _ _ => False
abbrev WS := WEnds → EV → Sto → Prop
abbrev WG := D → EV → Sto → (EV → Sto → Prop) → Prop
abbrev WI := EV → Sto → (List D → Option Addr → Sto → Prop) → Prop
/-- a wish behind a statement that starts at H -/
def ClS (K : PySem.W.Frag) (C : Addr) (H0 H : Hp) (Qd : EV → Sto → Prop) (Q : L2.St → Hp → Prop) : Prop := ∀ E S σ H', Ext C H H' → Stt K C H0 E S σ H' → Qd E S → Q σ H'
structure ClD (K : PySem.W.Frag) (C : Addr) (H0 H : Hp) (Dd : WEnds) (D : Ends) : Prop where
  nx : ClS K C H0 H Dd.nx D.nx
  rt : Cl K C H Dd.rt D.rt
  bk : ClS K C H0 H Dd.bk D.bk
  ct : ClS K C H0 H Dd.ct D.ct
theorem ClS.mono {K : PySem.W.Frag} {C : Addr} {H0 H H1 : Hp} {Qd : EV → Sto → Prop} {Q : L2.St → Hp → Prop} (c : ClS K C H0 H Qd Q) (e : Ext C H H1) : ClS K C H0 H1 Qd Q := fun E S σ H' e' st q => c E S σ H' (e.trans e') st q
theorem ClD.mono {K : PySem.W.Frag} {C : Addr} {H0 H H1 : Hp} {Dd : WEnds} {D : Ends} (c : ClD K C H0 H Dd D) (e : Ext C H H1) : ClD K C H0 H1 Dd D := ⟨c.nx.mono e, c.rt.mono e, c.bk.mono e, c.ct.mono e⟩
def liftS (K : PySem.W.Frag) (C : Addr) (H0 : Hp) (w : WS) : TS := fun D σ H => ∃ E S Dd, Stt K C H0 E S σ H ∧ w Dd E S ∧ ClD K C H0 H Dd D
structure DS (C : Addr) (B : Hp) (X : Cx) (st : Stmt) (w : WS) : Prop where
  ps : PS X st (liftS X.K C B w)
structure DSs (C : Addr) (B : Hp) (X : Cx) (sts : List Stmt) (w : WS) : Prop where
  pss : PSs X sts (liftS X.K C B w)
theorem PSimp {X : Cx} {st : Stmt} {t t' : TS} (p : PS X st t) (h : ∀ D σ H, t' D σ H → t D σ H) : PS X st t' := ⟨fun pins s σ H D I q => p.run pins s σ H D I (h D σ H q)⟩
theorem PSsimp {X : Cx} {st : List Stmt} {t t' : TS} (p : PSs X st t) (h : ∀ D σ H, t' D σ H → t D σ H) : PSs X st t' := ⟨fun pins s σ H D I q => p.run pins s σ H D I (h D σ H q)⟩
/-- a target; is: the slots that it may store to -/
def liftG (K : PySem.W.Frag) (C : Addr) (H0 : Hp) (is : List Nat) (w : WG) : TG := fun v σ H Q => ∃ d E S Qd, Stt K C H0 E S σ H ∧ DR K C H d v ∧ w d E S Qd ∧
  ∀ E' S' σ' H', Ext C H H' → Stt K C H0 E' S' σ' H' → (∀ vs : List Nat, (∀ i ∈ is, i ∈ vs) → wipe σ' vs = wipe σ vs) → Qd E' S' → Q σ' H'
structure DG (C : Addr) (B : Hp) (X : Cx) (tg : Expr) (is : List Nat) (w : WG) : Prop where
  pg : PG X tg (liftG X.K C B is w)
theorem PGimp {X : Cx} {e : Expr} {t t' : TG} (p : PG X e t) (h : ∀ v σ H Q, t' v σ H Q → t v σ H Q) : PG X e t' := ⟨fun pins s σ H v u Q I r q => p.run pins s σ H v u Q I r (h v σ H Q q)⟩
section
variable {C : Addr} {B : Hp} {X : Cx} {pos : Pos} {st : Stmt} {rest : List Stmt} {w u : WS} {e : Expr} {we : WE}
def wNext : WS := fun D E S => D.nx E S
def wSeq (t u : WS) : WS := fun D E S => t { D with nx := u D } E S
theorem dss_nil : DSs C B X [] wNext := ⟨PSsimp pss_nil fun D σ H ⟨E, S, Dd, st, h, c⟩ => c.nx _ _ _ _ (Ext.refl C H) st h⟩
theorem dss_cons (h1 : DS C B X st w) (h2 : DSs C B X rest u) : DSs C B X (st :: rest) (wSeq w u) :=
  ⟨PSsimp (pss_cons h1.ps h2.pss) fun D σ H ⟨E, S, Dd, st, h, c⟩ => ⟨E, S, _, st, h, ⟨fun E' S' σ' H' e' st' q => ⟨E', S', Dd, st', q, c.mono e'⟩, c.rt, c.bk, c.ct⟩⟩⟩
theorem dss_one (h1 : DS C B X st w) : DSs C B X [st] w := ⟨pss_one h1.ps⟩
def wBreak : WS := fun D E S => D.bk E S
def wCont : WS := fun D E S => D.ct E S
theorem ds_pass : DS C B X (.Pass pos) wNext := ⟨PSimp ps_pass fun D σ H ⟨E, S, Dd, st, h, c⟩ => c.nx _ _ _ _ (Ext.refl C H) st h⟩
theorem ds_break : DS C B X (.Break pos) wBreak := ⟨PSimp ps_break fun D σ H ⟨E, S, Dd, st, h, c⟩ => c.bk _ _ _ _ (Ext.refl C H) st h⟩
theorem ds_continue : DS C B X (.Continue pos) wCont := ⟨PSimp ps_continue fun D σ H ⟨E, S, Dd, st, h, c⟩ => c.ct _ _ _ _ (Ext.refl C H) st h⟩
def wDrop (w : WE) : WS := fun D E S => w E S fun _ S1 => D.nx E S1
theorem ds_expr (he : DE C B X e we) (hs : swapsWith e none pos.line X.env = pure false := by rfl) : DS C B X (.Expr e pos) (wDrop we) :=
  ⟨PSimp (ps_expr he.pe hs) fun D σ H ⟨E, S, Dd, st, h, c⟩ => ⟨E, S, _, st, h, fun d S1 v H1 e1 r1 s1 h1 => c.nx _ _ _ _ e1 (st.ext e1 s1) h1⟩⟩
def wRet (w : WE) : WS := fun D E S => w E S D.rt
theorem ds_ret (he : DE C B X e we) : DS C B X (.Return (some e) pos) (wRet we) :=
  ⟨PSimp (ps_ret he.pe) fun D σ H ⟨E, S, Dd, st, h, c⟩ => ⟨E, S, _, st, h, fun d S1 v H1 e1 r1 s1 h1 => c.rt _ _ _ _ e1 r1 s1 h1⟩⟩
def wRetN : WS := fun D _ S => D.rt .non S
theorem ds_retN : DS C B X (.Return none pos) wRetN := ⟨PSimp ps_retN fun D σ H ⟨E, S, Dd, st, h, c⟩ => c.rt _ _ _ _ (Ext.refl C H) .non st.sr h⟩
def wIfS (t : WT) (a b : WS) : WS := fun D E S => t E S fun k S1 => if k = true then a D E S1 else b D E S1
theorem ds_if {c : Expr} {a b : List Stmt} {wc : WT} {wa wb : WS} (hc : DT C B X c wc) (ha : DSs C B X a wa) (hb : DSs C B X b wb) : DS C B X (.If c a b pos) (wIfS wc wa wb) :=
  ⟨PSimp (ps_if hc.pt ha.pss hb.pss) fun D σ H ⟨E, S, Dd, st, h, cl⟩ => ⟨E, S, _, st, h, fun k S1 H1 e1 s1 h1 => by
    cases k with
    | true =>
      have h1 : wa Dd E S1 := h1
      exact ⟨E, S1, Dd, st.ext e1 s1, h1, cl.mono e1⟩
    | false =>
      have h1 : wb Dd E S1 := h1
      exact ⟨E, S1, Dd, st.ext e1 s1, h1, cl.mono e1⟩⟩⟩
/-! targets -/
def gSet (i : Nat) : WG := fun d E S Q => Q (E.set i (some d)) S
theorem wipe_set {σ : L2.St} {i : Nat} {x : Option V} : ∀ {vs : List Nat}, i ∈ vs → wipe (σ.set i x) vs = wipe σ vs
  | [], h => by cases h
  | v :: vs, h => by
    by_cases hv : i ∈ vs
    · show (wipe (σ.set i x) vs).set v none = (wipe σ vs).set v none
      rw [wipe_set hv]
    · have e : i = v := by
        rcases List.mem_cons.mp h with e | h
        · exact e
        · exact absurd h hv
      subst e
      show (wipe (σ.set i x) vs).set i none = (wipe σ vs).set i none
      have out : ∀ {us : List Nat}, i ∉ us → wipe (σ.set i x) us = (wipe σ us).set i x := fun {us} => by
        induction us with
        | nil => intro _; rfl
        | cons u us ih =>
          intro hu
          have h1 : u ≠ i := fun z => hu (by rw [z]; exact List.mem_cons_self)
          show (wipe (σ.set i x) us).set u none = ((wipe σ us).set u none).set i x
          rw [ih fun z => hu (List.mem_cons_of_mem _ z), List.set_comm _ _ h1.symm]
      rw [out hv, List.set_set]
theorem dg_name (i : Nat) {x : Str} (hN : X.N.Nodup) (hi : X.N[i]? = some x := by rfl) (hx : Loc X.env.scope x := by first | exact Or.inl rfl | exact Or.inr rfl) (hf : X.fn x = true ∨ X.env.scope.names.lookup x = some .local := by first | exact .inl rfl | exact .inr rfl | assumption) : DG C B X (.Name x pos) [i] (gSet i) :=
  ⟨PGimp (pg_name hN hi hx hf) fun v σ H Q ⟨d, E, S, Qd, st, r, h, c⟩ => c _ _ _ _ (Ext.refl C H) (st.set r i) (fun vs hv => wipe_set (hv i List.mem_cons_self)) h⟩
abbrev WGs := List D → EV → Sto → (EV → Sto → Prop) → Prop
def gsNil : WGs := fun ds E S Q => match ds with
  | [] => Q E S
  | _ => False
def gsCons (t : WG) (u : WGs) : WGs := fun ds E S Q => match ds with
  | d :: ds => t d E S fun E1 S1 => u ds E1 S1 Q
  | [] => False
def liftGs (K : PySem.W.Frag) (C : Addr) (H0 : Hp) (is : List Nat) (w : WGs) : TGs := fun vs σ H Q => ∃ ds E S Qd, Stt K C H0 E S σ H ∧ DRs K C H ds vs ∧ w ds E S Qd ∧
  ∀ E' S' σ' H', Stt K C H0 E' S' σ' H' → Ext C H H' → (∀ vs : List Nat, (∀ i ∈ is, i ∈ vs) → wipe σ' vs = wipe σ vs) → Qd E' S' → Q σ' H'
structure DGs (C : Addr) (B : Hp) (X : Cx) (ts : List Expr) (is : List Nat) (w : WGs) : Prop where
  pgs : PGs X ts (liftGs X.K C B is w)
/-- a target that leaves the heap as it is: a name -/
structure DGn (C : Addr) (X : Cx) (tg : Expr) (i : Nat) : Prop where
  pg : PG X tg (gName i)
theorem dgn (i : Nat) {x : Str} (hN : X.N.Nodup) (hi : X.N[i]? = some x := by rfl) (hx : Loc X.env.scope x := by first | exact Or.inl rfl | exact Or.inr rfl) (hf : X.fn x = true ∨ X.env.scope.names.lookup x = some .local := by first | exact .inl rfl | exact .inr rfl | assumption) : DGn C X (.Name x pos) i :=
  ⟨pg_name hN hi hx hf⟩
theorem dgs_nil : DGs C B X [] [] gsNil := ⟨⟨fun pins s σ H vs us Q I r ⟨ds, E, S, Qd, st, rs, h, c⟩ => by
  cases ds with
  | cons => exact False.elim h
  | nil =>
    cases rs
    exact pgs_nil.run pins s σ H [] us Q I r ⟨rfl, c _ _ _ _ st (Ext.refl C H) (fun _ _ => rfl) h⟩⟩⟩
theorem dgs_cons {tg : Expr} {es : List Expr} {i : Nat} {is : List Nat} {wu : WGs} (h1 : DGn C X tg i) (h2 : DGs C B X es is wu)
    (hs : (assignEach (tg :: es) X.env).map (·.2) = assign tg X.env :: (assignEach es X.env).map (·.2) := by rfl) : DGs C B X (tg :: es) (i :: is) (gsCons (gSet i) wu) :=
  ⟨⟨fun pins s σ H vs us Q I r ⟨ds, E, S, Qd, st, rs, h, c⟩ => by
    cases ds with
    | nil => exact False.elim h
    | cons d ds =>
      cases rs with
      | cons r1 r2 =>
        refine (pgs_cons h1.pg h2.pgs hs).run pins s σ H _ us Q I r ⟨_, _, rfl, ds, E.set i (some d), S, Qd, st.set r1 i, r2, h, fun E' S' σ' H' st' e' hw q => c _ _ _ _ st' e' (fun vs hv => ?_) q⟩
        rw [hw vs fun j hj => hv j (List.mem_cons_of_mem _ hj), wipe_set (hv i List.mem_cons_self)]⟩⟩
def gTupD (t : WGs) : WG := fun d E S Q => match d with
  | .tup ds => t ds E S Q
  | _ => False
def lenIs (n : Nat) (t : WGs) : WGs := fun ds E S Q => ds.length = n ∧ t ds E S Q
theorem dg_tup {es : List Expr} {k n : Nat} {is : List Nat} {t : WGs} (hc : X.calm = true) (h : DGs C B X es is t)
    (hn : (assignEach es X.env).length = n := by rfl) (hst : (assignEach es X.env).findIdx? (·.1) = none := by rfl) : DG C B X (.Tuple es k pos) is (gTupD (lenIs n t)) :=
  ⟨PGimp (pg_tup hc h.pgs hn hst) fun v σ H Q ⟨d, E, S, Qd, st, r, h, c⟩ => by
    cases d <;> first | exact False.elim h | skip
    cases r with
    | tup a b _ => exact ⟨_, _, rfl, a, by rw [← b.length]; exact h.1, _, E, S, Qd, st, b, h.2, fun E' S' σ' H' st' e' hw q => c _ _ _ _ e' st' hw q⟩⟩
/-- xs[i] = .., xs a list that may change -/
def gSubD (wo wi : WE) : WG := fun d E S Q => wo E S fun o S1 => wi E S1 fun ix S2 => match o, ix with
  | .ref p, .int k => ∃ ds j, S2 p = some (.lst ds) ∧ ixN ds.length k = some j ∧ Q E (S2.put p (.lst (ds.set j d)))
  | _, _ => False
theorem dg_sub {o i : Expr} {wo wi : WE} (ho : DE C B X o wo) (hi : DE C B X i wi)
    (ha : ∀ v, assign (.Subscript o i pos) X.env v = (do
      let ov ← holding [v] (eval o X.env)
      let iv ← holding [v, ov] (eval i X.env)
      standAt pos
      holding [v, ov, iv] (setItem ov iv v)
      release [v, ov, iv] []) := by intro _; rfl) : DG C B X (.Subscript o i pos) [] (gSubD wo wi) :=
  ⟨PGimp (pg_sub ho.pe hi.pe set_list ha) fun v σ H Q ⟨d, E, S, Qd, st, r, h, c⟩ => ⟨E, S, _, st, h, fun o1 S1 v1 H1 e1 r1 s1 h1 => ⟨E, S1, _, st.ext e1 s1, h1, fun i1 S2 v2 H2 e2 r2 s2 h2 => by
    cases o1 <;> first | exact False.elim h2 | skip
    cases i1 <;> first | exact False.elim h2 | skip
    obtain ⟨ds, j, q1, q2, q3⟩ := h2
    cases r1
    cases r2
    obtain ⟨xs, p1, p2, p3⟩ := s2.ob _ _ q1
    have rr := (r.ext e1).ext e2
    have ex : Ext C H2 (upd H2 _ (.lst (xs.set j v))) := Ext.wr p1
    refine ⟨_, xs, _, j, rfl, rfl, p1, by rw [← p2.length]; exact q2, ?_⟩
    exact c _ _ _ _ ((e1.trans e2).trans ex) ((st.ext (e1.trans e2) s2).ext ex (s2.wr q1 (p2.set rr j) (by rw [List.length_set]; exact p3))) (fun _ _ => rfl) q3⟩⟩⟩
def wAsg (we : WE) (g : WG) : WS := fun D E S => we E S fun d S1 => g d E S1 D.nx
theorem lift_asg {is : List Nat} {g : WG} {D : Ends} {σ : L2.St} {H : Hp} (h : liftS X.K C B (wAsg we g) D σ H) : tAsg (liftE X.K C B we) (liftG X.K C B is g) D σ H := by
  obtain ⟨E, S, Dd, st, h, c⟩ := h
  exact ⟨E, S, _, st, h, fun d S1 v H1 e1 r1 s1 h1 => ⟨d, E, S1, _, st.ext e1 s1, r1, h1, fun E' S' σ' H' e' st' _ q => c.nx _ _ _ _ (e1.trans e') st' q⟩⟩
theorem ds_asg {tg : Expr} {is : List Nat} {g : WG} (he : DE C B X e we) (hg : DG C B X tg is g) (hs : swapsWithSole [tg] e pos.line X.env = pure false := by rfl) (hw : swappedStores [tg] e X.env = pure none := by rfl)
    (h1 : (assignEach [tg] X.env).map (·.2) = [assign tg X.env] := by rfl) : DS C B X (.Assign [tg] e pos) (wAsg we g) :=
  ⟨PSimp (ps_asg he.pe hg.pg hs hw h1) fun _ _ _ h => lift_asg h⟩
theorem ds_set (i : Nat) {x : Str} {pos' : Pos} (hN : X.N.Nodup) (he : DE C B X e we) (hi : X.N[i]? = some x := by rfl) (hx : Loc X.env.scope x := by first | exact Or.inl rfl | exact Or.inr rfl) (hs : swapsWith e (some (.Name x pos')) pos.line X.env = pure false := by rfl)
    (hf : X.fn x = true ∨ X.env.scope.names.lookup x = some .local := by first | exact .inl rfl | exact .inr rfl | assumption) : DS C B X (.Assign [.Name x pos'] e pos) (wAsg we (gSet i)) :=
  ⟨PSimp (ps_set hN hi hx he.pe hs hf) fun D σ H h => by
    obtain ⟨E, S, Dd, st, h, c⟩ := h
    exact ⟨E, S, _, st, h, fun d S1 v H1 e1 r1 s1 h1 => c.nx _ _ _ _ e1 ((st.ext e1 s1).set r1 i) h1⟩⟩
/-- a, b = x, y -/
def wPar (i j : Nat) (w : WA) : WS := fun D E S => w E S fun ds S1 => match ds with
  | [a, b] => D.nx ((E.set i (some a)).set j (some b)) S1
  | _ => False
theorem ds_par (i j : Nat) {x y : Str} {a b : Expr} {wa : WA} {px py pt : Pos} {kt k2 : Nat} {pt2 : Pos} (hc : X.calm = true) (hN : X.N.Nodup) (ha : DA C B X [a, b] wa) (hi : X.N[i]? = some x := by rfl) (hj : X.N[j]? = some y := by rfl) (hij : i ≠ j := by decide)
    (hx : X.env.scope.names.lookup x = some .local := by rfl) (hy : X.env.scope.names.lookup y = some .local := by rfl)
    (hw : swappedStores [.Tuple [.Name x px, .Name y py] kt pt] (.Tuple [a, b] k2 pt2) X.env = pure (some [x, y]) := by rfl)
    (hs : swapsWithSole [.Tuple [.Name x px, .Name y py] kt pt] (.Tuple [a, b] k2 pt2) pos.line X.env = pure false := by rfl) :
    DS C B X (.Assign [.Tuple [.Name x px, .Name y py] kt pt] (.Tuple [a, b] k2 pt2) pos) (wPar i j wa) :=
  ⟨PSimp (ps_par hc hN hi hj hij hx hy ha.pa hw hs) fun D σ H ⟨E, S, Dd, st, h, c⟩ => ⟨E, S, _, st, h, fun ds S1 vs H1 e1 r1 s1 h1 => by
    match ds, r1, h1 with
    | [a, b], .cons ra (.cons rb .nil), h1 => exact ⟨_, _, rfl, c.nx _ _ _ _ e1 (((st.ext e1 s1).set ra i).set rb j) h1⟩⟩⟩
/-- x op= e -/
def wAug (i : Nat) (r : R2D) (we : WE) : WS := fun D E S => match E[i]? with
  | some (some x) => we E S fun y S1 => r x y S1 fun z S2 => D.nx (E.set i (some z)) S2
  | _ => False
theorem ds_aug (i : Nat) {x : Str} {op : Operator} {r : R2D} {pos' : Pos} (hN : X.N.Nodup) (ho : PIp X op (lift2 X.K C r)) (he : DE C B X e we) (hi : X.N[i]? = some x := by rfl) (hx : Loc X.env.scope x := by first | exact Or.inl rfl | exact Or.inr rfl)
    (hf : X.fn x = true ∨ X.env.scope.names.lookup x = some .local := by first | exact .inl rfl | exact .inr rfl | assumption) : DS C B X (.AugAssign (.Name x pos') op e pos) (wAug i r we) :=
  ⟨PSimp (ps_aug hN hi hx he.pe ho hf) fun D σ H ⟨E, S, Dd, st, h, c⟩ => by
    unfold wAug at h
    split at h
    · rename_i d e
      obtain ⟨v, q1, q2⟩ := st.env i d e
      exact ⟨v, q1, E, S, _, st, h, fun y S1 u H1 e1 r1 s1 h1 => ⟨d, y, S1, _, q2.ext e1, r1, s1, h1, fun z S2 zv H2 e2 r2 s2 h2 => c.nx _ _ _ _ (e1.trans e2) ((st.ext (e1.trans e2) s2).set r2 i) h2⟩⟩
    · exact False.elim h⟩
theorem ai_add : PIp X .Add (lift2 X.K C (dII0 fun i j => .int (i + j))) := by
  rintro pins s σ H x y v u Q I rx ry ⟨dx, dy, S, Qd, r1, r2, sr, h, c⟩
  cases dx <;> cases dy <;> first | exact False.elim h | skip
  cases r1; cases r2
  exact ip_add pins s σ H _ _ v u Q I rx ry ⟨_, _, rfl, rfl, c.now (.int _) sr h⟩
theorem ai_sub : PIp X .Sub (lift2 X.K C (dII0 fun i j => .int (i - j))) := by
  rintro pins s σ H x y v u Q I rx ry ⟨dx, dy, S, Qd, r1, r2, sr, h, c⟩
  cases dx <;> cases dy <;> first | exact False.elim h | skip
  cases r1; cases r2
  exact ip_sub pins s σ H _ _ v u Q I rx ry ⟨_, _, rfl, rfl, c.now (.int _) sr h⟩
/-- ahead of a statement: the list in slot i is locked from here on -/
def wLock (i : Nat) (w : WS) : WS := fun D E S => match E[i]? with
  | some (some (.ref p)) => ∃ ds, S p = some (.lst ds) ∧ w D (E.set i (some (.lst ds))) (S.del p)
  | _ => False
theorem dss_lock (i : Nat) {sts : List Stmt} (h : DSs C B X sts w) : DSs C B X sts (wLock i w) := by
  refine ⟨⟨fun pins s σ H D I ⟨E, S, Dd, st, q, c⟩ => ?_⟩⟩
  unfold wLock at q
  split at q
  · rename_i p e
    obtain ⟨ds, q1, q2⟩ := q
    obtain ⟨xs, p1, p2, p3⟩ := st.sr.ob p ds q1
    obtain ⟨v, v1, v2⟩ := st.env i _ e
    cases v2
    obtain ⟨ob, I'⟩ := inv_fz I p1
    have ex : Ext C H (upd H p (.frz ob (.lst xs))) := Ext.fz p1
    have st' := (st.ext ex (st.sr.fzS (ob := ob) q1 p1)).set (d := .lst ds) (v := .ref p) (.lst upd_same (p2.ext ex) p3) i
    have e2 : σ.set i (some (V.ref p)) = σ := by
      obtain ⟨hl, hv⟩ := List.getElem?_eq_some_iff.mp v1
      rw [← hv]
      exact List.set_getElem_self hl
    rw [e2] at st'
    exact h.pss.run pins s σ _ D I' ⟨_, _, Dd, st', q2, c.mono ex⟩
  · exact q.elim
/-! while -/
def wWhile (t : WT) (tb : WS) : WS := fun D E S => ∃ W : Nat → EV → Sto → Prop, (∃ m, W m E S) ∧ ∀ m E S, W m E S →
  t E S fun b S1 => if b = true then tb { D with nx := fun E' S' => ∃ m', m' < m ∧ W m' E' S', ct := fun E' S' => ∃ m', m' < m ∧ W m' E' S', bk := D.nx } E S1 else D.nx E S1
theorem ds_while {c : Expr} {body : List Stmt} {wc : WT} {wb : WS} (hp : PassesOwn (model X.prog X.w) X.A X.env X.xe) (hc : DT C B X c wc) (hb : DSs C B X body wb) : DS C B X (.While c body [] pos) (wWhile wc wb) :=
  ⟨PSimp (ps_while hp hc.pt hb.pss) fun D σ H ⟨E, S, Dd, st, ⟨W, ⟨m, hm⟩, hW⟩, cl⟩ => by
    refine ⟨fun m σ H' => ∃ E S, Ext C H H' ∧ Stt X.K C B E S σ H' ∧ W m E S, ⟨m, E, S, Ext.refl C H, st, hm⟩, fun m σ H2 ⟨E, S, ex, st, hm⟩ => ⟨E, S, _, st, hW m E S hm, fun b S1 H1 e1 s1 h1 => ?_⟩⟩
    cases b with
    | false => exact cl.nx _ _ _ _ (ex.trans e1) (st.ext e1 s1) h1
    | true =>
      have h1 : wb { Dd with nx := fun E' S' => ∃ m', m' < m ∧ W m' E' S', ct := fun E' S' => ∃ m', m' < m ∧ W m' E' S', bk := Dd.nx } E S1 := h1
      have cm := cl.mono (ex.trans e1)
      refine ⟨fun σ' H' => ∃ E' S', Ext C H H' ∧ Stt X.K C B E' S' σ' H' ∧ ∃ m', m' < m ∧ W m' E' S', fun σ' H' ⟨E', S', ex', st', m', lm, q⟩ => ⟨m', lm, E', S', ex', st', q⟩, E, S1, _, st.ext e1 s1, h1, ⟨fun E' S' σ' H' e' st' q => ⟨E', S', (ex.trans e1).trans e', st', q⟩, cm.rt, cm.nx, fun E' S' σ' H' e' st' q => ⟨E', S', (ex.trans e1).trans e', st', q⟩⟩⟩⟩
end

/-! ### what a loop walks -/
/-- the iterator J gives the items ds, as long as the list at src (if it is one that may change) is as it was -/
def Feeds (K : PySem.W.Frag) (C : Addr) (J : It) (ds : List D) (src : Option Addr) (H0 : Hp) : Prop := ∀ S H, Ext C H0 H → SR K C S H → (∀ p, src = some p → S p = some (.lst ds)) →
  J.stop ds.length H ∧ ∀ (i : Nat) (d : D), ds[i]? = some d → J.go i H ∧ ∀ x H', J.yld i H x H' → Ext C H H' ∧ DR K C H' d x ∧ SR K C S H'
def liftI (K : PySem.W.Frag) (C : Addr) (H0 : Hp) (w : WI) : TI := fun σ H R => ∃ E S Rd, Stt K C H0 E S σ H ∧ w E S Rd ∧ ∀ ds src S' J H', Ext C H H' → SR K C S' H' → Feeds K C J ds src H' → Rd ds src S' → R J H'
structure DI (C : Addr) (B : Hp) (X : Cx) (tg iter : Expr) (w : WI) : Prop where
  pi : PI X tg iter (liftI X.K C B w)
def srcOk (src : Option Addr) (ds : List D) (S : Sto) : Prop := match src with
  | some p => S p = some (.lst ds)
  | none => True
theorem srcOk_iff {src : Option Addr} {ds : List D} {S : Sto} (h : srcOk src ds S) : ∀ p, src = some p → S p = some (.lst ds) := fun p e => by subst e; exact h
/-- the loop over the rest of all -/
def wForL (g : WG) (tb : WS) (src : Option Addr) (all : List D) (Z : WEnds) : List D → EV → Sto → Prop
  | [] => fun E S => srcOk src all S ∧ Z.nx E S
  | d :: ds => fun E S => srcOk src all S ∧ g d E S fun E1 S1 => tb { Z with nx := wForL g tb src all Z ds, ct := wForL g tb src all Z ds, bk := Z.nx } E1 S1
def wFor (wi : WI) (g : WG) (tb : WS) : WS := fun D E S => wi E S fun ds src S1 => wForL g tb src ds D ds E S1
section
variable {C : Addr} {B : Hp} {X : Cx} {pos : Pos}
theorem ds_for {tg iter : Expr} {body : List Stmt} {wi : WI} {is : List Nat} {g : WG} {wb : WS} (hp : PassesOwn (model X.prog X.w) X.A X.env X.xe) (hc : X.calm = true) (hi : DI C B X tg iter wi) (hg : DG C B X tg is g) (hb : DSs C B X body wb)
    (hs : ∀ x, foldedSetIterable iter X.env x = pure x := by intro _; rfl) : DS C B X (.For tg iter body [] pos) (wFor wi g wb) :=
  ⟨PSimp (ps_for hp hc hi.pi hg.pg hb.pss hs) fun D σ H ⟨E, S, Dd, st, h, cl⟩ => ⟨E, S, _, st, h, fun ds src S1 J H1 e1 s1 fd h1 => by
    refine ⟨fun i m σ H => ∃ E S, Stt X.K C B E S σ H ∧ Ext C H1 H ∧ i + m = ds.length ∧ wForL g wb src ds Dd (ds.drop i) E S, ⟨ds.length, E, S1, st.ext e1 s1, Ext.refl C H1, Nat.zero_add _, by rw [List.drop_zero]; exact h1⟩, fun i m σ H ⟨E, S, st, ex, em, hw⟩ => ?_⟩
    by_cases hi : i < ds.length
    · right
      have hd : ds[i]? = some ds[i] := List.getElem?_eq_getElem hi
      rw [List.drop_eq_getElem_cons hi] at hw
      obtain ⟨so, hw⟩ := hw
      obtain ⟨_, f2⟩ := fd S H ex st.sr (srcOk_iff so)
      obtain ⟨go, yl⟩ := f2 i _ hd
      refine ⟨go, fun σ' H' => ∃ E' S', Stt X.K C B E' S' σ' H' ∧ Ext C H1 H' ∧ wForL g wb src ds Dd (ds.drop (i + 1)) E' S', fun σ' H' ⟨E', S', st', ex', q⟩ => ⟨m - 1, by omega, E', S', st', ex', by omega, q⟩, fun x H' hy => ?_⟩
      obtain ⟨e2, r2, s2⟩ := yl x H' hy
      have cm := cl.mono (e1.trans (ex.trans e2))
      refine ⟨_, E, S, _, st.ext e2 s2, r2, hw, fun E' S' σ' H3 e3 st' _ q => ⟨E', S', _, st', q, ?_⟩⟩
      have cm' := cm.mono e3
      exact ⟨fun E' S' σ' H' e' st' q => ⟨E', S', st', ((ex.trans e2).trans e3).trans e', q⟩, cm'.rt, cm'.nx, fun E' S' σ' H' e' st' q => ⟨E', S', st', ((ex.trans e2).trans e3).trans e', q⟩⟩
    · left
      rw [List.drop_eq_nil_of_le (Nat.le_of_not_lt hi)] at hw
      obtain ⟨so, hw⟩ := hw
      obtain ⟨f1, _⟩ := fd S H ex st.sr (srcOk_iff so)
      have : i = ds.length := by omega
      subst this
      exact ⟨f1, cl.nx _ _ _ _ (e1.trans ex) st hw⟩⟩⟩
end
end RL

namespace RL
open PySem PySem.Spec PyProof.Rows L2

/-! ### what is walked -/
def rngD (lo : Int) (n : Nat) : List D := (List.range n).map fun (i : Nat) => D.int (lo + i)
theorem rngD_length (lo : Int) (n : Nat) : (rngD lo n).length = n := by unfold rngD; rw [List.length_map, List.length_range]
theorem rngD_get {lo : Int} {n i : Nat} {d : D} (h : (rngD lo n)[i]? = some d) : i < n ∧ d = .int (lo + i) := by
  unfold rngD at h
  rw [List.getElem?_map] at h
  by_cases hi : i < n
  · rw [List.getElem?_range hi] at h
    cases h
    exact ⟨hi, rfl⟩
  · rw [List.getElem?_eq_none (by rw [List.length_range]; omega)] at h
    cases h
section
variable {K : PySem.W.Frag} {C : Addr} {H0 : Hp}
theorem feeds_range (lo : Int) (n : Nat) : Feeds K C (Itr lo n) (rngD lo n) none H0 := fun S H ex sr _ => by
  refine ⟨by rw [rngD_length]; exact Nat.le_refl n, fun i d hd => ?_⟩
  obtain ⟨hi, rfl⟩ := rngD_get hd
  exact ⟨hi, fun x H' hy => by obtain ⟨rfl, rfl⟩ := hy; exact ⟨Ext.refl C _, .int _, sr⟩⟩
theorem feeds_tup {a : Addr} {xs : List V} {ds : List D} (h : SqT K H0 a xs) (r : DRs K C H0 ds xs) : Feeds K C (Itt K a) ds none H0 := fun S H ex sr _ => by
  have h1 := ex.sqT h
  have r1 := r.ext ex
  refine ⟨⟨xs, h1, by rw [r.length]; exact Nat.le_refl _⟩, fun i d hd => ?_⟩
  obtain ⟨v, hv, rv⟩ := r1.get hd
  refine ⟨⟨xs, v, h1, hv⟩, fun x H' hy => ?_⟩
  obtain ⟨e, hx⟩ := hy
  subst e
  have := hx xs h1
  rw [hv] at this
  cases this
  exact ⟨Ext.refl C _, rv, sr⟩
theorem feeds_lst {a : Addr} {ob : Obj} {xs : List V} {ds : List D} (h : H0 a = some (.frz ob (.lst xs))) (r : DRs K C H0 ds xs) : Feeds K C (Itl K a) ds none H0 := fun S H ex sr _ => by
  have h1 : SqL K H a xs := .inl (.inr ⟨ob, ex.frz _ _ _ h⟩)
  have r1 := r.ext ex
  refine ⟨⟨xs, h1, by rw [r.length]; exact Nat.le_refl _⟩, fun i d hd => ?_⟩
  obtain ⟨v, hv, rv⟩ := r1.get hd
  refine ⟨⟨xs, v, h1, hv⟩, fun x H' hy => ?_⟩
  obtain ⟨e, hx⟩ := hy
  subst e
  have := hx xs h1
  rw [hv] at this
  cases this
  exact ⟨Ext.refl C _, rv, sr⟩
theorem feeds_live {a : Addr} {ds : List D} : Feeds K C (Itl K a) ds (some a) H0 := fun S H ex sr so => by
  obtain ⟨xs, p, r1, _⟩ := sr.ob a ds (so a rfl)
  have h1 : SqL K H a xs := .inl (.inl p)
  refine ⟨⟨xs, h1, by rw [r1.length]; exact Nat.le_refl _⟩, fun i d hd => ?_⟩
  obtain ⟨v, hv, rv⟩ := r1.get hd
  refine ⟨⟨xs, v, h1, hv⟩, fun x H' hy => ?_⟩
  obtain ⟨e, hx⟩ := hy
  subst e
  have := hx xs h1
  rw [hv] at this
  cases this
  exact ⟨Ext.refl C _, rv, sr⟩
def zipD : List D → List D → List D
  | x :: xs, y :: ys => .tup [x, y] :: zipD xs ys
  | _, _ => []
theorem zipD_length : ∀ (xs ys : List D), (zipD xs ys).length = min xs.length ys.length
  | [], ys => by rw [List.length_nil, Nat.zero_min]; rfl
  | x :: xs, [] => rfl
  | x :: xs, y :: ys => by
    show (zipD xs ys).length + 1 = min (xs.length + 1) (ys.length + 1)
    rw [zipD_length xs ys]
    omega
theorem zipD_get : ∀ {xs ys : List D} {i : Nat} {d : D}, (zipD xs ys)[i]? = some d → ∃ x y, xs[i]? = some x ∧ ys[i]? = some y ∧ d = .tup [x, y]
  | [], ys, i, d, h => by simp [zipD] at h
  | x :: xs, [], i, d, h => by simp [zipD] at h
  | x :: xs, y :: ys, 0, d, h => by simp [zipD] at h; exact ⟨x, y, rfl, rfl, h.symm⟩
  | x :: xs, y :: ys, i + 1, d, h => by
    have h' : (zipD xs ys)[i]? = some d := by simpa [zipD] using h
    obtain ⟨a, b, h1, h2, h3⟩ := zipD_get h'
    exact ⟨a, b, by simpa using h1, by simpa using h2, h3⟩
theorem feeds_zip {J : It} {xs ys : List D} (hs : ∀ H, Ext C H0 H → J.stop (min xs.length ys.length) H)
    (hg : ∀ (i : Nat) x y, xs[i]? = some x → ys[i]? = some y → ∃ vx vy, DR K C H0 x vx ∧ DR K C H0 y vy ∧ ∀ H, Ext C H0 H → J.go i H ∧ ∀ v H', J.yld i H v H' → ∃ T, v = .ref T ∧ H T = none ∧ H' = upd H T (.tup [vx, vy])) : Feeds K C J (zipD xs ys) none H0 := fun S H ex sr _ => by
  refine ⟨by rw [zipD_length]; exact hs H ex, fun i d hd => ?_⟩
  obtain ⟨x, y, h1, h2, rfl⟩ := zipD_get hd
  obtain ⟨vx, vy, rx, ry, hh⟩ := hg i x y h1 h2
  obtain ⟨go, yl⟩ := hh H ex
  refine ⟨go, fun v H' hy => ?_⟩
  obtain ⟨T, rfl, hT, rfl⟩ := yl v H' hy
  have e2 : Ext C H (upd H T (.tup [vx, vy])) := Ext.new hT
  exact ⟨e2, .tup (.inl (.inl upd_same)) (.cons ((rx.ext ex).ext e2) (.cons ((ry.ext ex).ext e2) .nil)) (by show 2 ≤ sizeLine; decide), sr.new hT trivial⟩
end
section
variable {C : Addr} {B : Hp} {X : Cx} {tg : Expr} {pos p : Pos}
def wRng1 (wa : WA) : WI := fun E S R => wa E S fun ds S1 => match ds with
  | [.int j] => (-(2 ^ 62) ≤ j ∧ j < 2 ^ 62) ∧ R (rngD 0 j.toNat) none S1
  | _ => False
def wRng2 (wa : WA) : WI := fun E S R => wa E S fun ds S1 => match ds with
  | [.int i, .int j] => (-(2 ^ 62) ≤ i ∧ i < 2 ^ 62 ∧ -(2 ^ 62) ≤ j ∧ j < 2 ^ 62) ∧ R (rngD i (j - i).toNat) none S1
  | _ => False
theorem PIimp {tg iter : Expr} {t t' : TI} (p : PI X tg iter t) (h : ∀ σ H R, t' σ H R → t σ H R) : PI X tg iter t' := ⟨fun pins s σ H R I q => p.run pins s σ H R I (h σ H R q)⟩
theorem di_range1 {a : Expr} {wa : WA} (hm : X.mg "range" = none) (ha : DA C B X [a] wa) (hg : Gl X "range" := by rfl) (hs : starEach [a] X.env = [(false, eval a X.env)] := by rfl) : DI C B X tg (.Call (.Name "range" p) [a] [] pos) (wRng1 wa) :=
  ⟨PIimp (pi_range1 hg hm ha.pa hs) fun σ H R ⟨E, S, Rd, st, h, c⟩ => ⟨E, S, _, st, h, fun ds S1 vs H1 e1 r1 s1 h1 => by
    match ds, r1, h1 with
    | [.int j], .cons ra .nil, h1 =>
      cases ra
      exact ⟨j, rfl, h1.1.1, h1.1.2, c _ _ _ _ _ e1 s1 (feeds_range _ _) h1.2⟩⟩⟩
theorem di_range2 {a b : Expr} {wa : WA} (hm : X.mg "range" = none) (ha : DA C B X [a, b] wa) (hg : Gl X "range" := by rfl) (hs : starEach [a, b] X.env = [(false, eval a X.env), (false, eval b X.env)] := by rfl) (hs2 : starEach [b] X.env = [(false, eval b X.env)] := by rfl) : DI C B X tg (.Call (.Name "range" p) [a, b] [] pos) (wRng2 wa) :=
  ⟨PIimp (pi_range2 hg hm ha.pa hs hs2) fun σ H R ⟨E, S, Rd, st, h, c⟩ => ⟨E, S, _, st, h, fun ds S1 vs H1 e1 r1 s1 h1 => by
    match ds, r1, h1 with
    | [.int i, .int j], .cons ra (.cons rb .nil), h1 =>
      cases ra
      cases rb
      exact ⟨i, j, rfl, h1.1, c _ _ _ _ _ e1 s1 (feeds_range _ _) h1.2⟩⟩⟩
/-- a list or a tuple -/
def wSeqI (w : WE) : WI := fun E S R => w E S fun d S1 => match d with
  | .tup ds => ds.length ≤ sizeLine → R ds none S1
  | .lst ds => ds.length ≤ sizeLine → R ds none S1
  | .ref q => ∃ ds, S1 q = some (.lst ds) ∧ (ds.length ≤ sizeLine → R ds (some q) S1)
  | _ => False
theorem iter_list {pins : List (Addr × Obj)} {s : Shared} {σ : L2.St} {H : Hp} {R : It → Hp → Prop} {E : Value → Shared → Prop} {a : Addr} {xs : List V} (I : Inv X pins σ H s) (h : SqL X.K H a xs) (q : R (Itl X.K a) H) : wpAny (model X.prog X.w) X.A (pyIter (.ref a)) (PIE X pins σ tg R) E s := by
  rcases I.list h with ⟨its, rv, pl, -⟩
  have hf := I.hok.fresh (Nat.le_refl s.heap.objs.size)
  refine wpAny_pyIter_list pl.isList ⟨s.heap.objs.size, [s.heap.objs.size], _, _, H, rfl, I.kept (t' := s.toks) (fun _ _ => Heap.get?_push_of_some _), turn_list a _, ⟨_, Heap.get?_push_size _ rfl, rfl, rfl⟩, ?_, q⟩
  intro b hb
  rw [List.mem_singleton.mp hb]
  exact I.fpOk (Nat.le_refl _) hf
theorem iter_tup {pins : List (Addr × Obj)} {s : Shared} {σ : L2.St} {H : Hp} {R : It → Hp → Prop} {E : Value → Shared → Prop} {a : Addr} {xs : List V} (I : Inv X pins σ H s) (h : SqT X.K H a xs) (q : R (Itt X.K a) H) : wpAny (model X.prog X.w) X.A (pyIter (.ref a)) (PIE X pins σ tg R) E s := by
  rcases I.tuple h with ⟨its, rv, pl, -⟩
  have hf := I.hok.fresh (Nat.le_refl s.heap.objs.size)
  refine wpAny_pyIter_tuple (show s.heap.IsTuple a its.toArray from pl) ⟨s.heap.objs.size, [s.heap.objs.size], _, _, H, rfl, I.kept (t' := s.toks) (fun _ _ => Heap.get?_push_of_some _), turn_tuple a _, ⟨_, Heap.get?_push_size _ rfl, rfl, rfl⟩, ?_, q⟩
  intro b hb
  rw [List.mem_singleton.mp hb]
  exact I.fpOk (Nat.le_refl _) hf
theorem di_seq {e : Expr} {w : WE} (he : DE C B X e w) : DI C B X tg e (wSeqI w) := by
  refine ⟨⟨fun pins s σ H R I ⟨E, S, Rd, st, h, c⟩ => ?_⟩⟩
  refine thn (he.pe.run pins s σ H (fun v H1 => ∃ d S1, Ext C H H1 ∧ DR X.K C H1 d v ∧ SR X.K C S1 H1 ∧ (match d with
    | .tup ds => ds.length ≤ sizeLine → Rd ds none S1
    | .lst ds => ds.length ≤ sizeLine → Rd ds none S1
    | .ref q => ∃ ds, S1 q = some (.lst ds) ∧ (ds.length ≤ sizeLine → Rd ds (some q) S1)
    | _ => False)) I ⟨E, S, _, st, h, fun d S1 v H1 e1 r1 s1 h1 => ⟨d, S1, e1, r1, s1, h1⟩⟩) ?_
  rintro u s1 ⟨v, H1, I1, rv, d, S1, e1, r1, s1', h1⟩
  cases d <;> first | exact False.elim h1 | skip
  · obtain ⟨ds, q1, q2⟩ := h1
    cases r1
    cases rv
    obtain ⟨xs, p1, p2, p3⟩ := s1'.ob _ _ q1
    exact iter_list I1 (.inl (.inl p1)) (c _ _ _ _ _ e1 s1' feeds_live (q2 (by rw [p2.length]; exact p3)))
  · cases r1 with
    | tup a b z =>
      cases rv
      exact iter_tup I1 a (c _ _ _ _ _ e1 s1' (feeds_tup a b) (h1 (by rw [b.length]; exact z)))
  · cases r1 with
    | lst a b z =>
      cases rv
      exact iter_list I1 (.inl (.inr ⟨_, a⟩)) (c _ _ _ _ _ e1 s1' (feeds_lst a b) (h1 (by rw [b.length]; exact z)))
/-- zip of two lists, of two tuples -/
def wZip (wa : WA) : WI := fun E S R => wa E S fun ds S1 => match ds with
  | [.tup xs, .tup ys] => xs.length ≤ sizeLine ∧ ys.length ≤ sizeLine → R (zipD xs ys) none S1
  | [.lst xs, .lst ys] => xs.length ≤ sizeLine ∧ ys.length ≤ sizeLine → R (zipD xs ys) none S1
  | _ => False
theorem di_zip {a b : Expr} {wa : WA} {tpos : Pos} {elts : List Expr} {kk : Nat} (hm : X.mg "zip" = none) (ha : DA C B X [a, b] wa) (hg : Gl X "zip" := by rfl)
    (hs : starEach [a, b] X.env = (false, eval a X.env) :: starEach [b] X.env := by rfl) (hpl : (backTo pos (starEach [b] X.env)).any (·.1) = false := by rfl) : DI C B X (.Tuple elts kk tpos) (.Call (.Name "zip" p) [a, b] [] pos) (wZip wa) :=
  ⟨PIimp (RZ.pi_zipA hg hm ha.pa hs hpl) fun σ H R ⟨E, S, Rd, st, h, c⟩ => ⟨E, S, _, st, h, fun ds S1 vs H1 e1 r1 s1 h1 => by
    match ds, r1, h1 with
    | [.tup xs, .tup ys], .cons ra (.cons rb .nil), h1 =>
      cases ra with
      | tup a1 b1 k1 =>
        cases rb with
        | tup a2 b2 k2 =>
          refine ⟨_, _, _, _, rfl, .inr ⟨a1, a2, c _ _ _ _ _ e1 s1 (feeds_zip (fun H2 e2 => ?_) fun i x y hx hy => ?_) (h1 ⟨by rw [b1.length]; exact k1, by rw [b2.length]; exact k2⟩)⟩⟩
          · refine ⟨_, _, e2.sqT a1, e2.sqT a2, ?_⟩
            rw [← b1.length, ← b2.length]
            omega
          · obtain ⟨vx, q1, q2⟩ := b1.get hx
            obtain ⟨vy, q3, q4⟩ := b2.get hy
            refine ⟨vx, vy, q2, q4, fun H2 e2 => ⟨⟨_, _, vx, vy, e2.sqT a1, e2.sqT a2, q1, q3⟩, fun v H' ⟨T, x', y', z1, z2, z3, z4, z5⟩ => ?_⟩⟩
            have w1 := z4 _ (e2.sqT a1)
            have w2 := z5 _ (e2.sqT a2)
            rw [q1] at w1
            rw [q3] at w2
            cases w1
            cases w2
            exact ⟨T, z1, z2, z3⟩
    | [.lst xs, .lst ys], .cons ra (.cons rb .nil), h1 =>
      cases ra with
      | lst a1 b1 k1 =>
        cases rb with
        | lst a2 b2 k2 =>
          have f1 : ∀ {H2}, Ext C H1 H2 → SqL X.K H2 _ _ := fun e2 => .inl (.inr ⟨_, e2.frz _ _ _ a1⟩)
          have f2 : ∀ {H2}, Ext C H1 H2 → SqL X.K H2 _ _ := fun e2 => .inl (.inr ⟨_, e2.frz _ _ _ a2⟩)
          refine ⟨_, _, _, _, rfl, .inl ⟨f1 (Ext.refl C H1), f2 (Ext.refl C H1), c _ _ _ _ _ e1 s1 (feeds_zip (fun H2 e2 => ?_) fun i x y hx hy => ?_) (h1 ⟨by rw [b1.length]; exact k1, by rw [b2.length]; exact k2⟩)⟩⟩
          · refine ⟨_, _, f1 e2, f2 e2, ?_⟩
            rw [← b1.length, ← b2.length]
            omega
          · obtain ⟨vx, q1, q2⟩ := b1.get hx
            obtain ⟨vy, q3, q4⟩ := b2.get hy
            refine ⟨vx, vy, q2, q4, fun H2 e2 => ⟨⟨_, _, vx, vy, f1 e2, f2 e2, q1, q3⟩, fun v H' ⟨T, x', y', z1, z2, z3, z4, z5⟩ => ?_⟩⟩
            have w1 := z4 _ (f1 e2)
            have w2 := z5 _ (f2 e2)
            rw [q1] at w1
            rw [q3] at w2
            cases w1
            cases w2
            exact ⟨T, z1, z2, z3⟩⟩⟩
end

/-! ### list comprehensions -/
def wipeD (E : EV) : List Nat → EV
  | [] => E
  | v :: vs => (wipeD E vs).set v none
theorem wipeD_length (E : EV) : ∀ vs : List Nat, (wipeD E vs).length = E.length
  | [] => rfl
  | v :: vs => by unfold wipeD; rw [List.length_set, wipeD_length E vs]
theorem Stt.none {K : PySem.W.Frag} {C : Addr} {H0 : Hp} {E : EV} {S : Sto} {σ : L2.St} {H : Hp} (st : Stt K C H0 E S σ H) (i : Nat) : Stt K C H0 (E.set i none) S (σ.set i none) H := by
  refine ⟨st.base, by rw [List.length_set, List.length_set]; exact st.len, fun j e q => ?_, st.sr⟩
  by_cases hj : i = j
  · subst hj
    by_cases hl : i < E.length
    · rw [List.getElem?_set_self hl] at q
      cases q
    · rw [List.getElem?_eq_none (by rw [List.length_set]; omega)] at q
      cases q
  · rw [List.getElem?_set_ne hj] at q
    rw [List.getElem?_set_ne hj]
    exact st.env j e q
theorem Stt.wipe {K : PySem.W.Frag} {C : Addr} {H0 : Hp} {E : EV} {S : Sto} {σ : L2.St} {H : Hp} (st : Stt K C H0 E S σ H) : ∀ vs : List Nat, Stt K C H0 (wipeD E vs) S (L2.wipe σ vs) H
  | [] => st
  | v :: vs => (Stt.wipe st vs).none v
theorem Stt.rebase {K : PySem.W.Frag} {C : Addr} {H0 H1 : Hp} {E : EV} {S : Sto} {σ : L2.St} {H : Hp} (st : Stt K C H0 E S σ H) (e : Ext C H1 H) : Stt K C H1 E S σ H := ⟨e, st.len, st.env, st.sr⟩
/-- Z: the new list, which the store knows while it grows -/
def wLcL (g : WG) (tt : WT) (te : WE) (E : EV) (src : Option Addr) (all : List D) (Z : Addr) (Q : Sto → Prop) : List D → List D → Sto → Prop
  | [], acc, S => srcOk src all S ∧ S Z = some (.lst acc) ∧ Q S
  | d :: ds, acc, S => srcOk src all S ∧ g d E S fun E2 S2 => tt E2 S2 fun b S3 => if b = true then te E2 S3 fun y S4 => S4 Z = some (.lst acc) ∧ acc.length < sizeLine ∧ wLcL g tt te E src all Z Q ds (acc ++ [y]) (S4.put Z (.lst (acc ++ [y]))) else wLcL g tt te E src all Z Q ds acc S3
/-- the list of a comprehension: locked, or one that may change -/
def asF (Z : Addr) (S : Sto) (Q : KD) : Prop := ∀ acc, S Z = some (.lst acc) → Q (.lst acc) (S.del Z)
def asL (Z : Addr) (S : Sto) (Q : KD) : Prop := Q (.ref Z) S
def wLc (fz : Bool) (wi : WI) (g : WG) (tt : WT) (te : WE) (vs : List Nat) : WE := fun E S Qd => wi E S fun ds src S1 => ∀ Z, S1 Z = none → wLcL g tt te (wipeD E vs) src ds Z (fun S2 => if fz = true then asF Z S2 Qd else asL Z S2 Qd) ds [] (S1.put Z (.lst []))
theorem tLc_mono {wi : TI} {g : TG} {tt : TT} {te : TE} {vs : List Nat} {σ : L2.St} {H : Hp} {Q Q' : VK} (h : tLc wi g tt te vs σ H Q) (hq : ∀ x H1, Q x H1 → Q' x H1) (hm : ∀ R R' : It → Hp → Prop, (∀ J H, R J H → R' J H) → wi σ H R → wi σ H R') : tLc wi g tt te vs σ H Q' :=
  hm _ _ (fun J H1 h D hD => by
    obtain ⟨W, h0, hW⟩ := h D hD
    refine ⟨W, h0, fun i m H hw => ?_⟩
    rcases hW i m H hw with ⟨a, b⟩ | r
    · exact .inl ⟨a, hq _ _ b⟩
    · exact .inr r) h
theorem liftI_mono {K : PySem.W.Frag} {C : Addr} {B : Hp} {w : WI} {σ : L2.St} {H : Hp} {R R' : It → Hp → Prop} (h : ∀ J H, R J H → R' J H) (q : liftI K C B w σ H R) : liftI K C B w σ H R' := by
  obtain ⟨E, S, Rd, st, hw, c⟩ := q
  exact ⟨E, S, Rd, st, hw, fun ds src S' J H' a b d e => h J H' (c ds src S' J H' a b d e)⟩
structure DTs (C : Addr) (B : Hp) (X : Cx) (ifs : List Expr) (w : WT) : Prop where
  pts : PTs X ifs (liftT X.K C B w)
def wYes : WT := fun _ S Q => Q true S
section
variable {C : Addr} {B : Hp} {X : Cx} {pos : Pos}
theorem dts_nil : DTs C B X [] wYes := ⟨⟨fun pins s σ H Q I ⟨E, S, Qd, st, h, c⟩ => pts_nil.run pins s σ H Q I (c _ _ _ (Ext.refl C H) st.sr h)⟩⟩
theorem dts_one {c : Expr} {w : WT} (h : DT C B X c w) : DTs C B X [c] w := ⟨pts_one h.pt⟩
theorem wipe_idem (σ : L2.St) (vs : List Nat) : L2.wipe (L2.wipe σ vs) vs = L2.wipe σ vs := by
  have key : ∀ us : List Nat, (∀ u ∈ us, u ∈ vs) → L2.wipe (L2.wipe σ vs) us = L2.wipe σ vs := by
    intro us
    induction us with
    | nil => intro _; rfl
    | cons u us ih =>
      intro hu
      show (L2.wipe (L2.wipe σ vs) us).set u none = _
      rw [ih fun w hw => hu w (List.mem_cons_of_mem _ hw)]
      have hm := hu u List.mem_cons_self
      apply List.ext_getElem?
      intro j
      by_cases hj : u = j
      · subst hj
        by_cases hl : u < (L2.wipe σ vs).length
        · rw [List.getElem?_set_self hl]
          cases q : (L2.wipe σ vs)[u]? with
          | none => rw [List.getElem?_eq_none_iff] at q; omega
          | some o =>
            cases o with
            | none => rfl
            | some x => exact absurd hm (wipe_some q).2
        · rw [List.getElem?_eq_none (by rw [List.length_set]; omega), List.getElem?_eq_none (by omega)]
      · rw [List.getElem?_set_ne hj]
  exact key vs fun _ h => h
/-- the reading of the hand layer from that by content -/
theorem lift_lc {is vs : List Nat} {wi : WI} {g : WG} {tt : WT} {te : WE} {fz : Bool} {σ : L2.St} {H : Hp} {Q : VK} (his : ∀ i ∈ is, i ∈ vs) (h : liftE X.K C B (wLc fz wi g tt te vs) σ H Q) :
    tLc (liftI X.K C B wi) (fun v σ1 H1 Q1 => liftG X.K C H1 is g v σ1 H1 Q1) (fun σ1 H1 Q1 => liftT X.K C H1 tt σ1 H1 Q1) (fun σ1 H1 Q1 => liftE X.K C H1 te σ1 H1 Q1) vs σ H (if fz = true then fzK Q else Q) := by
  obtain ⟨E, S, Qd, st, h, c⟩ := h
  refine ⟨E, S, _, st, h, fun ds src S1 J H1 e1 s1 fd h1 Z hZ => ?_⟩
  have h1 := h1 Z (s1.none hZ)
  refine ⟨fun i m H' => ∃ acc S', Ext C H1 H' ∧ SR X.K C S' H' ∧ i + m = ds.length ∧ wLcL g tt te (wipeD E vs) src ds Z (fun S2 => if fz = true then asF Z S2 Qd else asL Z S2 Qd) (ds.drop i) acc S', ?_, ?_⟩
  · exact ⟨ds.length, [], _, Ext.new hZ, s1.newL hZ .nil (Nat.zero_le _), Nat.zero_add _, by rw [List.drop_zero]; exact h1⟩
  · rintro i m H' ⟨acc, S', ex, sr, em, hw⟩
    by_cases hi : i < ds.length
    · right
      have hd : ds[i]? = some ds[i] := List.getElem?_eq_getElem hi
      rw [List.drop_eq_getElem_cons hi] at hw
      obtain ⟨so, hw⟩ := hw
      obtain ⟨_, f2⟩ := fd S' H' ex sr (srcOk_iff so)
      obtain ⟨go, yl⟩ := f2 i _ hd
      refine ⟨go, fun H3 => ∃ acc S3, Ext C H1 H3 ∧ SR X.K C S3 H3 ∧ wLcL g tt te (wipeD E vs) src ds Z (fun S2 => if fz = true then asF Z S2 Qd else asL Z S2 Qd) (ds.drop (i + 1)) acc S3,
        fun H3 ⟨acc3, S3, q1, q2, q4⟩ => ⟨m - 1, by omega, acc3, S3, q1, q2, by omega, q4⟩, fun x H2 hy => ?_⟩
      obtain ⟨e2, r2, s2⟩ := yl x H2 hy
      have stw : Stt X.K C H2 (wipeD E vs) S' (L2.wipe σ vs) H2 := ((((st.ext e1 s1).ext (ex.trans e2) s2).wipe vs).rebase (Ext.refl C H2))
      refine ⟨_, _, S', _, stw, r2, hw, fun E3 S3 σ3 H3 e3 st3 hwp q3 => ⟨?_, ?_⟩⟩
      · rw [hwp vs his]
        have ww : ∀ us : List Nat, L2.wipe (L2.wipe σ vs) us = L2.wipe (L2.wipe σ vs) us := fun _ => rfl
        exact wipe_idem σ vs
      · refine ⟨E3, S3, _, st3.rebase (Ext.refl C H3), q3, fun b S4 H4 e4 s4 q4 => ?_⟩
        have ex4 : Ext C H1 H4 := ((ex.trans e2).trans e3).trans e4
        cases b with
        | false =>
          exact ⟨acc, S4, ex4, s4, q4⟩
        | true =>
          refine ⟨E3, S4, _, ((st3.ext e4 s4).rebase (Ext.refl C H4)), q4, fun y S5 v5 H5 e5 r5 s5 q5 => ?_⟩
          obtain ⟨z1, z2, z3⟩ := q5
          obtain ⟨xs, p1, p2, p3⟩ := s5.ob Z _ z1
          exact ⟨xs, p1, by rw [← p2.length]; exact z2, _, _, (ex4.trans e5).trans (Ext.wr p1), s5.wr z1 (p2.app (.cons r5 .nil)) (by rw [List.length_append, ← p2.length]; exact z2), z3⟩
    · left
      rw [List.drop_eq_nil_of_le (Nat.le_of_not_lt hi)] at hw
      obtain ⟨so, hz, hw⟩ := hw
      obtain ⟨f1, _⟩ := fd S' H' ex sr (srcOk_iff so)
      have : i = ds.length := by omega
      subst this
      refine ⟨f1, ?_⟩
      obtain ⟨xs, p1, p2, p3⟩ := sr.ob Z _ hz
      cases fz with
      | true =>
        refine ⟨Z, xs, rfl, p1, fun ob => ?_⟩
        have e9 : Ext C H' (upd H' Z (.frz ob (.lst xs))) := Ext.fz p1
        exact c _ _ _ _ ((e1.trans ex).trans e9) (.lst upd_same (p2.ext e9) p3) (sr.fzS hz p1) (hw _ hz)
      | false => exact c _ _ _ _ (e1.trans ex) (.ref Z) sr hw
theorem PGbase {X : Cx} {C : Addr} {tg : Expr} {is : List Nat} {g : WG} (h : ∀ B, DG C B X tg is g) : PG X tg (fun v σ1 H1 Q1 => liftG X.K C H1 is g v σ1 H1 Q1) := ⟨fun pins s σ H v u Q I r q => (h H).pg.run pins s σ H v u Q I r q⟩
theorem PTsbase {X : Cx} {C : Addr} {ifs : List Expr} {w : WT} (h : ∀ B, DTs C B X ifs w) : PTs X ifs (fun σ1 H1 Q1 => liftT X.K C H1 w σ1 H1 Q1) := ⟨fun pins s σ H Q I q => (h H).pts.run pins s σ H Q I q⟩
theorem PEbase {X : Cx} {C : Addr} {e : Expr} {w : WE} (h : ∀ B, DE C B X e w) : PE X e (fun σ1 H1 Q1 => liftE X.K C H1 w σ1 H1 Q1) := ⟨fun pins s σ H Q I q => (h H).pe.run pins s σ H Q I q⟩
/-- [elt for tg in iter if ..] -/
theorem de_lc (fz : Bool) {elt tg iter : Expr} {ifs : List Expr} {scope : Scope} (own : List (Str × Nat)) {wi : WI} {is : List Nat} {g : WG} {tt : WT} {te : WE} (hc : X.calm = true) (hN : X.N.Nodup) (ok : BlkOk X.N X.env.scope scope own) (hi : DI C B X tg iter wi)
    (hg : ∀ (s : Shared) (H : Hp) (L : Addr) (cl : List (Str × Addr)) (fp : List Addr) (B : Hp), DG C B (X.blk s H scope (compEnvC scope cl L X.env) fp) tg is g) (ht : ∀ (s : Shared) (H : Hp) (L : Addr) (cl : List (Str × Addr)) (fp : List Addr) (B : Hp), DTs C B (X.blk s H scope (compEnvC scope cl L X.env) fp) ifs tt)
    (he : ∀ (s : Shared) (H : Hp) (L : Addr) (cl : List (Str × Addr)) (fp : List Addr) (B : Hp), DE C B (X.blk s H scope (compEnvC scope cl L X.env) fp) elt te) (his : ∀ i ∈ is, i ∈ own.map (·.2) := by decide) (hs : ∀ x, foldedSetIterable iter X.env x = pure x := by intro _; rfl) :
    DE C B X (.ListComp elt [⟨tg, iter, ifs, 0⟩] scope pos) (wLc fz wi g tt te (own.map (·.2))) := by
  have p := pe_lc (pos := pos) (g := fun v σ1 H1 Q1 => liftG X.K C H1 is g v σ1 H1 Q1) (tt := fun σ1 H1 Q1 => liftT X.K C H1 tt σ1 H1 Q1) (te := fun σ1 H1 Q1 => liftE X.K C H1 te σ1 H1 Q1) hc hN hi.pi ok (fun s H L cl fp => PGbase (hg s H L cl fp)) (fun s H L cl fp => PTsbase (ht s H L cl fp)) (fun s H L cl fp => PEbase (he s H L cl fp)) hs
  cases fz with
  | true => exact ⟨PEimp (PEfz p) fun σ H Q h => lift_lc his h⟩
  | false => exact ⟨PEimp p fun σ H Q h => lift_lc his h⟩
/-- y = [..] on one line, y a local -/
theorem ds_setLc (i : Nat) (fz : Bool) {y : Str} {py spos : Pos} {elt tg iter : Expr} {ifs : List Expr} {scope : Scope} (own : List (Str × Nat)) {wi : WI} {is : List Nat} {g : WG} {tt : WT} {te : WE} (hc : X.calm = true) (hN : X.N.Nodup) (ok : BlkOk X.N X.env.scope scope own) (hi : DI C B X tg iter wi)
    (hg : ∀ (s : Shared) (H : Hp) (L : Addr) (cl : List (Str × Addr)) (fp : List Addr) (B : Hp), DG C B (X.blk s H scope (compEnvC scope cl L X.env) fp) tg is g) (ht : ∀ (s : Shared) (H : Hp) (L : Addr) (cl : List (Str × Addr)) (fp : List Addr) (B : Hp), DTs C B (X.blk s H scope (compEnvC scope cl L X.env) fp) ifs tt)
    (he : ∀ (s : Shared) (H : Hp) (L : Addr) (cl : List (Str × Addr)) (fp : List Addr) (B : Hp), DE C B (X.blk s H scope (compEnvC scope cl L X.env) fp) elt te) (hsw : swapsWith (.ListComp elt [⟨tg, iter, ifs, 0⟩] scope pos) (some (.Name y py)) spos.line X.env = pure true) (hy : X.N[i]? = some y := by rfl) (hyl : X.env.scope.names.lookup y = some .local := by rfl)
    (his : ∀ i ∈ is, i ∈ own.map (·.2) := by decide) (hs : ∀ x, foldedSetIterable iter X.env x = pure x := by intro _; rfl) :
    DS C B X (.Assign [.Name y py] (.ListComp elt [⟨tg, iter, ifs, 0⟩] scope pos) spos) (wAsg (wLc fz wi g tt te (own.map (·.2))) (gSet i)) := by
  have p := ps_setLc (pos := pos) (g := fun v σ1 H1 Q1 => liftG X.K C H1 is g v σ1 H1 Q1) (tt := fun σ1 H1 Q1 => liftT X.K C H1 tt σ1 H1 Q1) (te := fun σ1 H1 Q1 => liftE X.K C H1 te σ1 H1 Q1) hc hN hy hyl hsw hi.pi ok (fun s H L cl fp => PGbase (hg s H L cl fp)) (fun s H L cl fp => PTsbase (ht s H L cl fp)) (fun s H L cl fp => PEbase (he s H L cl fp)) hs
  cases fz with
  | false => exact ⟨PSimp p fun D σ H ⟨E, S, Dd, st, h, c⟩ => lift_lc (fz := false) his ⟨E, S, _, st, h, fun d S1 v H1 e1 r1 s1 h1 => c.nx _ _ _ _ e1 ((st.ext e1 s1).set r1 i) h1⟩⟩
  | true =>
    refine ⟨⟨fun pins s σ H D I ⟨E, S, Dd, st, h, c⟩ => ?_⟩⟩
    have q := lift_lc (fz := true) (Q := fun x H1 => gName i x σ H1 D.nx) his ⟨E, S, _, st, h, fun d S1 v H1 e1 r1 s1 h1 => c.nx _ _ _ _ e1 ((st.ext e1 s1).set r1 i) h1⟩
    refine thn (p.run pins s σ H { D with nx := fun σ' H' => ∃ ZA xs, σ' = σ.set i (some (.ref ZA)) ∧ H' ZA = some (.lst xs) ∧ ∀ ob, D.nx σ' (upd H' ZA (.frz ob (.lst xs))) } I ?_) fun fl s' hq => ?_
    · refine tLc_mono q (fun x H1 hx => ?_) fun R R' hR => liftI_mono hR
      obtain ⟨ZA, xs, rfl, hz, hq⟩ := hx
      exact ⟨ZA, xs, rfl, hz, hq⟩
    · cases fl with
      | next =>
        obtain ⟨σ', H', I', ZA, xs, e, hz, hq⟩ := hq
        obtain ⟨ob, I2⟩ := inv_fz I' hz
        exact ⟨σ', _, I2, hq ob⟩
      | brk => exact hq
      | cont => exact hq
      | ret u => exact hq
end
end RL

namespace RL
open PySem PySem.Spec PyProof.Rows
open L2 hiding WE

/-! ### calls of built-ins -/
abbrev RCD := List D → Sto → KD → Prop
def wCB (r : RCD) (w : WA) : WE := fun E S Q => w E S fun ds S1 => r ds S1 Q
section
variable {C : Addr} {B : Hp} {X : Cx} {x : Str} {p pos : Pos} {e : Expr} {es : List Expr} {wa : WA} {r : RCD}
theorem lift_cb {σ : L2.St} {H : Hp} {Q : VK} (h : liftE X.K C B (wCB r wa) σ H Q) : tCB (liftC X.K C r) (liftA X.K C B wa) σ H Q := by
  obtain ⟨E, S, Qd, st, h, c⟩ := h
  exact ⟨E, S, _, st, h, fun ds S1 vs H1 e1 r1 s1 h1 => ⟨ds, S1, Qd, r1, s1, h1, c.mono e1⟩⟩
theorem de_callB {id : String} (hc : CallR X (.builtin id) (liftC X.K C r)) (hm : X.mg x = none) (hv : bootBuiltins x = some (.builtin id)) (ha : DA C B X (e :: es) wa) (hg : Gl X x := by rfl) (hn : x ≠ "__name__" := by decide) (hdb : (x == ("__debug__" : Str)) = false := by decide)
    (he : starEach (e :: es) X.env = (false, eval e X.env) :: starEach es X.env := by rfl) (hpl : (backTo pos (starEach es X.env)).any (·.1) = false := by rfl) : DE C B X (.Call (.Name x p) (e :: es) [] pos) (wCB r wa) :=
  ⟨PEimp (pe_callB hc hg hm hv ha.pa hn hdb he hpl) fun _ _ _ h => lift_cb h⟩
theorem de_callTy {T : String} (hc : CallR X (.type T) (liftC X.K C r)) (hm : X.mg x = none) (hv : bootBuiltins x = some (.type T)) (ha : DA C B X (e :: es) wa) (hg : Gl X x := by rfl) (hn : x ≠ "__name__" := by decide) (hdb : (x == ("__debug__" : Str)) = false := by decide)
    (he : starEach (e :: es) X.env = (false, eval e X.env) :: starEach es X.env := by rfl) (hpl : (backTo pos (starEach es X.env)).any (·.1) = false := by rfl) : DE C B X (.Call (.Name x p) (e :: es) [] pos) (wCB r wa) :=
  ⟨PEimp (pe_callTy hc hg hm hv ha.pa hn hdb he hpl) fun _ _ _ h => lift_cb h⟩
end
/-- one argument's content, as a list, and where it stands -/
theorem seq_rd {K : PySem.W.Frag} {C : Addr} {S : Sto} {H : Hp} {d : D} {ds : List D} {v : V} (sr : SR K C S H) (r : DR K C H d v) (h : seqD S d = some ds) : ∃ a xs, v = .ref a ∧ DRs K C H ds xs ∧ ((SqL K H a xs) ∨ SqT K H a xs) := by
  obtain ⟨a, xs, e, q, _, z⟩ := seqD_at sr r h
  rcases z with ⟨z, _⟩ | ⟨z, _⟩
  · exact ⟨a, xs, e, q, .inl (.inl z)⟩
  · exact ⟨a, xs, e, q, .inr z⟩
def dLen : RCD := fun ds S Q => match ds with
  | [.tup xs] => xs.length ≤ sizeLine → Q (.int xs.length) S
  | [.lst xs] => xs.length ≤ sizeLine → Q (.int xs.length) S
  | [.str z] => z.length ≤ sizeLine ∧ Q (.int z.length) S
  | [.ref p] => ∃ xs, S p = some (.lst xs) ∧ (xs.length ≤ sizeLine → Q (.int xs.length) S)
  | _ => False
def dList : RCD := fun ds S Q => match ds with
  | [.tup xs] => Q (.lst xs) S
  | [.lst xs] => Q (.lst xs) S
  | [.ref p] => ∃ xs, S p = some (.lst xs) ∧ Q (.lst xs) S
  | _ => False
def dListL : RCD := fun ds S Q => match ds with
  | [.tup xs] => ∀ q, S q = none → Q (.ref q) (S.put q (.lst xs))
  | [.lst xs] => ∀ q, S q = none → Q (.ref q) (S.put q (.lst xs))
  | [.ref p] => ∃ xs, S p = some (.lst xs) ∧ ∀ q, S q = none → Q (.ref q) (S.put q (.lst xs))
  | _ => False
def dTuple : RCD := fun ds S Q => match ds with
  | [.tup xs] => Q (.tup xs) S
  | [.lst xs] => Q (.tup xs) S
  | [.ref p] => ∃ xs, S p = some (.lst xs) ∧ Q (.tup xs) S
  | _ => False
def dSum : RCD := fun ds S Q => match ds with
  | [.lst xs] => ∃ ns : List Int, xs = ns.map D.int ∧ Q (.int ns.sum) S
  | [.ref p] => ∃ ns : List Int, S p = some (.lst (ns.map D.int)) ∧ Q (.int ns.sum) S
  | _ => False
def dAll : RCD := fun ds S Q => match ds with
  | [.lst xs] => ∃ bs : List Bool, xs = bs.map D.bl ∧ Q (.bl (bs.all id)) S
  | _ => False
def dAny : RCD := fun ds S Q => match ds with
  | [.lst xs] => ∃ bs : List Bool, xs = bs.map D.bl ∧ Q (.bl (bs.any id)) S
  | _ => False
def dMax2 : RCD := fun ds S Q => match ds with
  | [.int i, .int j] => Q (.int (if j > i then j else i)) S
  | _ => False
def dMin2 : RCD := fun ds S Q => match ds with
  | [.int i, .int j] => Q (.int (if j < i then j else i)) S
  | _ => False
def dAbs : RCD := fun ds S Q => match ds with
  | [.int i] => Q (.int (if i < 0 then -i else i)) S
  | _ => False
def dInt : RCD := fun ds S Q => match ds with
  | [.int i] => Q (.int i) S
  | [.bl k] => Q (.int (if k then 1 else 0)) S
  | _ => False
section
variable {C : Addr} {X : Cx}
theorem one_of {K : PySem.W.Frag} {H : Hp} {ds : List D} {vs : List V} {d : D} (e : ds = [d]) (r : DRs K C H ds vs) : ∃ v, vs = [v] ∧ DR K C H d v := by
  subst e
  cases r with
  | cons r t => cases t; exact ⟨_, rfl, r⟩
theorem two_of {K : PySem.W.Frag} {H : Hp} {ds : List D} {vs : List V} {d d2 : D} (e : ds = [d, d2]) (r : DRs K C H ds vs) : ∃ v v2, vs = [v, v2] ∧ DR K C H d v ∧ DR K C H d2 v2 := by
  subst e
  cases r with
  | cons r t =>
    cases t with
    | cons r2 t => cases t; exact ⟨_, _, rfl, r, r2⟩
theorem cd_len : CallR X (.builtin "len") (liftC X.K C dLen) := by
  rintro pins s σ H vs us Q I rv ⟨ds, S, Qd, rs, sr, h, c⟩
  rcases ds with _ | ⟨d, _ | ⟨d2, ds⟩⟩
  · exact False.elim h
  · obtain ⟨v, rfl, r⟩ := one_of rfl rs
    cases d <;> first | exact False.elim h | skip
    · cases r
      exact call_len_str pins s σ H _ us Q I rv ⟨_, rfl, h.1, c.now (.int _) sr h.2⟩
    · cases r
      obtain ⟨xs, h1, h2⟩ := h
      obtain ⟨ys, q1, q2, q3⟩ := sr.ob _ _ h1
      exact call_len_seq pins s σ H _ us Q I rv ⟨_, _, rfl, .inl (.inl (.inl q1)), by rw [← q2.length]; exact c.now (.int _) sr (h2 (by rw [q2.length]; exact q3))⟩
    · cases r with
      | tup a b z => exact call_len_seq pins s σ H _ us Q I rv ⟨_, _, rfl, .inr a, by rw [← b.length]; exact c.now (.int _) sr (h (by rw [b.length]; exact z))⟩
    · cases r with
      | lst a b z => exact call_len_seq pins s σ H _ us Q I rv ⟨_, _, rfl, .inl (.inl (.inr ⟨_, a⟩)), by rw [← b.length]; exact c.now (.int _) sr (h (by rw [b.length]; exact z))⟩
  · cases d <;> exact False.elim h
theorem cd_list : CallR X (.type "list") (liftC X.K C dList) := by
  rintro pins s σ H vs us Q I rv ⟨ds, S, Qd, rs, sr, h, c⟩
  rcases ds with _ | ⟨d, _ | ⟨d2, ds⟩⟩
  · exact False.elim h
  · obtain ⟨v, rfl, r⟩ := one_of rfl rs
    cases d <;> first | exact False.elim h | skip
    · cases r
      obtain ⟨xs, h1, h2⟩ := h
      obtain ⟨ys, q1, q2, q3⟩ := sr.ob _ _ h1
      exact CallRfz call_list_of pins s σ H _ us Q I rv ⟨_, _, rfl, .inl (.inl (.inl q1)), fun l hl => c.newZ hl q2 q3 sr h2⟩
    · cases r with
      | tup a b z => exact CallRfz call_list_of pins s σ H _ us Q I rv ⟨_, _, rfl, .inr a, fun l hl => c.newZ hl b z sr h⟩
    · cases r with
      | lst a b z => exact CallRfz call_list_of pins s σ H _ us Q I rv ⟨_, _, rfl, .inl (.inl (.inr ⟨_, a⟩)), fun l hl => c.newZ hl b z sr h⟩
  · cases d <;> exact False.elim h
theorem cd_listL : CallR X (.type "list") (liftC X.K C dListL) := by
  rintro pins s σ H vs us Q I rv ⟨ds, S, Qd, rs, sr, h, c⟩
  rcases ds with _ | ⟨d, _ | ⟨d2, ds⟩⟩
  · exact False.elim h
  · obtain ⟨v, rfl, r⟩ := one_of rfl rs
    cases d <;> first | exact False.elim h | skip
    · cases r
      obtain ⟨xs, h1, h2⟩ := h
      obtain ⟨ys, q1, q2, q3⟩ := sr.ob _ _ h1
      exact call_list_of pins s σ H _ us Q I rv ⟨_, _, rfl, .inl (.inl (.inl q1)), fun l hl => c.newL hl q2 q3 sr (h2 l (sr.none hl))⟩
    · cases r with
      | tup a b z => exact call_list_of pins s σ H _ us Q I rv ⟨_, _, rfl, .inr a, fun l hl => c.newL hl b z sr (h l (sr.none hl))⟩
    · cases r with
      | lst a b z => exact call_list_of pins s σ H _ us Q I rv ⟨_, _, rfl, .inl (.inl (.inr ⟨_, a⟩)), fun l hl => c.newL hl b z sr (h l (sr.none hl))⟩
  · cases d <;> exact False.elim h
theorem cd_tuple : CallR X (.type "tuple") (liftC X.K C dTuple) := by
  rintro pins s σ H vs us Q I rv ⟨ds, S, Qd, rs, sr, h, c⟩
  rcases ds with _ | ⟨d, _ | ⟨d2, ds⟩⟩
  · exact False.elim h
  · obtain ⟨v, rfl, r⟩ := one_of rfl rs
    cases d <;> first | exact False.elim h | skip
    · cases r
      obtain ⟨xs, h1, h2⟩ := h
      obtain ⟨ys, q1, q2, q3⟩ := sr.ob _ _ h1
      exact call_tuple_of pins s σ H _ us Q I rv ⟨_, _, rfl, .inl ⟨.inl (.inl q1), fun l hl => c.tup hl q2 q3 sr h2⟩⟩
    · cases r with
      | tup a b z => exact call_tuple_of pins s σ H _ us Q I rv ⟨_, _, rfl, .inr ⟨a, c.now (.tup a b z) sr h⟩⟩
    · cases r with
      | lst a b z => exact call_tuple_of pins s σ H _ us Q I rv ⟨_, _, rfl, .inl ⟨.inl (.inr ⟨_, a⟩), fun l hl => c.tup hl b z sr h⟩⟩
  · cases d <;> exact False.elim h
theorem cd_sum (hc : X.calm = true) : CallR X (.builtin "sum") (liftC X.K C dSum) := by
  rintro pins s σ H vs us Q I rv ⟨ds, S, Qd, rs, sr, h, c⟩
  rcases ds with _ | ⟨d, _ | ⟨d2, ds⟩⟩
  · exact False.elim h
  · obtain ⟨v, rfl, r⟩ := one_of rfl rs
    cases d <;> first | exact False.elim h | skip
    · cases r
      obtain ⟨ns, h1, h2⟩ := h
      obtain ⟨ys, q1, q2, q3⟩ := sr.ob _ _ h1
      have e2 := q2.ints
      subst e2
      exact cr_sum hc pins s σ H _ us Q I rv ⟨_, ns, rfl, .inl (.inl q1), c.now (.int _) sr h2⟩
    · cases r with
      | lst a b z =>
        obtain ⟨ns, e, h⟩ := h
        subst e
        have e2 := b.ints
        subst e2
        exact cr_sum hc pins s σ H _ us Q I rv ⟨_, ns, rfl, .inl (.inr ⟨_, a⟩), c.now (.int _) sr h⟩
  · cases d <;> exact False.elim h
theorem cd_all (hc : X.calm = true) : CallR X (.builtin "all") (liftC X.K C dAll) := by
  rintro pins s σ H vs us Q I rv ⟨ds, S, Qd, rs, sr, h, c⟩
  rcases ds with _ | ⟨d, _ | ⟨d2, ds⟩⟩
  · exact False.elim h
  · obtain ⟨v, rfl, r⟩ := one_of rfl rs
    cases d <;> first | exact False.elim h | skip
    cases r with
    | lst a b z =>
      obtain ⟨ns, e, h⟩ := h
      subst e
      have e2 := b.bls
      subst e2
      exact cr_all hc pins s σ H _ us Q I rv ⟨_, ns, rfl, .inl (.inr ⟨_, a⟩), c.now (.bl _) sr h⟩
  · cases d <;> exact False.elim h
theorem cd_any (hc : X.calm = true) : CallR X (.builtin "any") (liftC X.K C dAny) := by
  rintro pins s σ H vs us Q I rv ⟨ds, S, Qd, rs, sr, h, c⟩
  rcases ds with _ | ⟨d, _ | ⟨d2, ds⟩⟩
  · exact False.elim h
  · obtain ⟨v, rfl, r⟩ := one_of rfl rs
    cases d <;> first | exact False.elim h | skip
    cases r with
    | lst a b z =>
      obtain ⟨ns, e, h⟩ := h
      subst e
      have e2 := b.bls
      subst e2
      exact cr_any hc pins s σ H _ us Q I rv ⟨_, ns, rfl, .inl (.inr ⟨_, a⟩), c.now (.bl _) sr h⟩
  · cases d <;> exact False.elim h
theorem cd_max2 (hc : X.calm = true) : CallR X (.builtin "max") (liftC X.K C dMax2) := by
  rintro pins s σ H vs us Q I rv ⟨ds, S, Qd, rs, sr, h, c⟩
  rcases ds with _ | ⟨d, _ | ⟨d2, _ | ⟨d3, ds⟩⟩⟩
  · exact False.elim h
  · cases d <;> exact False.elim h
  · obtain ⟨v, v2, rfl, r, r2⟩ := two_of rfl rs
    cases d <;> first | exact False.elim h | skip
    cases d2 <;> first | exact False.elim h | skip
    cases r
    cases r2
    exact call_max2 hc pins s σ H _ us Q I rv ⟨_, _, rfl, c.now (.int _) sr h⟩
  · cases d <;> first | exact False.elim h | skip
    cases d2 <;> exact False.elim h
theorem cd_min2 (hc : X.calm = true) : CallR X (.builtin "min") (liftC X.K C dMin2) := by
  rintro pins s σ H vs us Q I rv ⟨ds, S, Qd, rs, sr, h, c⟩
  rcases ds with _ | ⟨d, _ | ⟨d2, _ | ⟨d3, ds⟩⟩⟩
  · exact False.elim h
  · cases d <;> exact False.elim h
  · obtain ⟨v, v2, rfl, r, r2⟩ := two_of rfl rs
    cases d <;> first | exact False.elim h | skip
    cases d2 <;> first | exact False.elim h | skip
    cases r
    cases r2
    exact call_min2 hc pins s σ H _ us Q I rv ⟨_, _, rfl, c.now (.int _) sr h⟩
  · cases d <;> first | exact False.elim h | skip
    cases d2 <;> exact False.elim h
theorem cd_abs : CallR X (.builtin "abs") (liftC X.K C dAbs) := by
  rintro pins s σ H vs us Q I rv ⟨ds, S, Qd, rs, sr, h, c⟩
  rcases ds with _ | ⟨d, _ | ⟨d2, ds⟩⟩
  · exact False.elim h
  · obtain ⟨v, rfl, r⟩ := one_of rfl rs
    cases d <;> first | exact False.elim h | skip
    cases r
    exact call_abs pins s σ H _ us Q I rv ⟨_, rfl, c.now (.int _) sr h⟩
  · cases d <;> exact False.elim h
theorem cd_int : CallR X (.type "int") (liftC X.K C dInt) := by
  rintro pins s σ H vs us Q I rv ⟨ds, S, Qd, rs, sr, h, c⟩
  rcases ds with _ | ⟨d, _ | ⟨d2, ds⟩⟩
  · exact False.elim h
  · obtain ⟨v, rfl, r⟩ := one_of rfl rs
    cases d <;> first | exact False.elim h | skip
    · cases r
      exact call_int1 pins s σ H _ us Q I rv (.inr ⟨_, rfl, c.now (.int _) sr h⟩)
    · cases r
      exact call_int1 pins s σ H _ us Q I rv (.inl ⟨_, rfl, c.now (.int _) sr h⟩)
  · cases d <;> exact False.elim h
end
/-! isinstance of data and built-in classes -/
def tyN : D → String
  | .non => "NoneType"
  | .bl _ => "bool"
  | .int _ => "int"
  | .str _ => "str"
  | .tup _ => "tuple"
  | .lst _ => "list"
  | _ => ""
def isT (d : D) (n : String) : Bool := tyN d == n || (n == "int" && tyN d == "bool")
def isData : D → Bool
  | .ty _ => false
  | .ref _ => false
  | .clk _ _ => false
  | .scr _ => false
  | _ => true
/-- the names of built-in classes -/
def tyNs : List D → Option (List String)
  | [] => some []
  | .ty n :: ds => (tyNs ds).map (n :: ·)
  | _ => none
def okT (n : String) : Bool := n == "list" || n == "tuple" || n == "int" || n == "bool" || n == "str"
def dIsi : RCD := fun ds S Q => match ds with
  | [d, c] => match c with
    | .ty n => (isData d = true ∧ okT n = true) ∧ Q (.bl (isT d n)) S
    | .tup cs => ∃ ns, (isData d = true ∧ tyNs cs = some ns ∧ ns.all okT = true) ∧ Q (.bl (ns.any (isT d))) S
    | _ => False
  | _ => False
theorem tyX_of {K : PySem.W.Frag} {C : Addr} {H : Hp} {d : D} {v : V} (h : isData d = true) (r : DR K C H d v) : TyX K H v (.type (tyN d)) := by
  cases r with
  | non => exact .base .non
  | bl b => exact .base (.bl b)
  | int i => exact .base (.int i)
  | str x => exact .base (.str x)
  | tup a b z =>
    rcases a with (a | ⟨o, a⟩) | ⟨o, its, n, k1, k2, _⟩
    · exact .base (.tup a)
    · exact .fTuple a
    · exact .kTuple k1 k2
  | lst a b z => exact .base (.frz a)
  | _ => cases h
theorem kit_isT {K : PySem.W.Frag} {d : D} {n : String} (h : isData d = true) (hn : okT n = true) : PySem.W.kitOne K (.type (tyN d)) (.type n) = some (isT d n) := by
  have key : kitB (tyN d) n = some (isT d n) := by
    have hn' : n = "list" ∨ n = "tuple" ∨ n = "int" ∨ n = "bool" ∨ n = "str" := by simpa [okT, or_assoc] using hn
    have k1 : ∀ m, m = "NoneType" ∨ m = "bool" ∨ m = "int" ∨ m = "str" ∨ m = "tuple" ∨ m = "list" → kitB m n = some (m == n || (n == "int" && m == "bool")) := by
      intro m hm
      rcases hm with rfl | rfl | rfl | rfl | rfl | rfl <;> rcases hn' with rfl | rfl | rfl | rfl | rfl <;> decide +kernel
    refine k1 (tyN d) ?_
    cases d <;> first | (cases h; done) | simp [tyN]
  exact kit_ty key
theorem kitAny_isT {K : PySem.W.Frag} {d : D} (h : isData d = true) : ∀ {ns : List String}, ns.all okT = true → PySem.W.kitAny K (.type (tyN d)) (ns.map Value.type) = some (ns.any (isT d))
  | [], _ => kitAny_nil
  | n :: ns, hn => by
    rw [List.all_cons, Bool.and_eq_true] at hn
    rw [List.map_cons, List.any_cons]
    refine kitAny_cons (kit_isT h hn.1) (fun e => ?_) fun e => by rw [e, Bool.true_or]
    rw [e, Bool.false_or]
    exact kitAny_isT h hn.2
theorem tyNs_vals {K : PySem.W.Frag} {C : Addr} {H : Hp} : ∀ {cs : List D} {vs : List V} {ns : List String}, tyNs cs = some ns → DRs K C H cs vs → vs = ns.map V.ty
  | [], vs, ns, e, r => by
    cases r
    cases e
    rfl
  | c :: cs, vs, ns, e, r => by
    cases c <;> first | (cases e; done) | skip
    rename_i n
    cases e2 : tyNs cs with
    | none => simp [tyNs, e2] at e
    | some ms =>
      have : ns = n :: ms := by simpa [tyNs, e2] using e.symm
      subst this
      cases r with
      | cons r t =>
        cases r
        rw [tyNs_vals e2 t]
        rfl
theorem clsV_tys : ∀ ns : List String, Paired ClsV (ns.map V.ty) (ns.map Value.type)
  | [] => .nil
  | n :: ns => .cons (.ty n) (clsV_tys ns)
theorem vals_tys : ∀ {ns : List String} {us : List Value}, Vals (ns.map V.ty) us → us = ns.map Value.type
  | [], us, h => by cases h; rfl
  | n :: ns, us, h => by
    cases h with
    | cons r t =>
      rw [vals_tys t]
      cases r
      rfl
theorem cd_isi {C : Addr} {X : Cx} : CallR X (.builtin "isinstance") (liftC X.K C dIsi) := by
  rintro pins s σ H vs us Q I rv ⟨ds, S, Qd, rs, sr, h, c⟩
  rcases ds with _ | ⟨d, _ | ⟨d2, _ | ⟨d3, ds⟩⟩⟩
  · exact False.elim h
  · exact False.elim h
  · obtain ⟨v, v2, rfl, r, r2⟩ := two_of rfl rs
    cases d2 <;> first | exact False.elim h | skip
    · cases r2
      exact call_isi pins s σ H _ us Q I rv ⟨_, _, _, _, _, rfl, .ty _, tyX_of h.1.1 r, kit_isT h.1.1 h.1.2, c.now (.bl _) sr h.2⟩
    · obtain ⟨ns, ⟨h1, h2, h3⟩, h⟩ := h
      cases r2 with
      | tup a b z =>
        have e := tyNs_vals h2 b
        subst e
        obtain ⟨u1, u2, rfl, q1, q2⟩ := vals2 rv
        cases (show u2 = Value.ref _ from q2)
        obtain ⟨P, Z, hP, hx⟩ := kit_of I q1 (tyX_of h1 r)
        obtain ⟨its, vv, ⟨⟨oc, od, dt, sl⟩, g1, g2, n, g3⟩, _⟩ := I.tuple a
        simp only at g2 g3
        subst g2 g3
        have e := vals_tys vv
        subst e
        exact PySem.W.kia_tup Z I.kIn hP g1 (kitAny_isT h1 h3) hx fun tk => ⟨.bl _, H, I.tok tk, rfl, c.now (.bl _) sr h⟩
  · exact False.elim h

/-! ### subscripts -/
def dIx : R2D := fun x y S Q => match x, y with
  | .tup ds, .int i => ∃ d, atI ds i = some d ∧ Q d S
  | .lst ds, .int i => ∃ d, atI ds i = some d ∧ Q d S
  | .ref p, .int i => ∃ ds, S p = some (.lst ds) ∧ ∃ d, atI ds i = some d ∧ Q d S
  | .str z, .int i => z.length ≤ sizeLine ∧ ∃ c, atI z.cps.toList i = some c ∧ Q (.str ⟨#[c]⟩) S
  | _, _ => False
theorem DRs.atI {K : PySem.W.Frag} {C : Addr} {H : Hp} {ds : List D} {vs : List V} {i : Int} {d : D} (r : DRs K C H ds vs) (h : L2.atI ds i = some d) : ∃ v, L2.atI vs i = some v ∧ DR K C H d v := by
  unfold L2.atI at h ⊢
  rw [r.length] at h
  cases e : ixN vs.length i with
  | none => rw [e] at h; cases h
  | some j =>
    rw [e] at h
    exact r.get h
section
variable {C : Addr} {B : Hp} {X : Cx} {pos : Pos} {a b : Expr} {wa wb : RL.WE}
theorem xd_ix : IxR X (lift2 X.K C dIx) := by
  rintro value slice pins s σ H x y v u Q I rx ry ⟨dx, dy, S, Qd, r1, r2, sr, h, c⟩ hp
  cases dx <;> cases dy <;> first | exact False.elim h | skip
  · cases r1; cases r2
    obtain ⟨h1, ch, h2, h3⟩ := h
    exact ix_str value slice pins s σ H _ _ v u Q I rx ry ⟨_, _, ch, rfl, rfl, h1, h2, c.now (.str _) sr h3⟩ hp
  · cases r1; cases r2
    obtain ⟨ds, h1, d, h2, h3⟩ := h
    obtain ⟨xs, q1, q2, q3⟩ := sr.ob _ _ h1
    obtain ⟨w, w1, w2⟩ := q2.atI h2
    exact ix_list value slice pins s σ H _ _ v u Q I rx ry ⟨_, _, _, w, rfl, rfl, .inl (.inl q1), w1, c.now w2 sr h3⟩ hp
  · cases r2
    cases r1 with
    | tup a b z =>
      obtain ⟨d, h2, h3⟩ := h
      obtain ⟨w, w1, w2⟩ := b.atI h2
      exact ix_tup value slice pins s σ H _ _ v u Q I rx ry ⟨_, _, _, w, rfl, rfl, a, w1, c.now w2 sr h3⟩ hp
  · cases r2
    cases r1 with
    | lst a b z =>
      obtain ⟨d, h2, h3⟩ := h
      obtain ⟨w, w1, w2⟩ := b.atI h2
      exact ix_list value slice pins s σ H _ _ v u Q I rx ry ⟨_, _, _, w, rfl, rfl, .inl (.inr ⟨_, a⟩), w1, c.now w2 sr h3⟩ hp
theorem de_ix (ha : DE C B X a wa) (hb : DE C B X b wb) (hs : PlainIx b := by exact fun _ _ => rfl) : DE C B X (.Subscript a b pos) (wBin dIx wa wb) :=
  ⟨PEimp (pe_ix xd_ix ha.pe hb.pe hs) fun _ _ _ h => lift_bin h⟩
end

/-! ### slices -/
abbrev WO := EV → Sto → (Option Int → Sto → Prop) → Prop
def liftO (K : PySem.W.Frag) (C : Addr) (B : Hp) (w : WO) : TO := fun σ H Q => ∃ E S Qd, Stt K C B E S σ H ∧ w E S Qd ∧ ∀ o S' H', Ext C H H' → SR K C S' H' → Qd o S' → Q o H'
structure DOp (C : Addr) (B : Hp) (X : Cx) (e : Option Expr) (w : WO) : Prop where
  po : PO X e (liftO X.K C B w)
def wNoPart : WO := fun _ S Q => Q none S
def wPart (w : RL.WE) : WO := fun E S Q => w E S fun d S1 => match d with
  | .int i => Q (some i) S1
  | _ => False
def cutD (ds : List D) (lo hi : Option Int) : List D := (ds.drop (HT.sIx ds.length 0 lo)).take (HT.sIx ds.length ds.length hi - HT.sIx ds.length 0 lo)
theorem DRs.cut {K : PySem.W.Frag} {C : Addr} {H : Hp} {ds : List D} {vs : List V} (r : DRs K C H ds vs) (lo hi : Option Int) : DRs K C H (cutD ds lo hi) (cutV vs lo hi) := by
  unfold cutD cutV
  rw [r.length]
  exact (r.drop _).take _
def dSl : D → Option Int → Option Int → Sto → KD → Prop := fun x lo hi S Q => match x with
  | .tup ds => Q (.tup (cutD ds lo hi)) S
  | .lst ds => Q (.lst (cutD ds lo hi)) S
  | .ref p => ∃ ds, S p = some (.lst ds) ∧ Q (.lst (cutD ds lo hi)) S
  | .str z => z.length ≤ sizeLine ∧ Q (.str (cutS z lo hi)) S
  | .scr ds => Q (.lst (cutD ds lo hi)) S
  | _ => False
def liftSl (K : PySem.W.Frag) (C : Addr) (r : D → Option Int → Option Int → Sto → KD → Prop) : V → Option Int → Option Int → Hp → VK → Prop := fun x lo hi H Q => ∃ dx S Qd, DR K C H dx x ∧ SR K C S H ∧ r dx lo hi S Qd ∧ Cl K C H Qd Q
theorem SlRfz {X : Cx} {r : V → Option Int → Option Int → Hp → VK → Prop} (p : SlR X r) : SlR X (fun x lo hi H Q => r x lo hi H (fzK Q)) := fun pins s σ H x v vl vu lo hi sl Q I a b c d q => by
  obtain ⟨T, id, h1, h2, h3⟩ := p pins s σ H x v vl vu lo hi sl _ I a b c d q
  exact ⟨T, id, h1, h2, thn h3 fun _ _ => ep_fz⟩
section
variable {C : Addr} {B : Hp} {X : Cx} {pos p2 : Pos} {e : Expr} {we : RL.WE} {lo hi : Option Expr} {wl wh : WO}
theorem do_none : DOp C B X none wNoPart := ⟨⟨fun pins s σ H Q I ⟨E, S, Qd, st, h, c⟩ => po_none.run pins s σ H Q I (c _ _ _ (Ext.refl C H) st.sr h)⟩⟩
theorem do_some (h : DE C B X e we) : DOp C B X (some e) (wPart we) := ⟨⟨fun pins s σ H Q I ⟨E, S, Qd, st, q, c⟩ => (po_some h.pe).run pins s σ H Q I ⟨E, S, _, st, q, fun d S1 v H1 e1 r1 s1 h1 => by
  cases d <;> first | exact False.elim h1 | skip
  cases r1
  exact ⟨_, rfl, c _ _ _ e1 s1 h1⟩⟩⟩⟩
theorem sd_sl : SlR X (liftSl X.K C dSl) := by
  rintro pins s σ H x v vl vu lo hi sl Q I rx i1 i2 i3 ⟨dx, S, Qd, r1, sr, h, c⟩
  cases dx <;> first | exact False.elim h | skip
  · cases r1
    exact sl_str pins s σ H _ v vl vu lo hi sl Q I rx i1 i2 i3 ⟨_, rfl, h.1, c.now (.str _) sr h.2⟩
  · cases r1
    obtain ⟨ds, h1, h2⟩ := h
    obtain ⟨xs, q1, q2, q3⟩ := sr.ob _ _ h1
    exact SlRfz sl_list pins s σ H _ v vl vu lo hi sl Q I rx i1 i2 i3 ⟨_, xs, rfl, .inl (.inl q1), fun p hp => c.newZ hp (q2.cut lo hi) (Nat.le_trans (cutV_length _ _ _) q3) sr h2⟩
  · cases r1 with
    | tup a b z =>
      rename_i ds ad xs
      refine sl_tupA pins s σ H _ v vl vu lo hi sl Q I rx i1 i2 i3 ⟨_, xs, rfl, a, fun e => ?_, fun _ p hp => c.tup hp (b.cut lo hi) (Nat.le_trans (cutV_length _ _ _) z) sr h⟩
      have : cutD ds lo hi = ds := by
        unfold cutD
        rw [b.length, e.1, e.2, List.drop_zero, Nat.sub_zero, List.take_of_length_le (by rw [b.length]; exact Nat.le_refl _)]
      have h : Qd (.tup (cutD ds lo hi)) S := h
      rw [this] at h
      exact c.now (.tup a b z) sr h
  · cases r1 with
    | lst a b z => exact SlRfz sl_list pins s σ H _ v vl vu lo hi sl Q I rx i1 i2 i3 ⟨_, _, rfl, .inl (.inr ⟨_, a⟩), fun p hp => c.newZ hp (b.cut lo hi) (Nat.le_trans (cutV_length _ _ _) z) sr h⟩
  · cases r1 with
    | scr a b =>
      obtain ⟨_, _, _, z⟩ := I.list a.sq
      exact SlRfz sl_list pins s σ H _ v vl vu lo hi sl Q I rx i1 i2 i3 ⟨_, _, rfl, a.sq, fun p hp => c.newZ hp (b.cut lo hi) (Nat.le_trans (cutV_length _ _ _) z) sr h⟩
def wSl (a : RL.WE) (l u : WO) : RL.WE := fun E S Q => a E S fun x S1 => l E S1 fun lo S2 => u E S2 fun hi S3 => dSl x lo hi S3 Q
theorem de_slice (he : DE C B X e we) (hl : DOp C B X lo wl) (hu : DOp C B X hi wh) : DE C B X (.Subscript e (.Slice lo hi none p2) pos) (wSl we wl wh) :=
  ⟨PEimp (pe_slice sd_sl he.pe hl.po hu.po) fun σ H Q ⟨E, S, Qd, st, h, c⟩ => ⟨E, S, _, st, h, fun x S1 v H1 e1 r1 s1 h1 => ⟨E, S1, _, st.ext e1 s1, h1, fun l S2 H2 e2 s2 h2 => ⟨E, S2, _, st.ext (e1.trans e2) s2, h2, fun u S3 H3 e3 s3 h3 => ⟨x, S3, Qd, (r1.ext e2).ext e3, s3, h3, ((c.mono e1).mono e2).mono e3⟩⟩⟩⟩⟩
/-- xs[::-1] of a list -/
def wRev (a : RL.WE) : RL.WE := fun E S Q => a E S fun x S1 => match x with
  | .lst ds => Q (.lst ds.reverse) S1
  | .ref p => ∃ ds, S1 p = some (.lst ds) ∧ Q (.lst ds.reverse) S1
  | _ => False
theorem DRs.rev {K : PySem.W.Frag} {C : Addr} {H : Hp} : ∀ {ds : List D} {vs : List V}, DRs K C H ds vs → DRs K C H ds.reverse vs.reverse
  | _, _, .nil => .nil
  | _, _, .cons r t => by
    rw [List.reverse_cons, List.reverse_cons]
    exact (DRs.rev t).app (.cons r .nil)
theorem de_rev {k : Nat} {p1 p2 p3 : Pos} (he : DE C B X e we) : DE C B X (.Subscript e (.Slice none none (some (.UnaryOp .USub (.Constant (.int 1) k p1) p2)) p3) pos) (wRev we) :=
  ⟨PEimp (PEfz (pe_revL he.pe)) fun σ H Q ⟨E, S, Qd, st, h, c⟩ => ⟨E, S, _, st, h, fun x S1 v H1 e1 r1 s1 h1 => by
    cases x <;> first | exact False.elim h1 | skip
    · cases r1
      obtain ⟨ds, h2, h3⟩ := h1
      obtain ⟨xs, q1, q2, q3⟩ := s1.ob _ _ h2
      exact ⟨_, xs, rfl, .inl (.inl q1), fun p hp => (c.mono e1).newZ hp q2.rev (by rw [List.length_reverse]; exact q3) s1 h3⟩
    · cases r1 with
      | lst a b z => exact ⟨_, _, rfl, .inl (.inr ⟨_, a⟩), fun p hp => (c.mono e1).newZ hp b.rev (by rw [List.length_reverse]; exact z) s1 h1⟩⟩⟩
end

/-! ### defs and their promises by content -/
/-- an exception: its class, its fields -/
structure Xn where
  cls : Addr
  fs : List (Str × D)
abbrev DSp := List D → Sto → KD → (Xn → Sto → Prop) → Prop
def RelF (K : PySem.W.Frag) (C : Addr) (H : Hp) : List (Str × D) → List (Str × V) → Prop
  | [], [] => True
  | (f, d) :: r, (g, v) :: t => f = g ∧ DR K C H d v ∧ RelF K C H r t
  | _, _ => False
theorem RelF.ext {K : PySem.W.Frag} {C : Addr} {H H' : Hp} (e : Ext C H H') : ∀ {fs : List (Str × D)} {vs : List (Str × V)}, RelF K C H fs vs → RelF K C H' fs vs
  | [], [], _ => trivial
  | (f, d) :: r, (g, v) :: t, h => ⟨h.1, h.2.1.ext e, RelF.ext e h.2.2⟩
  | [], _ :: _, h => h.elim
  | _ :: _, [], h => h.elim
def XR (K : PySem.W.Frag) (C : Addr) (H : Hp) (xn : Xn) (dd : Addr) : Prop := ∃ vs, H dd = some (.xd vs) ∧ RelF K C H xn.fs vs
def liftSp (K : PySem.W.Frag) (C : Addr) (sp : DSp) : Sp := fun vs H Q Ex => ∃ ds S Qd Xd, DRs K C H ds vs ∧ SR K C S H ∧ sp ds S Qd Xd ∧ Cl K C H Qd Q ∧
  ∀ xn S' dd H', Ext C H H' → SR K C S' H' → XR K C H' xn dd → Xd xn S' → Ex (.ref xn.cls) (some dd) H'
abbrev DOk (P : Program) (w : World) (K : PySem.W.Frag) (mg : Str → Option Value) (base : Heap) (C : Addr) (k : Nat) (f : Addr) (fd : FuncData) (ps : List Str) (sp : DSp) : Prop := FnOk P w K mg base (L2.CX P w) k f fd ps (liftSp K C sp)
/-- what is wanted, in a context, of an exception that leaves an expression -/
structure DX (C : Addr) (B : Hp) (X : Cx) (Xd : Xn → EV → Sto → Prop) : Prop where
  ex : ∃ W : WX, Takes X W ∧ ∀ xn E S σ H dd, Stt X.K C B E S σ H → XR X.K C H xn dd → Xd xn E S → W (.ref xn.cls) (some dd) σ H
def noX : Xn → EV → Sto → Prop := fun _ _ _ => False
theorem dx0 {C : Addr} {B : Hp} {X : Cx} : DX C B X noX := ⟨_, takes0, fun _ _ _ _ _ _ _ _ h => h⟩
section
variable {C : Addr} {B : Hp} {X : Cx} {k : Nat} {f : Addr} {fd : FuncData} {ps : List Str} {sp : DSp} {dvs : List D} {vvs : List V} {dus : List Value} {x : Str} {p pos : Pos} {e : Expr} {es : List Expr} {wa : WA} {Xd : Xn → EV → Sto → Prop}
def wCall (sp : DSp) (dvs : List D) (Xd : Xn → EV → Sto → Prop) (w : WA) : RL.WE := fun E S Q => w E S fun ds S1 => sp (ds ++ dvs) S1 Q fun xn S2 => Xd xn E S2
theorem de_call (F : DOk X.prog X.w X.K X.mg X.base C k f fd ps sp) (hr : Room k X.A) (hm : X.mg x = some (.ref f)) (hk : PySem.W.keepIn X.K (.ref f) = true) (hb : Binds X.K fd ps dus) (hd : Vals vvs dus) (hv : ∀ H, DRs X.K C H dvs vvs) (dx : DX C B X Xd) (ha : DA C B X (e :: es) wa) (hg : Gl X x := by rfl)
    (hdb : (x == ("__debug__" : Str)) = false := by decide) (he : starEach (e :: es) X.env = (false, eval e X.env) :: starEach es X.env := by rfl) (hpl : (backTo pos (starEach es X.env)).any (·.1) = false := by rfl) :
    DE C B X (.Call (.Name x p) (e :: es) [] pos) (wCall sp dvs Xd wa) := by
  obtain ⟨W, tk, hW⟩ := dx.ex
  refine ⟨PEimp (pe_callSD (E := L2.WE W) F hr hg hm hk hb hd (fun σ => passAt tk σ) ha.pa hdb he hpl) fun σ H Q ⟨E, S, Qd, st, h, c⟩ => ⟨E, S, _, st, h, fun ds S1 vs H1 e1 r1 s1 h1 => ?_⟩⟩
  refine ⟨ds ++ dvs, S1, Qd, _, r1.app (hv H1), s1, h1, c.mono e1, fun xn S' dd H' e2 s2 x2 q2 => ?_⟩
  exact hW xn E S' σ H' dd (st.ext (e1.trans e2) s2) x2 q2
end
/-- the store knows no less -/
def Sto.Le (S S' : Sto) : Prop := ∀ b o, S b = some o → S' b = some o
theorem Sto.Le.refl (S : Sto) : S.Le S := fun _ _ h => h
theorem Sto.Le.trans {S S1 S2 : Sto} (a : S.Le S1) (b : S1.Le S2) : S.Le S2 := fun p o h => b p o (a p o h)
theorem Sto.le_put {S : Sto} {p : Addr} {o : DO} (h : S p = none) : S.Le (S.put p o) := fun b u q => by
  rw [Sto.put_ne (fun z => by rw [z, h] at q; cases q)]
  exact q
theorem Sto.le_del {S S' : Sto} {p : Addr} (h : S.Le S') (hp : S p = none) : S.Le (S'.del p) := fun b u q => by
  rw [Sto.del_ne (fun z => by rw [z, hp] at q; cases q)]
  exact h b u q
/-- a wish that holds of a store that knows no more -/
def UpK (Q : KD) : KD := fun d S' => ∃ S, S.Le S' ∧ Q d S
def UpX (Q : Xn → Sto → Prop) : Xn → Sto → Prop := fun d S' => ∃ S, S.Le S' ∧ Q d S
theorem UpK.now {Q : KD} {d : D} {S : Sto} (h : Q d S) : UpK Q d S := ⟨S, Sto.Le.refl S, h⟩
theorem UpK.of {Q : KD} {d : D} {S S' : Sto} (l : S.Le S') (h : Q d S) : UpK Q d S' := ⟨S, l, h⟩
theorem Cl.up {K : PySem.W.Frag} {C : Addr} {H : Hp} {Qd : KD} {Q : VK} (c : Cl K C H Qd Q) : Cl K C H (UpK Qd) Q := fun d S' v H' e r sr ⟨S, l, q⟩ => c d S v H' e r (sr.sub l) q
def startD (n : Nat) (ds : List D) : EV := ds.map some ++ List.replicate (n - ds.length) none
theorem start_rel {K : PySem.W.Frag} {C : Addr} {S : Sto} {H : Hp} {N : List Str} {ds : List D} {vs : List V} (r : DRs K C H ds vs) (sr : SR K C S H) : Stt K C H (startD N.length ds) S (L2.start N vs) H := by
  refine ⟨Ext.refl C H, ?_, fun i d h => ?_, sr⟩
  · unfold startD L2.start
    rw [List.length_append, List.length_append, List.length_map, List.length_map, List.length_replicate, List.length_replicate, r.length]
  · unfold startD at h
    unfold L2.start
    by_cases hi : i < ds.length
    · rw [List.getElem?_append_left (by rw [List.length_map]; exact hi), List.getElem?_map] at h
      rw [List.getElem?_append_left (by rw [List.length_map, ← r.length]; exact hi), List.getElem?_map]
      cases e : ds[i]? with
      | none => rw [e] at h; cases h
      | some d' =>
        rw [e] at h
        have e3 : d' = d := by simpa using h
        subst e3
        obtain ⟨v, h1, h2⟩ := r.get e
        exact ⟨v, by rw [h1]; rfl, h2⟩
    · rw [List.getElem?_append_right (by rw [List.length_map]; omega)] at h
      rw [List.getElem?_replicate] at h
      split at h <;> cases h
/-- THE RULE for a def, by content -/
theorem dok_of {P : Program} {w : World} {K : PySem.W.Frag} {mg : Str → Option Value} {base : Heap} {C : Addr} {x qual : Str} {st : Stmt} {f : Addr} {fd : FuncData} {N ps : List Str} {k : Nat} {sp : DSp} (F : Fun K x qual st f fd) (S : FnScope N ps (defScope st)) (len : ∀ ds S Q Xd, sp ds S Q Xd → ds.length = ps.length)
    (hbody : ∀ (cdv : Value) (A : Around) (outer : List Env) (s : Shared) (B : Hp) (Ex : XK) (ds : List D) (S : Sto) (Q : KD) (Xd : Xn → Sto → Prop), Room k (A.deeper (envOfC qual (defScope st) s.heap.objs.size f cdv)) →
      DX C B (cxOf (L2.CX P w) P w K mg base N qual (defScope st) f cdv A outer s B Ex) (fun xn _ S' => UpX Xd xn S') → sp ds S Q Xd →
      ∃ t, DSs C B (cxOf (L2.CX P w) P w K mg base N qual (defScope st) f cdv A outer s B Ex) (defBody st) t ∧ t { nx := fun _ S' => UpK Q .non S', rt := UpK Q } (startD N.length ds) S) : DOk P w K mg base C (k + 1) f fd ps sp := by
  refine F.okX S (fun vs H Q E h => ?_) (fun cdv A outer s H vs Q Ex hr h => ?_)
  · obtain ⟨ds, S', Qd, Xd, r, sr, h, _⟩ := h
    rw [← r.length]
    exact len _ _ _ _ h
  · obtain ⟨ds, S', Qd, Xd, r, sr, h, c, cx⟩ := h
    have dx : DX C H (cxOf (L2.CX P w) P w K mg base N qual (defScope st) f cdv A outer s H Ex) (fun xn _ S' => UpX Xd xn S') :=
      ⟨_, takes_of rfl rfl rfl rfl, fun xn E S2 σ H2 dd st2 xr ⟨S3, l, q⟩ => cx xn S3 dd H2 st2.base (st2.sr.sub l) xr q⟩
    obtain ⟨t, ht, hq⟩ := hbody cdv A outer s H Ex ds S' Qd Xd hr dx h
    refine ⟨_, ht.pss, _, S', _, start_rel r sr, hq, ⟨fun E S2 σ H2 e2 st2 q => c.up _ _ _ _ e2 .non st2.sr q, c.up, fun _ _ _ _ _ _ q => q, fun _ _ _ _ _ _ q => q⟩⟩
/-- a def as its callers want it -/
structure Df (P : Program) (w : World) (K : PySem.W.Frag) (mg : Str → Option Value) (base : Heap) (C : Addr) (x : Str) (k : Nat) (ps : List Str) (sp : DSp) : Prop where
  ex : ∃ (f : Addr) (fd : FuncData), DOk P w K mg base C k f fd ps sp ∧ mg x = some (.ref f) ∧ PySem.W.keepIn K (.ref f) = true ∧ Binds K fd ps []
theorem de_callD {C : Addr} {B : Hp} {X : Cx} {k : Nat} {ps : List Str} {sp : DSp} {x : Str} {p pos : Pos} {e : Expr} {es : List Expr} {wa : WA} {Xd : Xn → EV → Sto → Prop} (d : Df X.prog X.w X.K X.mg X.base C x k ps sp) (hr : Room k X.A) (dx : DX C B X Xd) (ha : DA C B X (e :: es) wa) (hg : Gl X x := by rfl)
    (hdb : (x == ("__debug__" : Str)) = false := by decide) (he : starEach (e :: es) X.env = (false, eval e X.env) :: starEach es X.env := by rfl) (hpl : (backTo pos (starEach es X.env)).any (·.1) = false := by rfl) :
    DE C B X (.Call (.Name x p) (e :: es) [] pos) (wCall sp [] Xd wa) := by
  obtain ⟨f, fd, F, hm, hk, hb⟩ := d.ex
  exact de_call F hr hm hk hb (vvs := []) .nil (fun _ => .nil) dx ha hg hdb he hpl
end RL

namespace RL
open PySem PySem.Spec PyProof.Rows
open L2 hiding WE

/-! ### equality of plain contents -/
mutual
/-- plain: None, ints, texts, tuples and lists of such (no True, no False: these are equal to ints) -/
def nb : D → Bool
  | .non => true
  | .int _ => true
  | .str _ => true
  | .tup ds => nbs ds
  | .lst ds => nbs ds
  | _ => false
def nbs : List D → Bool
  | [] => true
  | d :: ds => nb d && nbs ds
end
mutual
theorem pur_of_nb : ∀ d : D, nb d = true → pur d = true
  | .non, _ => rfl
  | .int _, _ => rfl
  | .str _, _ => rfl
  | .tup ds, h => by rw [pur]; exact purs_of_nbs ds (by simpa [nb] using h)
  | .lst ds, h => by rw [pur]; exact purs_of_nbs ds (by simpa [nb] using h)
  | .bl _, h => by simp [nb] at h
  | .ty _, h => by simp [nb] at h
  | .ref _, h => by simp [nb] at h
  | .clk _ _, h => by simp [nb] at h
  | .scr _, h => by simp [nb] at h
theorem purs_of_nbs : ∀ ds : List D, nbs ds = true → purs ds = true
  | [], _ => rfl
  | d :: ds, h => by
    rw [nbs, Bool.and_eq_true] at h
    rw [purs, Bool.and_eq_true]
    exact ⟨pur_of_nb d h.1, purs_of_nbs ds h.2⟩
end
mutual
theorem eqv_refl : ∀ d : D, nb d = true → PyData.eqv (toPy d) (toPy d) = true
  | .non, _ => rfl
  | .int _, _ => by simp [toPy, PyData.eqv]
  | .str _, _ => by simp [toPy, PyData.eqv]
  | .tup ds, h => by rw [toPy, PyData.eqv]; exact eqvs_refl ds (by simpa [nb] using h)
  | .lst ds, h => by rw [toPy, PyData.eqv]; exact eqvs_refl ds (by simpa [nb] using h)
  | .bl _, h => by simp [nb] at h
  | .ty _, h => by simp [nb] at h
  | .ref _, h => by simp [nb] at h
  | .clk _ _, h => by simp [nb] at h
  | .scr _, h => by simp [nb] at h
theorem eqvs_refl : ∀ ds : List D, nbs ds = true → PyData.eqvAll (toPys ds) (toPys ds) = true
  | [], _ => rfl
  | d :: ds, h => by
    rw [nbs, Bool.and_eq_true] at h
    rw [toPys, PyData.eqvAll, Bool.and_eq_true]
    exact ⟨eqv_refl d h.1, eqvs_refl ds h.2⟩
end
mutual
theorem eqv_eq : ∀ d e : D, nb d = true → nb e = true → PyData.eqv (toPy d) (toPy e) = true → d = e
  | .non, e, _, h2, h => by
    cases e <;> first | rfl | (simp [nb] at h2; done) | (simp [toPy, PyData.eqv] at h; done)
  | .int _, e, _, h2, h => by
    cases e <;> first | (simp [nb] at h2; done) | (simp [toPy, PyData.eqv] at h; done) | skip
    simp [toPy, PyData.eqv] at h
    rw [h]
  | .str _, e, _, h2, h => by
    cases e <;> first | (simp [nb] at h2; done) | (simp [toPy, PyData.eqv] at h; done) | skip
    simp [toPy, PyData.eqv] at h
    rw [h]
  | .tup ds, e, h1, h2, h => by
    cases e <;> first | (simp [nb] at h2; done) | (simp [toPy, PyData.eqv] at h; done) | skip
    rename_i es
    rw [toPy, toPy, PyData.eqv] at h
    rw [eqvs_eq ds es (by simpa [nb] using h1) (by simpa [nb] using h2) h]
  | .lst ds, e, h1, h2, h => by
    cases e <;> first | (simp [nb] at h2; done) | (simp [toPy, PyData.eqv] at h; done) | skip
    rename_i es
    rw [toPy, toPy, PyData.eqv] at h
    rw [eqvs_eq ds es (by simpa [nb] using h1) (by simpa [nb] using h2) h]
  | .bl _, _, h, _, _ => by simp [nb] at h
  | .ty _, _, h, _, _ => by simp [nb] at h
  | .ref _, _, h, _, _ => by simp [nb] at h
  | .clk _ _, _, h, _, _ => by simp [nb] at h
  | .scr _, _, h, _, _ => by simp [nb] at h
theorem eqvs_eq : ∀ ds es : List D, nbs ds = true → nbs es = true → PyData.eqvAll (toPys ds) (toPys es) = true → ds = es
  | [], [], _, _, _ => rfl
  | [], e :: es, _, _, h => by simp [toPys, PyData.eqvAll] at h
  | d :: ds, [], _, _, h => by simp [toPys, PyData.eqvAll] at h
  | d :: ds, e :: es, h1, h2, h => by
    rw [nbs, Bool.and_eq_true] at h1 h2
    rw [toPys, toPys, PyData.eqvAll, Bool.and_eq_true] at h
    rw [eqv_eq d e h1.1 h2.1 h.1, eqvs_eq ds es h1.2 h2.2 h.2]
end
/-- plain, and not deeper than n -/
structure Ok (n : Nat) (d : D) : Prop where
  nb : nb d = true
  lay : (toPy d).canLay0 = true
  dep : (toPy d).depth ≤ n
theorem Ok.mono {m n : Nat} {d : D} (h : Ok m d) (l : m ≤ n) : Ok n d := ⟨h.nb, h.lay, Nat.le_trans h.dep l⟩
theorem Ok.int {n : Nat} (i : Int) : Ok n (.int i) := ⟨rfl, rfl, Nat.zero_le _⟩
theorem Ok.non {n : Nat} : Ok n .non := ⟨rfl, rfl, Nat.zero_le _⟩
theorem Ok.str {n : Nat} {x : Str} (h : PyData.strOk x = true) : Ok n (.str x) := ⟨rfl, h, Nat.zero_le _⟩
theorem ok_list {n : Nat} : ∀ {ds : List D}, (∀ d ∈ ds, Ok n d) → nbs ds = true ∧ PyData.canLayAll0 (toPys ds) = true ∧ PyData.depthAll (toPys ds) ≤ n
  | [], _ => ⟨rfl, rfl, Nat.zero_le _⟩
  | d :: ds, h => by
    obtain ⟨a, b, c⟩ := ok_list (n := n) (ds := ds) fun e he => h e (List.mem_cons_of_mem _ he)
    have z := h d List.mem_cons_self
    refine ⟨?_, ?_, ?_⟩
    · rw [nbs, z.nb, a]
      rfl
    · rw [toPys, PyData.canLayAll0, z.lay, b]
      rfl
    · rw [toPys, PyData.depthAll]
      exact Nat.max_le.mpr ⟨z.dep, c⟩
theorem Ok.tup {n : Nat} {ds : List D} (h : ∀ d ∈ ds, Ok n d) : Ok (n + 1) (.tup ds) := by
  obtain ⟨a, b, c⟩ := ok_list h
  exact ⟨by rw [RL.nb]; exact a, by rw [toPy, PyData.canLay0]; exact b, by rw [toPy, PyData.depth]; omega⟩
theorem Ok.lst {n : Nat} {ds : List D} (h : ∀ d ∈ ds, Ok n d) : Ok (n + 1) (.lst ds) := by
  obtain ⟨a, b, c⟩ := ok_list h
  exact ⟨by rw [RL.nb]; exact a, by rw [toPy, PyData.canLay0]; exact b, by rw [toPy, PyData.depth]; omega⟩
theorem Ok.okEq {n : Nat} {d : D} (h : Ok n d) (hn : n ≤ 64 := by decide) : okEq d = true := by
  unfold RL.okEq SeqAt.shaped
  rw [pur_of_nb d h.nb, h.lay, decide_eq_true (Nat.le_trans h.dep hn)]
  rfl
theorem eqD_self {n : Nat} {d : D} (h : Ok n d) : eqD d d = true := eqv_refl d h.nb
theorem eqD_ne {m n : Nat} {d e : D} (h : Ok m d) (h' : Ok n e) (ne : d ≠ e) : eqD d e = false := by
  cases q : eqD d e with
  | false => rfl
  | true => exact absurd (eqv_eq d e h.nb h'.nb q) ne
theorem see_data {S : Sto} {d : D} (h : nb d = true) : see S d = d := by cases d <;> first | rfl | (simp [nb] at h)
/-- == of plain contents -/
theorem dEq_of {m n : Nat} {x y : D} {S : Sto} {Q : KD} (hx : Ok m x) (hy : Ok n y) (h1 : x = y → Q (.bl true) S) (h2 : x ≠ y → Q (.bl false) S) (hm : m ≤ 64 := by decide) (hn : n ≤ 64 := by decide) : dEq x y S Q := by
  unfold dEq
  rw [see_data hx.nb, see_data hy.nb]
  refine ⟨⟨hx.okEq hm, hy.okEq hn⟩, ?_⟩
  by_cases e : x = y
  · subst e
    rw [eqD_self hx]
    exact h1 rfl
  · rw [eqD_ne hx hy e]
    exact h2 e
theorem dNe_of {m n : Nat} {x y : D} {S : Sto} {Q : KD} (hx : Ok m x) (hy : Ok n y) (h1 : x = y → Q (.bl false) S) (h2 : x ≠ y → Q (.bl true) S) (hm : m ≤ 64 := by decide) (hn : n ≤ 64 := by decide) : dNe x y S Q := by
  unfold dNe
  rw [see_data hx.nb, see_data hy.nb]
  refine ⟨⟨hx.okEq hm, hy.okEq hn⟩, ?_⟩
  by_cases e : x = y
  · subst e
    rw [eqD_self hx]
    exact h1 rfl
  · rw [eqD_ne hx hy e]
    exact h2 e
theorem dEq_int {i j : Int} {S : Sto} {Q : KD} (h1 : i = j → Q (.bl true) S) (h2 : i ≠ j → Q (.bl false) S) : dEq (.int i) (.int j) S Q :=
  dEq_of (m := 0) (n := 0) (.int i) (.int j) (fun e => h1 (by cases e; rfl)) fun e => h2 fun z => e (by rw [z])
theorem dNe_int {i j : Int} {S : Sto} {Q : KD} (h1 : i = j → Q (.bl false) S) (h2 : i ≠ j → Q (.bl true) S) : dNe (.int i) (.int j) S Q :=
  dNe_of (m := 0) (n := 0) (.int i) (.int j) (fun e => h1 (by cases e; rfl)) fun e => h2 fun z => e (by rw [z])

theorem if_true_bl {A B : Prop} : (if true = true then A else B) = A := if_pos rfl
theorem if_false_bl {A B : Prop} : (if false = true then A else B) = B := if_neg Bool.false_ne_true
/-! ### one step at a time: what an operation is on contents that are known -/
section
variable {S : Sto} {Q : KD} {i j : Int} {x y : Str} {xs ys ds : List D} {p : Addr} {d : D}
theorem dII_int {P : Int → Int → Prop} {g : Int → Int → D} : dII P g (.int i) (.int j) S Q = (P i j ∧ Q (g i j) S) := rfl
theorem dII0_int {g : Int → Int → D} : dII0 g (.int i) (.int j) S Q = Q (g i j) S := rfl
theorem dAdd_int : dAdd (.int i) (.int j) S Q = Q (.int (i + j)) S := rfl
theorem dAdd_str : dAdd (.str x) (.str y) S Q = (x.length + y.length ≤ sizeLine ∧ Q (.str (x ++ y)) S) := rfl
theorem dAdd_tup : dAdd (.tup xs) (.tup ys) S Q = (xs.length + ys.length ≤ sizeLine ∧ Q (.tup (xs ++ ys)) S) := rfl
theorem dAdd_lst : dAdd (.lst xs) (.lst ys) S Q = (xs.length + ys.length ≤ sizeLine ∧ Q (.lst (xs ++ ys)) S) := rfl
theorem dMul_int : dMul (.int i) (.int j) S Q = (CMulW i j ∧ Q (.int (i * j)) S) := rfl
theorem dMul_tup : dMul (.tup xs) (.int j) S Q = ((1 ≤ j ∧ j ≤ 1000 ∧ xs.length ≤ 1000 ∧ xs ≠ []) ∧ Q (.tup (List.replicate j.toNat xs).flatten) S) := rfl
theorem dMul_lst : dMul (.lst xs) (.int j) S Q = ((-(2 ^ 63) ≤ j ∧ j < 2 ^ 63 ∧ xs.length * j.toNat ≤ sizeLine) ∧ Q (.lst (List.replicate j.toNat xs).flatten) S) := rfl
theorem dNeg_int : dNeg (.int i) S Q = Q (.int (-i)) S := rfl
theorem dIs_non : dIs d .non S Q = Q (.bl (isNon d)) S := rfl
theorem dIsNot_non : dIsNot d .non S Q = Q (.bl (!isNon d)) S := rfl
theorem dLen_tup : dLen [.tup xs] S Q = (xs.length ≤ sizeLine → Q (.int xs.length) S) := rfl
theorem dLen_lst : dLen [.lst xs] S Q = (xs.length ≤ sizeLine → Q (.int xs.length) S) := rfl
theorem dLen_ref : dLen [.ref p] S Q = ∃ xs, S p = some (.lst xs) ∧ (xs.length ≤ sizeLine → Q (.int xs.length) S) := rfl
theorem dList_tup : dList [.tup xs] S Q = Q (.lst xs) S := rfl
theorem dList_lst : dList [.lst xs] S Q = Q (.lst xs) S := rfl
theorem dList_ref : dList [.ref p] S Q = ∃ xs, S p = some (.lst xs) ∧ Q (.lst xs) S := rfl
theorem dListL_tup : dListL [.tup xs] S Q = ∀ q, S q = none → Q (.ref q) (S.put q (.lst xs)) := rfl
theorem dListL_lst : dListL [.lst xs] S Q = ∀ q, S q = none → Q (.ref q) (S.put q (.lst xs)) := rfl
theorem dTuple_tup : dTuple [.tup xs] S Q = Q (.tup xs) S := rfl
theorem dTuple_lst : dTuple [.lst xs] S Q = Q (.tup xs) S := rfl
theorem dTuple_ref : dTuple [.ref p] S Q = ∃ xs, S p = some (.lst xs) ∧ Q (.tup xs) S := rfl
theorem dIx_tup : dIx (.tup ds) (.int i) S Q = ∃ d, atI ds i = some d ∧ Q d S := rfl
theorem dIx_lst : dIx (.lst ds) (.int i) S Q = ∃ d, atI ds i = some d ∧ Q d S := rfl
theorem dIx_ref : dIx (.ref p) (.int i) S Q = ∃ ds, S p = some (.lst ds) ∧ ∃ d, atI ds i = some d ∧ Q d S := rfl
theorem dSl_tup {lo hi : Option Int} : dSl (.tup ds) lo hi S Q = Q (.tup (cutD ds lo hi)) S := rfl
theorem dSl_lst {lo hi : Option Int} : dSl (.lst ds) lo hi S Q = Q (.lst (cutD ds lo hi)) S := rfl
theorem dSl_scr {lo hi : Option Int} : dSl (.scr ds) lo hi S Q = Q (.lst (cutD ds lo hi)) S := rfl
theorem dSl_ref {lo hi : Option Int} : dSl (.ref p) lo hi S Q = ∃ ds, S p = some (.lst ds) ∧ Q (.lst (cutD ds lo hi)) S := rfl
def subD : D → D → D → EV → Sto → (EV → Sto → Prop) → Prop := fun o ix d E S Q => match o, ix with
  | .ref p, .int k => ∃ ds j, S p = some (.lst ds) ∧ ixN ds.length k = some j ∧ Q E (S.put p (.lst (ds.set j d)))
  | _, _ => False
theorem gSub_eq {wo wi : RL.WE} {E : EV} {R : EV → Sto → Prop} : gSubD wo wi d E S R = wo E S fun o S1 => wi E S1 fun ix S2 => subD o ix d E S2 R := rfl
theorem subD_ref {E : EV} {R : EV → Sto → Prop} : subD (.ref p) (.int i) d E S R = ∃ ds j, S p = some (.lst ds) ∧ ixN ds.length i = some j ∧ R E (S.put p (.lst (ds.set j d))) := rfl
theorem dSum_lst : dSum [.lst xs] S Q = ∃ ns : List Int, xs = ns.map D.int ∧ Q (.int ns.sum) S := rfl
theorem dAll_lst : dAll [.lst xs] S Q = ∃ bs : List Bool, xs = bs.map D.bl ∧ Q (.bl (bs.all id)) S := rfl
theorem dAny_lst : dAny [.lst xs] S Q = ∃ bs : List Bool, xs = bs.map D.bl ∧ Q (.bl (bs.any id)) S := rfl
theorem dMax2_int : dMax2 [.int i, .int j] S Q = Q (.int (if j > i then j else i)) S := rfl
theorem dMin2_int : dMin2 [.int i, .int j] S Q = Q (.int (if j < i then j else i)) S := rfl
theorem dAbs_int : dAbs [.int i] S Q = Q (.int (if i < 0 then -i else i)) S := rfl
theorem dInt_int : dInt [.int i] S Q = Q (.int i) S := rfl
theorem dInt_bl {k : Bool} : dInt [.bl k] S Q = Q (.int (if k then 1 else 0)) S := rfl
def tstD : D → Sto → (Bool → Sto → Prop) → Prop := fun x S Q => match x with
  | .bl k => Q k S
  | _ => False
theorem wTest_eq {w : RL.WE} {E : EV} {R : Bool → Sto → Prop} : wTest w E S R = w E S fun x S1 => tstD x S1 R := rfl
theorem tstD_bl {k : Bool} {R : Bool → Sto → Prop} : tstD (.bl k) S R = R k S := rfl
def chnD (r : R2D) (y : D) (c : RL.WE) (E : EV) (z : D) (S : Sto) (Q : KD) : Prop := match z with
  | .bl k => if k = true then c E S fun w S4 => r y w S4 Q else Q (.bl false) S
  | _ => False
theorem wChain_eq {r r' : R2D} {a b c : RL.WE} {E : EV} : wChain r r' a b c E S Q = a E S fun x S1 => b E S1 fun y S2 => r x y S2 fun z S3 => chnD r' y c E z S3 Q := rfl
theorem chnD_bl {r : R2D} {c : RL.WE} {E : EV} {k : Bool} : chnD r d c E (.bl k) S Q = if k = true then c E S fun w S4 => r d w S4 Q else Q (.bl false) S := rfl
def andD (b : RL.WE) (E : EV) (x : D) (S : Sto) (Q : KD) : Prop := match x with
  | .bl k => if k = true then b E S Q else Q (.bl false) S
  | _ => False
def orD (b : RL.WE) (E : EV) (x : D) (S : Sto) (Q : KD) : Prop := match x with
  | .bl k => if k = true then Q (.bl true) S else b E S Q
  | _ => False
theorem wAndV_eq {a b : RL.WE} {E : EV} : wAndV a b E S Q = a E S fun x S1 => andD b E x S1 Q := rfl
theorem wOrV_eq {a b : RL.WE} {E : EV} : wOrV a b E S Q = a E S fun x S1 => orD b E x S1 Q := rfl
theorem andD_bl {b : RL.WE} {E : EV} {k : Bool} : andD b E (.bl k) S Q = if k = true then b E S Q else Q (.bl false) S := rfl
theorem orD_bl {b : RL.WE} {E : EV} {k : Bool} : orD b E (.bl k) S Q = if k = true then Q (.bl true) S else b E S Q := rfl
def notD (x : D) (S : Sto) (Q : KD) : Prop := match x with
  | .bl k => Q (.bl (!k)) S
  | _ => False
theorem wNotV_eq {a : RL.WE} {E : EV} : wNotV a E S Q = a E S fun x S1 => notD x S1 Q := rfl
theorem notD_bl {k : Bool} : notD (.bl k) S Q = Q (.bl (!k)) S := rfl
def parD (i j : Nat) (ds : List D) (E : EV) (S : Sto) (R : EV → Sto → Prop) : Prop := match ds with
  | [a, b] => R ((E.set i (some a)).set j (some b)) S
  | _ => False
theorem wPar_eq {i j : Nat} {w : WA} {Z : WEnds} {E : EV} : wPar i j w Z E S = w E S fun ds S1 => parD i j ds E S1 Z.nx := rfl
theorem parD_2 {i j : Nat} {a b : D} {E : EV} {R : EV → Sto → Prop} : parD i j [a, b] E S R = R ((E.set i (some a)).set j (some b)) S := rfl
def prtD (d : D) (S : Sto) (Q : Option Int → Sto → Prop) : Prop := match d with
  | .int i => Q (some i) S
  | _ => False
theorem wPart_eq {w : RL.WE} {E : EV} {R : Option Int → Sto → Prop} : wPart w E S R = w E S fun d S1 => prtD d S1 R := rfl
theorem prtD_int {R : Option Int → Sto → Prop} : prtD (.int i) S R = R (some i) S := rfl
def tupG (t : WGs) (d : D) (E : EV) (S : Sto) (Q : EV → Sto → Prop) : Prop := gTupD t d E S Q
theorem gTup_tup {t : WGs} {E : EV} {R : EV → Sto → Prop} : gTupD t (.tup ds) E S R = t ds E S R := rfl
theorem lenIs_eq {n : Nat} {t : WGs} {E : EV} {R : EV → Sto → Prop} : lenIs n t ds E S R = (ds.length = n ∧ t ds E S R) := rfl
theorem gsCons_cons {t : WG} {u : WGs} {E : EV} {R : EV → Sto → Prop} : gsCons t u (d :: ds) E S R = t d E S fun E1 S1 => u ds E1 S1 R := rfl
theorem gsNil_nil {E : EV} {R : EV → Sto → Prop} : gsNil [] E S R = R E S := rfl
def rg1D (ds : List D) (S : Sto) (R : List D → Option Addr → Sto → Prop) : Prop := match ds with
  | [.int j] => (-(2 ^ 62) ≤ j ∧ j < 2 ^ 62) ∧ R (rngD 0 j.toNat) none S
  | _ => False
def rg2D (ds : List D) (S : Sto) (R : List D → Option Addr → Sto → Prop) : Prop := match ds with
  | [.int i, .int j] => (-(2 ^ 62) ≤ i ∧ i < 2 ^ 62 ∧ -(2 ^ 62) ≤ j ∧ j < 2 ^ 62) ∧ R (rngD i (j - i).toNat) none S
  | _ => False
theorem wRng1_eq {w : WA} {E : EV} {R : List D → Option Addr → Sto → Prop} : wRng1 w E S R = w E S fun ds S1 => rg1D ds S1 R := rfl
theorem wRng2_eq {w : WA} {E : EV} {R : List D → Option Addr → Sto → Prop} : wRng2 w E S R = w E S fun ds S1 => rg2D ds S1 R := rfl
theorem rg1D_int {R : List D → Option Addr → Sto → Prop} : rg1D [.int j] S R = ((-(2 ^ 62) ≤ j ∧ j < 2 ^ 62) ∧ R (rngD 0 j.toNat) none S) := rfl
theorem rg2D_int {R : List D → Option Addr → Sto → Prop} : rg2D [.int i, .int j] S R = ((-(2 ^ 62) ≤ i ∧ i < 2 ^ 62 ∧ -(2 ^ 62) ≤ j ∧ j < 2 ^ 62) ∧ R (rngD i (j - i).toNat) none S) := rfl
def sqiD (d : D) (S : Sto) (R : List D → Option Addr → Sto → Prop) : Prop := match d with
  | .tup ds => ds.length ≤ sizeLine → R ds none S
  | .lst ds => ds.length ≤ sizeLine → R ds none S
  | .ref q => ∃ ds, S q = some (.lst ds) ∧ (ds.length ≤ sizeLine → R ds (some q) S)
  | _ => False
theorem wSeqI_eq {w : RL.WE} {E : EV} {R : List D → Option Addr → Sto → Prop} : wSeqI w E S R = w E S fun d S1 => sqiD d S1 R := rfl
theorem sqiD_tup {R : List D → Option Addr → Sto → Prop} : sqiD (.tup ds) S R = (ds.length ≤ sizeLine → R ds none S) := rfl
theorem sqiD_lst {R : List D → Option Addr → Sto → Prop} : sqiD (.lst ds) S R = (ds.length ≤ sizeLine → R ds none S) := rfl
theorem sqiD_ref {R : List D → Option Addr → Sto → Prop} : sqiD (.ref p) S R = ∃ ds, S p = some (.lst ds) ∧ (ds.length ≤ sizeLine → R ds (some p) S) := rfl
def zpD (ds : List D) (S : Sto) (R : List D → Option Addr → Sto → Prop) : Prop := match ds with
  | [.tup xs, .tup ys] => xs.length ≤ sizeLine ∧ ys.length ≤ sizeLine → R (zipD xs ys) none S
  | [.lst xs, .lst ys] => xs.length ≤ sizeLine ∧ ys.length ≤ sizeLine → R (zipD xs ys) none S
  | _ => False
theorem wZip_eq {w : WA} {E : EV} {R : List D → Option Addr → Sto → Prop} : wZip w E S R = w E S fun ds S1 => zpD ds S1 R := rfl
theorem zpD_tup {R : List D → Option Addr → Sto → Prop} : zpD [.tup xs, .tup ys] S R = (xs.length ≤ sizeLine ∧ ys.length ≤ sizeLine → R (zipD xs ys) none S) := rfl
theorem zpD_lst {R : List D → Option Addr → Sto → Prop} : zpD [.lst xs, .lst ys] S R = (xs.length ≤ sizeLine ∧ ys.length ≤ sizeLine → R (zipD xs ys) none S) := rfl
def rvD (x : D) (S : Sto) (Q : KD) : Prop := match x with
  | .lst ds => Q (.lst ds.reverse) S
  | .ref p => ∃ ds, S p = some (.lst ds) ∧ Q (.lst ds.reverse) S
  | _ => False
theorem wRev_eq {a : RL.WE} {E : EV} : wRev a E S Q = a E S fun x S1 => rvD x S1 Q := rfl
theorem rvD_lst : rvD (.lst ds) S Q = Q (.lst ds.reverse) S := rfl
theorem rvD_ref : rvD (.ref p) S Q = ∃ ds, S p = some (.lst ds) ∧ Q (.lst ds.reverse) S := rfl
end

theorem pow10 (k : Nat) (h : k ≤ 1000000 := by decide) : CPow 10 (k : Int) := ⟨Int.natCast_nonneg _, by omega, by decide⟩
theorem cutD_map {α : Type} (f : α → D) (xs : List α) (lo hi : Option Int) : cutD (xs.map f) lo hi = ((xs.drop (HT.sIx xs.length 0 lo)).take (HT.sIx xs.length xs.length hi - HT.sIx xs.length 0 lo)).map f := by
  unfold cutD
  rw [List.length_map, List.map_take, List.map_drop]
/-- xs[:k] -/
theorem cutD_to (ds : List D) (k : Nat) : cutD ds none (some (k : Int)) = ds.take k := by
  unfold cutD
  rw [HT.sIx_none, HT.sIx_nat, List.drop_zero, Nat.sub_zero]
  by_cases h : k ≤ ds.length
  · rw [Nat.min_eq_left h]
  · rw [Nat.min_eq_right (by omega), List.take_of_length_le (Nat.le_refl _), List.take_of_length_le (by omega)]
/-- xs[k:] -/
theorem cutD_from (ds : List D) (k : Nat) : cutD ds (some (k : Int)) none = ds.drop k := by
  unfold cutD
  rw [HT.sIx_none, HT.sIx_nat]
  by_cases h : k ≤ ds.length
  · rw [Nat.min_eq_left h, List.take_of_length_le (by rw [List.length_drop]; exact Nat.le_refl _)]
  · rw [Nat.min_eq_right (by omega), List.drop_eq_nil_of_le (Nat.le_refl _), List.drop_eq_nil_of_le (by omega), List.take_nil]
/-- xs[:-1] -/
theorem cutD_dropLast (ds : List D) : cutD ds none (some (-1)) = ds.dropLast := by
  unfold cutD
  rw [HT.sIx_none, List.drop_zero, Nat.sub_zero, List.dropLast_eq_take]
  have : HT.sIx ds.length ds.length (some (-1)) = ds.length - 1 := by
    show (if (-1 : Int) < 0 then ((-1 : Int) + (ds.length : Int)).toNat else min (-1 : Int).toNat ds.length) = _
    rw [if_pos (by decide)]
    omega
  rw [this]
/-- xs[-1:] -/
theorem cutD_last {ds : List D} {d : D} (h : ds.getLast? = some d) : cutD ds (some (-1)) none = [d] := by
  have hne : ds ≠ [] := fun z => by rw [z] at h; cases h
  have hl : 0 < ds.length := List.length_pos_iff.mpr hne
  unfold cutD
  have : HT.sIx ds.length 0 (some (-1)) = ds.length - 1 := by
    show (if (-1 : Int) < 0 then ((-1 : Int) + (ds.length : Int)).toNat else min (-1 : Int).toNat ds.length) = _
    rw [if_pos (by decide)]
    omega
  rw [this, HT.sIx_none, show ds.length - (ds.length - 1) = 1 by omega]
  rw [List.getLast?_eq_getElem?] at h
  obtain ⟨hlt, e⟩ := List.getElem?_eq_some_iff.mp h
  rw [List.drop_eq_getElem_cons hlt, e]
  rfl
theorem atI_neg1 {ds : List D} {d : D} (h : ds.getLast? = some d) : atI ds (-1) = some d := by
  have hne : ds ≠ [] := fun z => by rw [z] at h; cases h
  obtain ⟨ys, e⟩ : ∃ ys, ds = ys ++ [d] := ⟨ds.dropLast, by
    obtain ⟨_, z⟩ := List.getLast?_eq_some_iff.mp h
    rw [z, List.dropLast_concat]⟩
  rw [e]
  exact atI_last ys d
theorem zipD_self : ∀ xs : List D, zipD xs xs = xs.map fun x => .tup [x, x]
  | [] => rfl
  | x :: xs => by
    show D.tup [x, x] :: zipD xs xs = _
    rw [zipD_self xs]
    rfl
mutual
theorem eqv_refl' : ∀ d : D, pur d = true → PyData.eqv (toPy d) (toPy d) = true
  | .non, _ => rfl
  | .bl _, _ => by simp [toPy, PyData.eqv]
  | .int _, _ => by simp [toPy, PyData.eqv]
  | .str _, _ => by simp [toPy, PyData.eqv]
  | .tup ds, h => by rw [toPy, PyData.eqv]; exact eqvs_refl' ds (by simpa [pur] using h)
  | .lst ds, h => by rw [toPy, PyData.eqv]; exact eqvs_refl' ds (by simpa [pur] using h)
  | .ty _, h => by simp [pur] at h
  | .ref _, h => by simp [pur] at h
  | .clk _ _, h => by simp [pur] at h
  | .scr _, h => by simp [pur] at h
theorem eqvs_refl' : ∀ ds : List D, purs ds = true → PyData.eqvAll (toPys ds) (toPys ds) = true
  | [], _ => rfl
  | d :: ds, h => by
    rw [purs, Bool.and_eq_true] at h
    rw [toPys, PyData.eqvAll, Bool.and_eq_true]
    exact ⟨eqv_refl' d h.1, eqvs_refl' ds h.2⟩
end
/-- data of a depth below n (True and False too) -/
structure Dat (n : Nat) (d : D) : Prop where
  pur : pur d = true
  lay : (toPy d).canLay0 = true
  dep : (toPy d).depth < n
theorem Ok.dat {n : Nat} {d : D} (h : Ok n d) : Dat (n + 1) d := ⟨pur_of_nb d h.nb, h.lay, Nat.lt_succ_of_le h.dep⟩
theorem Dat.okEq {n : Nat} {d : D} (h : Dat n d) (hn : n ≤ 65 := by omega) : okEq d = true := by
  unfold RL.okEq SeqAt.shaped
  rw [h.pur, h.lay, decide_eq_true (by have := h.dep; omega)]
  rfl
theorem see_pur {S : Sto} {d : D} (h : pur d = true) : see S d = d := by cases d <;> first | rfl | (simp [pur] at h)
theorem dEq_self {n : Nat} {d : D} {S : Sto} {Q : KD} (h : Dat n d) (q : Q (.bl true) S) (hn : n ≤ 65 := by omega) : dEq d d S Q := by
  unfold dEq
  rw [see_pur h.pur]
  refine ⟨⟨h.okEq hn, h.okEq hn⟩, ?_⟩
  rw [show eqD d d = true from eqv_refl' d h.pur]
  exact q
theorem dNe_self {n : Nat} {d : D} {S : Sto} {Q : KD} (h : Dat n d) (q : Q (.bl false) S) (hn : n ≤ 65 := by omega) : dNe d d S Q := by
  unfold dNe
  rw [see_pur h.pur]
  refine ⟨⟨h.okEq hn, h.okEq hn⟩, ?_⟩
  rw [show eqD d d = true from eqv_refl' d h.pur]
  exact q
theorem Dat.bl {n : Nat} (b : Bool) : Dat (n + 1) (.bl b) := ⟨rfl, rfl, Nat.succ_pos n⟩
theorem dat_list {n : Nat} : ∀ {ds : List D}, purs ds = true → PyData.canLayAll0 (toPys ds) = true → PyData.depthAll (toPys ds) < n → ∀ d ∈ ds, Dat n d
  | [], _, _, _ => fun d h => by cases h
  | e :: es, h1, h2, h3 => fun d hd => by
    rw [purs, Bool.and_eq_true] at h1
    rw [toPys, PyData.canLayAll0, Bool.and_eq_true] at h2
    rw [toPys, PyData.depthAll] at h3
    have a := Nat.max_lt.mp h3
    rcases List.mem_cons.mp hd with rfl | hd
    · exact ⟨h1.1, h2.1, a.1⟩
    · exact dat_list h1.2 h2.2 a.2 d hd
theorem Dat.tups {n : Nat} {ds : List D} (h : Dat (n + 1) (.tup ds)) : ∀ d ∈ ds, Dat n d := by
  have h1 := h.pur
  have h2 := h.lay
  have h3 := h.dep
  rw [RL.pur] at h1
  rw [toPy, PyData.canLay0] at h2
  rw [toPy, PyData.depth] at h3
  exact dat_list h1 h2 (by omega)
theorem Dat.lsts {n : Nat} {ds : List D} (h : Dat (n + 1) (.lst ds)) : ∀ d ∈ ds, Dat n d := by
  have h1 := h.pur
  have h2 := h.lay
  have h3 := h.dep
  rw [RL.pur] at h1
  rw [toPy, PyData.canLay0] at h2
  rw [toPy, PyData.depth] at h3
  exact dat_list h1 h2 (by omega)
theorem DRs.small {K : PySem.W.Frag} {C : Addr} {H : Hp} {ds : List D} {vs : List V} (r : DRs K C H ds vs) (h : vs.length ≤ sizeLine) : ds.length ≤ sizeLine := by rw [r.length]; exact h

/-! isinstance, case by case -/
theorem isT_non_list  : isT .non "list" = false := by simp [isT, tyN]
theorem isT_non_tuple  : isT .non "tuple" = false := by simp [isT, tyN]
theorem isT_non_int  : isT .non "int" = false := by simp [isT, tyN]
theorem isT_non_bool  : isT .non "bool" = false := by simp [isT, tyN]
theorem isT_non_str  : isT .non "str" = false := by simp [isT, tyN]
theorem isData_non  : isData .non = true := rfl
theorem isT_bl_list {b : Bool} : isT (.bl b) "list" = false := by simp [isT, tyN]
theorem isT_bl_tuple {b : Bool} : isT (.bl b) "tuple" = false := by simp [isT, tyN]
theorem isT_bl_int {b : Bool} : isT (.bl b) "int" = true := by simp [isT, tyN]
theorem isT_bl_bool {b : Bool} : isT (.bl b) "bool" = true := by simp [isT, tyN]
theorem isT_bl_str {b : Bool} : isT (.bl b) "str" = false := by simp [isT, tyN]
theorem isData_bl {b : Bool} : isData (.bl b) = true := rfl
theorem isT_int_list {i : Int} : isT (.int i) "list" = false := by simp [isT, tyN]
theorem isT_int_tuple {i : Int} : isT (.int i) "tuple" = false := by simp [isT, tyN]
theorem isT_int_int {i : Int} : isT (.int i) "int" = true := by simp [isT, tyN]
theorem isT_int_bool {i : Int} : isT (.int i) "bool" = false := by simp [isT, tyN]
theorem isT_int_str {i : Int} : isT (.int i) "str" = false := by simp [isT, tyN]
theorem isData_int {i : Int} : isData (.int i) = true := rfl
theorem isT_str_list {x : Str} : isT (.str x) "list" = false := by simp [isT, tyN]
theorem isT_str_tuple {x : Str} : isT (.str x) "tuple" = false := by simp [isT, tyN]
theorem isT_str_int {x : Str} : isT (.str x) "int" = false := by simp [isT, tyN]
theorem isT_str_bool {x : Str} : isT (.str x) "bool" = false := by simp [isT, tyN]
theorem isT_str_str {x : Str} : isT (.str x) "str" = true := by simp [isT, tyN]
theorem isData_str {x : Str} : isData (.str x) = true := rfl
theorem isT_tup_list {ds : List D} : isT (.tup ds) "list" = false := by simp [isT, tyN]
theorem isT_tup_tuple {ds : List D} : isT (.tup ds) "tuple" = true := by simp [isT, tyN]
theorem isT_tup_int {ds : List D} : isT (.tup ds) "int" = false := by simp [isT, tyN]
theorem isT_tup_bool {ds : List D} : isT (.tup ds) "bool" = false := by simp [isT, tyN]
theorem isT_tup_str {ds : List D} : isT (.tup ds) "str" = false := by simp [isT, tyN]
theorem isData_tup {ds : List D} : isData (.tup ds) = true := rfl
theorem isT_lst_list {ds : List D} : isT (.lst ds) "list" = true := by simp [isT, tyN]
theorem isT_lst_tuple {ds : List D} : isT (.lst ds) "tuple" = false := by simp [isT, tyN]
theorem isT_lst_int {ds : List D} : isT (.lst ds) "int" = false := by simp [isT, tyN]
theorem isT_lst_bool {ds : List D} : isT (.lst ds) "bool" = false := by simp [isT, tyN]
theorem isT_lst_str {ds : List D} : isT (.lst ds) "str" = false := by simp [isT, tyN]
theorem isData_lst {ds : List D} : isData (.lst ds) = true := rfl
theorem isNon_non  : isNon .non = true := rfl
theorem isNon_bl {b : Bool} : isNon (.bl b) = false := rfl
theorem isNon_int {i : Int} : isNon (.int i) = false := rfl
theorem isNon_str {x : Str} : isNon (.str x) = false := rfl
theorem isNon_tup {ds : List D} : isNon (.tup ds) = false := rfl
theorem isNon_lst {ds : List D} : isNon (.lst ds) = false := rfl
theorem isNon_ref {a : Addr} : isNon (.ref a) = false := rfl
theorem isNon_clk {h c : List D} : isNon (.clk h c) = false := rfl
theorem okT_list : okT "list" = true := by simp [okT]
theorem okT_tuple : okT "tuple" = true := by simp [okT]
theorem okT_int : okT "int" = true := by simp [okT]
theorem okT_bool : okT "bool" = true := by simp [okT]
theorem okT_str : okT "str" = true := by simp [okT]
theorem dIsi_ty {d : D} {n : String} {S : Sto} {Q : KD} : dIsi [d, .ty n] S Q = ((isData d = true ∧ okT n = true) ∧ Q (.bl (isT d n)) S) := rfl
theorem dIsi_2 {d : D} {m n : String} {S : Sto} {Q : KD} : dIsi [d, .tup [.ty m, .ty n]] S Q = ((isData d = true ∧ okT m = true ∧ okT n = true) ∧ Q (.bl (isT d m || isT d n)) S) := by
  refine propext ⟨fun ⟨ns, ⟨h1, h2, h3⟩, q⟩ => ?_, fun ⟨⟨h1, h2, h3⟩, q⟩ => ⟨[m, n], ⟨h1, rfl, by simp [h2, h3]⟩, ?_⟩⟩
  · have e : ns = [m, n] := by simpa [tyNs] using h2.symm
    subst e
    simp only [List.all_cons, List.all_nil, Bool.and_true, Bool.and_eq_true] at h3
    refine ⟨⟨h1, h3.1, h3.2⟩, ?_⟩
    simpa using q
  · simpa using q

/-! ### ranges and loops -/
theorem rngD_nil (lo : Int) : rngD lo 0 = [] := rfl
theorem rngD_cons (lo : Int) (n : Nat) : rngD lo (n + 1) = .int lo :: rngD (lo + 1) n := by
  unfold rngD
  rw [List.range_succ_eq_map, List.map_cons, List.map_map]
  congr 1
  · simp
  · apply List.map_congr_left
    intro i _
    simp only [Function.comp]
    congr 1
    omega
/-- a comprehension whose element leaves the store as it is -/
theorem lc_pure {g : WG} {tt : WT} {te : RL.WE} {E : EV} {all : List D} {Z : Addr} {Q : Sto → Prop} (f : D → D) (keep : D → Bool) :
    ∀ (ds acc : List D) (S : Sto), acc.length + ds.length ≤ sizeLine →
      (∀ d ∈ ds, ∀ (S : Sto) (K1 : KD) (K0 : Sto → Prop), (keep d = true → K1 (f d) S) → (keep d = false → K0 S) → g d E S fun E2 S2 => tt E2 S2 fun b S3 => if b = true then te E2 S3 K1 else K0 S3) →
      Q (S.put Z (.lst (acc ++ (ds.filter keep).map f))) → wLcL g tt te E none all Z Q ds acc (S.put Z (.lst acc))
  | [], acc, S, _, _, h => ⟨trivial, Sto.put_same, by simpa using h⟩
  | d :: ds, acc, S, hl, hs, h => by
    refine ⟨trivial, hs d List.mem_cons_self _ _ _ (fun hk => ?_) fun hk => ?_⟩
    · refine ⟨Sto.put_same, by simp only [List.length_cons] at hl; omega, ?_⟩
      rw [Sto.put_put]
      refine lc_pure f keep ds _ S (by rw [List.length_append]; simp only [List.length_cons, List.length_nil] at hl ⊢; omega) (fun e he => hs e (List.mem_cons_of_mem _ he)) ?_
      rw [List.filter_cons_of_pos hk, List.map_cons] at h
      rw [List.append_assoc]
      exact h
    · refine lc_pure f keep ds _ S (by simp only [List.length_cons] at hl; omega) (fun e he => hs e (List.mem_cons_of_mem _ he)) ?_
      rwa [List.filter_cons_of_neg (by rw [hk]; decide)] at h
/-- [f(d) for d in ds], locked -/
theorem lc_map {g : WG} {te : RL.WE} {E : EV} {all : List D} {Q : KD} {S : Sto} (f : D → D) {ds : List D} (hl : ds.length ≤ sizeLine) (hs : ∀ d ∈ ds, ∀ (S : Sto) (K1 : KD), K1 (f d) S → g d E S fun E2 S2 => te E2 S2 K1) (h : Q (.lst (ds.map f)) S) :
    ∀ Z, S Z = none → wLcL g wYes te E none all Z (fun S2 => asF Z S2 Q) ds [] (S.put Z (.lst [])) := fun Z hZ => by
  refine lc_pure f (fun _ => true) ds [] S (by simpa using hl) (fun d hd S K1 K0 h1 _ => ?_) ?_
  · exact hs d hd S K1 (h1 rfl)
  · intro acc ha
    rw [Sto.put_same] at ha
    cases ha
    rw [Sto.del_put hZ, List.nil_append, List.filter_eq_self.mpr fun _ _ => rfl]
    exact h
/-- a comprehension with a state: P by the turn, what is made so far, and the store without the new list -/
theorem lc_inv {g : WG} {te : RL.WE} {E : EV} {all : List D} {Q : KD} (P : List D → Sto → Prop) : ∀ {ds : List D} {acc : List D} {S : Sto} {Z : Addr}, acc.length + ds.length ≤ sizeLine → S Z = none → P acc S →
    (∀ (d : D) (acc : List D) (S : Sto), d ∈ ds → P acc S → ∀ (o : DO) (K1 : KD), S Z = none → (∀ y S', S' Z = none → P (acc ++ [y]) S' → K1 y (S'.put Z o)) → g d E (S.put Z o) fun E2 S2 => te E2 S2 K1) →
    (∀ acc' S', acc'.length = acc.length + ds.length → P acc' S' → Q (.lst acc') S') → wLcL g wYes te E none all Z (fun S2 => asF Z S2 Q) ds acc (S.put Z (.lst acc))
  | [], acc, S, Z, _, hZ, hP, _, h => ⟨trivial, Sto.put_same, fun a ha => by
    rw [Sto.put_same] at ha
    cases ha
    rw [Sto.del_put hZ]
    exact h acc S rfl hP⟩
  | d :: ds, acc, S, Z, hl, hZ, hP, hs, h => by
    refine ⟨trivial, hs d acc S List.mem_cons_self hP (.lst acc) _ hZ fun y S' hZ' hP' => ⟨Sto.put_same, by simp only [List.length_cons] at hl; omega, ?_⟩⟩
    rw [Sto.put_put]
    refine lc_inv P (by rw [List.length_append]; simp only [List.length_cons, List.length_nil] at hl ⊢; omega) hZ' hP' (fun d' acc' S'' hd => hs d' acc' S'' (List.mem_cons_of_mem _ hd)) fun a2 S2 hl2 hP2 => h a2 S2 (by rw [hl2, List.length_append]; simp only [List.length_cons, List.length_nil]; omega) hP2
/-- a loop by what holds ahead of the rest of its items -/
theorem forL_rule {g : WG} {tb : WS} {src : Option Addr} {all : List D} {Z : WEnds} (P : List D → EV → Sto → Prop)
    (hs : ∀ d rest E S, P (d :: rest) E S → srcOk src all S ∧ ∀ nx : EV → Sto → Prop, (∀ E S, P rest E S → nx E S) → g d E S fun E1 S1 => tb { Z with nx := nx, ct := nx, bk := Z.nx } E1 S1)
    (h0 : ∀ E S, P [] E S → srcOk src all S ∧ Z.nx E S) : ∀ ds E S, P ds E S → wForL g tb src all Z ds E S
  | [], E, S, h => h0 E S h
  | d :: ds, E, S, h => ⟨(hs d ds E S h).1, (hs d ds E S h).2 _ fun E' S' h' => forL_rule P hs h0 ds E' S' h'⟩
theorem forL_range {g : WG} {tb : WS} {all : List D} {Z : WEnds} (P : Int → EV → Sto → Prop) : ∀ (n : Nat) (lo : Int)
    (hs : ∀ i E S, lo ≤ i → i < lo + n → P i E S → ∀ nx : EV → Sto → Prop, (∀ E S, P (i + 1) E S → nx E S) → g (.int i) E S fun E1 S1 => tb { Z with nx := nx, ct := nx, bk := Z.nx } E1 S1)
    (h0 : ∀ E S, P (lo + n) E S → Z.nx E S) (E : EV) (S : Sto), P lo E S → wForL g tb none all Z (rngD lo n) E S
  | 0, lo, _, h0, E, S, h => ⟨trivial, h0 E S (by simpa using h)⟩
  | n + 1, lo, hs, h0, E, S, h => by
    rw [rngD_cons]
    refine ⟨trivial, hs lo E S (Int.le_refl _) (by omega) h _ fun E' S' h' => ?_⟩
    refine forL_range P n (lo + 1) (fun i E S h1 h2 => hs i E S (by omega) (by omega)) (fun E S hp => h0 E S ?_) E' S' h'
    have e : lo + 1 + (n : Int) = lo + ((n + 1 : Nat) : Int) := by omega
    rw [← e]
    exact hp
/-! ### the end of a law -/
theorem fz_of {K : PySem.W.Frag} {H : Hp} {a : Addr} {xs : List V} (o : Only H) (h : SqL K H a xs) : FzL K H a xs := by
  rcases h with (h | ⟨ob, h⟩) | h
  · exfalso
    rcases o a with z | ⟨_, _, z⟩
    · rw [h] at z
      cases z
    · rw [h] at z
      cases z
  · exact .inl ⟨ob, h⟩
  · exact .inr h
theorem sr_start {K : PySem.W.Frag} {C : Addr} {H : Hp} (o : Only H) : SR K C (fun _ => none) H := by
  have no : ∀ {a C dx fs}, H a = some (.ins C dx fs) → False := fun {a C dx fs} h => by
    rcases o a with z | ⟨_, _, z⟩
    · rw [h] at z
      cases z
    · rw [h] at z
      cases z
  exact ⟨fun p ds h => (by cases h), fun a dx v1 v2 l h => (no h).elim, fun a dx v1 v2 b dx' w1 w2 l h _ => (no h).elim⟩
/-- the promise that every law's def keeps -/
def spTop (n : Nat) : DSp := fun ds S Q _ => ∃ ns : List Int, ds = [.scr (ns.map D.int)] ∧ ns.length ≤ n ∧ ∀ S', Q (.bl true) S'
theorem top_start {K : PySem.W.Frag} {C : Addr} {n : Nat} {H : Hp} {a : Addr} {ns : List Int} (hl : ns.length ≤ n) (o : Only H) (h : SqL K H a (ns.map V.int)) : liftSp K C (spTop n) [.ref a] H (fun v _ => v = .bl true) fun _ _ _ => False :=
  ⟨[.scr (ns.map D.int)], fun _ => none, fun d _ => d = .bl true, fun _ _ => False, .cons (.scr (fz_of o h) (DRs.ofInts ns)) .nil, sr_start o, ⟨ns, rfl, hl, fun _ => rfl⟩,
    fun d S' v H' _ r _ e => by subst e; cases r; rfl, fun _ _ _ _ _ _ _ h => h⟩
theorem cx_end {P : Program} {w : World} {H : Hp} {s : Shared} {e : Value} {s' : Shared} (h : L2.CX P w [] H s (fun _ _ _ => False) e s') : False := by
  obtain ⟨_, _, _, _, _, _, _, _, _, _, _, _, z⟩ := h
  exact z
end RL

/-! ### hands as plain lists: the sequence of steps, the normal form -/
namespace MH
/-- the n-th step of a hand -/
def sq {α : Type} (h c : List α) (n : Nat) : Option α := if n < h.length then h[n]? else c[(n - h.length) % c.length]?
def Per {α : Type} (s : Nat → α) (p : Nat) : Prop := ∀ n, s (n + p) = s n
section
variable {α : Type}
theorem Per.mul {s : Nat → α} {p : Nat} (h : Per s p) : ∀ k, Per s (p * k)
  | 0 => fun n => rfl
  | k + 1 => fun n => by
    rw [Nat.mul_succ, ← Nat.add_assoc, h, Per.mul h k]
theorem Per.mod {s : Nat → α} {p q : Nat} (hp : Per s p) (hq : Per s q) : Per s (q % p) := fun n => by
  have e := hp.mul (q / p) (n + q % p)
  rw [← e, Nat.add_assoc, Nat.mod_add_div]
  exact hq n
theorem Per.at_mod {s : Nat → α} {p : Nat} (h : Per s p) (n : Nat) : s n = s (n % p) := by
  have e := h.mul (n / p) (n % p)
  rw [Nat.mod_add_div] at e
  exact e
/-- the cycle's own sequence -/
def cs (c : List α) (n : Nat) : Option α := c[n % c.length]?
theorem cs_per (c : List α) : Per (cs c) c.length := fun n => by unfold cs; rw [Nat.add_mod_right]
theorem sq_nil (c : List α) (n : Nat) : sq [] c n = cs c n := by unfold sq cs; simp
/-- no shorter period -/
def Prim (c : List α) : Prop := c ≠ [] ∧ ∀ p, 0 < p → p < c.length → ¬ Per (cs c) p
theorem Prim.dvd {c : List α} (h : Prim c) {p : Nat} (hp : Per (cs c) p) : c.length ∣ p := by
  have hl : 0 < c.length := List.length_pos_iff.mpr h.1
  have e : p % c.length = 0 := by
    by_cases z : p % c.length = 0
    · exact z
    · exact absurd ((cs_per c).mod hp) (h.2 _ (Nat.pos_of_ne_zero z) (Nat.mod_lt _ hl))
  exact Nat.dvd_of_mod_eq_zero e
/-- the normal form -/
def NF (h c : List α) : Prop := Prim c ∧ ∀ x, h.getLast? = some x → c.getLast? ≠ some x
theorem sq_tail {h c : List α} {n : Nat} (hn : h.length ≤ n) : sq h c n = cs c (n - h.length) := by
  unfold sq cs
  rw [if_neg (by omega)]
theorem sq_per {h c : List α} {n : Nat} (hn : h.length ≤ n) : sq h c (n + c.length) = sq h c n := by
  rw [sq_tail hn, sq_tail (by omega), show n + c.length - h.length = (n - h.length) + c.length by omega]
  exact cs_per c _
theorem sq_some {h c : List α} (hc : c ≠ []) (n : Nat) : ∃ x, sq h c n = some x := by
  unfold sq
  by_cases hn : n < h.length
  · rw [if_pos hn, List.getElem?_eq_getElem hn]
    exact ⟨_, rfl⟩
  · rw [if_neg hn]
    have : (n - h.length) % c.length < c.length := Nat.mod_lt _ (List.length_pos_iff.mpr hc)
    rw [List.getElem?_eq_getElem this]
    exact ⟨_, rfl⟩
/-- periods of the tail, told by the sequence -/
theorem per_of_tail {h c : List α} {N p : Nat} (e : ∀ n, N ≤ n → sq h c (n + p) = sq h c n) (hc : c ≠ []) : Per (cs c) p := fun n => by
  have hl : 0 < c.length := List.length_pos_iff.mpr hc
  have k := cs_per c
  have a := e (n + h.length + c.length * N) (by have : N ≤ c.length * N := Nat.le_mul_of_pos_left N hl; omega)
  rw [sq_tail (by omega), sq_tail (by omega)] at a
  rw [show n + h.length + c.length * N + p - h.length = (n + p) + c.length * N by omega, show n + h.length + c.length * N - h.length = n + c.length * N by omega, k.mul N, k.mul N] at a
  exact a
theorem nf_len {h c h' c' : List α} (a : NF h c) (b : NF h' c') (e : ∀ n, sq h c n = sq h' c' n) : c.length = c'.length := by
  have h1 : Per (cs c) c'.length := per_of_tail (h := h) (N := h'.length) (fun n hn => by rw [e, e]; exact sq_per hn) a.1.1
  have h2 : Per (cs c') c.length := per_of_tail (h := h') (N := h.length) (fun n hn => by rw [← e, ← e]; exact sq_per hn) b.1.1
  exact Nat.dvd_antisymm (a.1.dvd h1) (b.1.dvd h2)
theorem nf_last {h c : List α} (a : NF h c) (hh : h ≠ []) : sq h c (h.length - 1 + c.length) ≠ sq h c (h.length - 1) := by
  have hl : 0 < h.length := List.length_pos_iff.mpr hh
  have hc : 0 < c.length := List.length_pos_iff.mpr a.1.1
  intro e
  have e1 : sq h c (h.length - 1) = h.getLast? := by
    unfold sq
    rw [if_pos (by omega), List.getLast?_eq_getElem?]
  have e2 : sq h c (h.length - 1 + c.length) = c.getLast? := by
    rw [sq_tail (by omega)]
    unfold cs
    rw [show h.length - 1 + c.length - h.length = c.length - 1 by omega, Nat.mod_eq_of_lt (by omega), List.getLast?_eq_getElem?]
  rw [e1, e2] at e
  obtain ⟨x, hx⟩ : ∃ x, h.getLast? = some x := by
    cases q : h.getLast? with
    | none => exact absurd (List.getLast?_eq_none_iff.mp q) hh
    | some x => exact ⟨x, rfl⟩
  exact a.2 x hx (e.trans hx)
theorem nf_le {h c h' c' : List α} (a : NF h c) (b : NF h' c') (e : ∀ n, sq h c n = sq h' c' n) : h.length ≤ h'.length := by
  rcases Nat.lt_or_ge h'.length h.length with z | z
  · exfalso
    have hh : h ≠ [] := fun q => by rw [q] at z; exact absurd z (Nat.not_lt_zero _)
    refine nf_last a hh ?_
    rw [e, e, nf_len a b e]
    exact sq_per (by omega)
  · exact z
theorem nf_unique {h c h' c' : List α} (a : NF h c) (b : NF h' c') (e : ∀ n, sq h c n = sq h' c' n) : h = h' ∧ c = c' := by
  have l1 : h.length = h'.length := Nat.le_antisymm (nf_le a b e) (nf_le b a fun n => (e n).symm)
  have l2 := nf_len a b e
  refine ⟨List.ext_getElem? fun n => ?_, List.ext_getElem? fun n => ?_⟩
  · by_cases hn : n < h.length
    · have := e n
      unfold sq at this
      rw [if_pos hn, if_pos (l1 ▸ hn)] at this
      exact this
    · rw [List.getElem?_eq_none (by omega), List.getElem?_eq_none (by omega)]
  · by_cases hn : n < c.length
    · have := e (h.length + n)
      rw [sq_tail (by omega), sq_tail (by omega)] at this
      unfold cs at this
      rw [show h.length + n - h.length = n by omega, show h.length + n - h'.length = n by omega, Nat.mod_eq_of_lt hn, Nat.mod_eq_of_lt (l2 ▸ hn)] at this
      exact this
    · rw [List.getElem?_eq_none (by omega), List.getElem?_eq_none (by omega)]
/-! the shortest cycle -/
theorem rep_get {x : List α} : ∀ (k n : Nat), n < k * x.length → (List.replicate k x).flatten[n]? = x[n % x.length]?
  | 0, n, h => by rw [Nat.zero_mul] at h; exact absurd h (Nat.not_lt_zero _)
  | k + 1, n, h => by
    rw [List.replicate_succ, List.flatten_cons]
    by_cases hn : n < x.length
    · rw [List.getElem?_append_left hn, Nat.mod_eq_of_lt hn]
    · rw [List.getElem?_append_right (by omega), rep_get k (n - x.length) (by rw [Nat.succ_mul] at h; omega), Nat.mod_eq_sub_mod (Nat.le_of_not_lt hn)]
theorem rep_len (k : Nat) (x : List α) : (List.replicate k x).flatten.length = k * x.length := by
  induction k with
  | zero => simp
  | succ k ih => rw [List.replicate_succ, List.flatten_cons, List.length_append, ih, Nat.succ_mul, Nat.add_comm]
/-- a divisor's beginning, repeated, is the cycle: just if it is a period -/
theorem rep_iff {c : List α} {p : Nat} (hp : 0 < p) (hl : p ≤ c.length) (hd : c.length % p = 0) : (List.replicate (c.length / p) (c.take p)).flatten = c ↔ Per (cs c) p := by
  have ht : (c.take p).length = p := by rw [List.length_take]; omega
  have hm : c.length / p * p = c.length := Nat.div_mul_cancel (Nat.dvd_of_mod_eq_zero hd)
  constructor
  · intro e n
    have key : ∀ m, cs c m = (c.take p)[m % p]? := fun m => by
      unfold cs
      have hlt : m % c.length < c.length := Nat.mod_lt _ (by omega)
      have : c[m % c.length]? = (List.replicate (c.length / p) (c.take p)).flatten[m % c.length]? := by rw [e]
      rw [this, rep_get _ _ (by rw [ht, hm]; exact hlt), ht, Nat.mod_mod_of_dvd _ (Nat.dvd_of_mod_eq_zero hd)]
    rw [key, key, Nat.add_mod_right]
  · intro h
    refine List.ext_getElem? fun n => ?_
    by_cases hn : n < c.length
    · rw [rep_get _ _ (by rw [ht, hm]; exact hn), ht, List.getElem?_take_of_lt (Nat.mod_lt _ hp)]
      have e := h.at_mod n
      unfold cs at e
      have : n % p < c.length := Nat.lt_of_lt_of_le (Nat.mod_lt _ hp) hl
      rw [Nat.mod_eq_of_lt hn, Nat.mod_eq_of_lt this] at e
      exact e.symm
    · rw [List.getElem?_eq_none (by rw [rep_len, ht, hm]; omega), List.getElem?_eq_none (by omega)]
theorem cs_take {c : List α} {p : Nat} (hp : 0 < p) (hl : p ≤ c.length) (h : Per (cs c) p) (n : Nat) : cs (c.take p) n = cs c n := by
  have ht : (c.take p).length = p := by rw [List.length_take]; omega
  rw [h.at_mod n]
  unfold cs
  have : n % p < p := Nat.mod_lt _ hp
  rw [ht, List.getElem?_take_of_lt this, Nat.mod_eq_of_lt (by omega : n % p < c.length)]
/-- what is found first is primitive -/
theorem prim_take {c : List α} {p : Nat} (hp : 0 < p) (hl : p ≤ c.length) (hd : c.length % p = 0) (h : Per (cs c) p) (least : ∀ q, 0 < q → q < p → ¬ (c.length % q = 0 ∧ Per (cs c) q)) : Prim (c.take p) := by
  have ht : (c.take p).length = p := by rw [List.length_take]; omega
  refine ⟨fun z => by rw [z] at ht; simp at ht; omega, fun q h0 hq hper => ?_⟩
  rw [ht] at hq
  have hq2 : Per (cs c) q := fun n => by rw [← cs_take hp hl h, ← cs_take hp hl h]; exact hper n
  -- gcd
  let g := Nat.gcd q c.length
  have hg0 : 0 < g := Nat.gcd_pos_of_pos_left _ h0
  have per_gcd : ∀ a b : Nat, Per (cs c) a → Per (cs c) b → Per (cs c) (Nat.gcd a b) := by
    intro a b
    induction a, b using Nat.gcd.induction with
    | H0 b => intro _ hb; rw [Nat.gcd_zero_left]; exact hb
    | H1 a b ha ih => intro h1 h2; rw [Nat.gcd_rec]; exact ih (h1.mod h2) h1
  have pg := per_gcd q c.length hq2 (cs_per c)
  have dg : c.length % g = 0 := Nat.mod_eq_zero_of_dvd (Nat.gcd_dvd_right _ _)
  have lg : g ≤ q := Nat.le_of_dvd h0 (Nat.gcd_dvd_left _ _)
  exact least g hg0 (by omega) ⟨dg, pg⟩
theorem prim_self {c : List α} (hc : c ≠ []) (least : ∀ q, 0 < q → q < c.length → ¬ (c.length % q = 0 ∧ Per (cs c) q)) : Prim c := by
  have hl : 0 < c.length := List.length_pos_iff.mpr hc
  have := prim_take (c := c) hl (Nat.le_refl _) (Nat.mod_self _) (cs_per c) least
  rwa [List.take_length] at this
theorem sq_same_cycle {h c c' : List α} (e : ∀ n, cs c n = cs c' n) (n : Nat) : sq h c n = sq h c' n := by
  by_cases hn : n < h.length
  · unfold sq
    rw [if_pos hn, if_pos hn]
  · rw [sq_tail (by omega), sq_tail (by omega), e]
/-! one turn of the cycle into the head -/
theorem rot_len (c : List α) (x : α) : (x :: c.dropLast).length = c.length - 1 + 1 := by rw [List.length_cons, List.length_dropLast]
theorem cs_rot {c : List α} {x : α} (h : c.getLast? = some x) (n : Nat) : cs (x :: c.dropLast) (n + 1) = cs c n := by
  have hc : c ≠ [] := fun z => by rw [z] at h; cases h
  have hl : 0 < c.length := List.length_pos_iff.mpr hc
  unfold cs
  rw [rot_len, show c.length - 1 + 1 = c.length by omega]
  have hm : n % c.length < c.length := Nat.mod_lt _ hl
  by_cases hq : n % c.length = c.length - 1
  · have e1 : (n + 1) % c.length = 0 := by
      rw [Nat.add_mod, hq]
      by_cases h1 : c.length = 1
      · rw [h1]
      · rw [Nat.mod_eq_of_lt (by omega : 1 < c.length), show c.length - 1 + 1 = c.length by omega, Nat.mod_self]
    rw [e1, hq, ← List.getLast?_eq_getElem?, h]
    rfl
  · have e1 : (n + 1) % c.length = n % c.length + 1 := by
      rw [Nat.add_mod, Nat.mod_eq_of_lt (by omega : 1 < c.length), Nat.mod_eq_of_lt (by omega)]
    rw [e1, List.getElem?_cons_succ, List.getElem?_dropLast, if_pos (by omega)]
theorem prim_rot {c : List α} {x : α} (p : Prim c) (h : c.getLast? = some x) : Prim (x :: c.dropLast) := by
  have hl : 0 < c.length := List.length_pos_iff.mpr p.1
  refine ⟨List.cons_ne_nil _ _, fun q h0 hq hper => ?_⟩
  rw [rot_len] at hq
  refine p.2 q h0 (by omega) fun n => ?_
  rw [← cs_rot h, ← cs_rot h]
  have := hper (n + 1)
  rw [show n + 1 + q = n + q + 1 by omega] at this
  exact this
theorem sq_rot {h c : List α} {x : α} (h1 : h.getLast? = some x) (h2 : c.getLast? = some x) (n : Nat) : sq h.dropLast (x :: c.dropLast) n = sq h c n := by
  have hh : h ≠ [] := fun z => by rw [z] at h1; cases h1
  have hl : 0 < h.length := List.length_pos_iff.mpr hh
  have dl : h.dropLast.length = h.length - 1 := List.length_dropLast
  by_cases a : n < h.length - 1
  · unfold sq
    rw [if_pos (by omega), if_pos (by omega), List.getElem?_dropLast, if_pos a]
  · rw [sq_tail (by omega), dl]
    by_cases b : n = h.length - 1
    · subst b
      unfold sq cs
      rw [if_pos (by omega), Nat.sub_self, Nat.zero_mod, ← List.getLast?_eq_getElem?, h1]
      rfl
    · rw [sq_tail (by omega), show n - (h.length - 1) = (n - h.length) + 1 by omega, cs_rot h2]
/-! the law's own search -/
theorem per_of_window {h c : List α} {s : Nat} (hc : c ≠ []) (e : ∀ n, h.length ≤ n → n < h.length + 2 * c.length → sq h c n = sq h c (n + s)) : Per (cs c) s := fun m => by
  have hl : 0 < c.length := List.length_pos_iff.mpr hc
  have hm : m % c.length < c.length := Nat.mod_lt _ hl
  have k := cs_per c
  have a := e (h.length + m % c.length) (by omega) (by omega)
  rw [sq_tail (by omega), sq_tail (by omega), show h.length + m % c.length - h.length = m % c.length by omega, show h.length + m % c.length + s - h.length = m % c.length + s by omega] at a
  rw [k.at_mod m, a]
  have b := k.mul (m / c.length) (m % c.length + s)
  rw [← b]
  congr 1
  have := Nat.mod_add_div m c.length
  omega
theorem win_all {h c : List α} {f s : Nat} (hc : c ≠ []) (hf : f ≤ h.length) (e : ∀ n, f ≤ n → n < h.length + 2 * c.length → sq h c n = sq h c (n + s)) (n : Nat) (hn : f ≤ n) : sq h c (n + s) = sq h c n := by
  by_cases a : n < h.length + 2 * c.length
  · exact (e n hn a).symm
  · have p := per_of_window hc fun n h1 h2 => e n (by omega) h2
    rw [sq_tail (by omega), sq_tail (by omega), show n + s - h.length = (n - h.length) + s by omega]
    exact p _
/-- the step, where there is one -/
def stp (z : α) (h c : List α) (n : Nat) : α := (sq h c n).getD z
theorem stp_some {z : α} {h c : List α} (hc : c ≠ []) (n : Nat) : sq h c n = some (stp z h c n) := by
  obtain ⟨x, e⟩ := sq_some (h := h) hc n
  unfold stp
  rw [e]
  rfl
def pre (z : α) (h c : List α) (k : Nat) : List α := (List.range k).map (stp z h c)
def win (z : α) (h c : List α) (f s : Nat) : List α := (List.range s).map fun k => stp z h c (f + k)
theorem pre_len {z : α} {h c : List α} {k : Nat} : (pre z h c k).length = k := by unfold pre; rw [List.length_map, List.length_range]
theorem win_len {z : α} {h c : List α} {f s : Nat} : (win z h c f s).length = s := by unfold win; rw [List.length_map, List.length_range]
theorem pre_get {z : α} {h c : List α} {k n : Nat} (hc : c ≠ []) (hn : n < k) : (pre z h c k)[n]? = sq h c n := by
  unfold pre
  rw [List.getElem?_map, List.getElem?_range hn, stp_some (z := z) hc]
  rfl
theorem win_get {z : α} {h c : List α} {f s n : Nat} (hc : c ≠ []) (hn : n < s) : (win z h c f s)[n]? = sq h c (f + n) := by
  unfold win
  rw [List.getElem?_map, List.getElem?_range hn, stp_some (z := z) hc]
  rfl
/-- a beginning and a period of the sequence make a hand of the same sequence -/
theorem sq_build {h c h' c' : List α} {f s : Nat} (h1 : h'.length = f) (h2 : c'.length = s) (hs : 0 < s) (e1 : ∀ n, n < f → h'[n]? = sq h c n) (e2 : ∀ n, n < s → c'[n]? = sq h c (f + n))
    (p : ∀ n, f ≤ n → sq h c (n + s) = sq h c n) (n : Nat) : sq h' c' n = sq h c n := by
  by_cases a : n < f
  · unfold sq
    rw [if_pos (by omega)]
    exact e1 n a
  · rw [sq_tail (by omega)]
    unfold cs
    rw [h1, h2, e2 _ (Nat.mod_lt _ hs)]
    have key : ∀ k, sq h c (f + (n - f) % s + s * k) = sq h c (f + (n - f) % s) := by
      intro k
      induction k with
      | zero => rfl
      | succ k ih =>
        rw [Nat.mul_succ, ← Nat.add_assoc, p _ (by omega), ih]
    rw [← key ((n - f) / s)]
    congr 1
    have := Nat.mod_add_div (n - f) s
    omega
theorem tried_same {z : α} {h c : List α} {f s : Nat} (hc : c ≠ []) (hf : f ≤ h.length) (hs : 0 < s) (e : ∀ n, f ≤ n → n < h.length + 2 * c.length → sq h c n = sq h c (n + s)) (n : Nat) : sq (pre z h c f) (win z h c f s) n = sq h c n :=
  sq_build pre_len win_len hs (fun n hn => pre_get hc hn) (fun n hn => win_get hc hn) (fun n hn => win_all hc hf e n hn) n
theorem tried_nf {z : α} {h c : List α} {f s : Nat} (hc : c ≠ []) (hf : f ≤ h.length) (hs : 0 < s) (e : ∀ n, f ≤ n → n < h.length + 2 * c.length → sq h c n = sq h c (n + s))
    (least : ∀ q, 0 < q → q < s → ¬ Per (cs c) q) (low : ∀ g, g < f → ¬ ∀ n, g ≤ n → n < h.length + 2 * c.length → sq h c n = sq h c (n + s)) : NF (pre z h c f) (win z h c f s) := by
  have same := tried_same (z := z) hc hf hs e
  have wl : (win z h c f s).length = s := win_len
  have wn : win z h c f s ≠ [] := fun q => by rw [q] at wl; simp at wl; omega
  refine ⟨⟨wn, fun q h0 hq hper => ?_⟩, fun x hx hy => ?_⟩
  · rw [wl] at hq
    refine least q h0 hq (per_of_tail (h := h) (N := f) (fun n hn => ?_) hc)
    rw [← same, ← same, sq_tail (by rw [pre_len]; omega), sq_tail (by rw [pre_len]; omega), pre_len, show n + q - f = (n - f) + q by omega]
    exact hper _
  · have pl : (pre z h c f).length = f := pre_len
    have f0 : 0 < f := by
      rcases Nat.eq_zero_or_pos f with q | q
      · subst q
        have : pre z h c 0 = [] := rfl
        rw [this] at hx
        cases hx
      · exact q
    refine low (f - 1) (by omega) fun n h1 h2 => ?_
    by_cases hn : n = f - 1
    · rw [List.getLast?_eq_getElem?, pl, pre_get hc (by omega)] at hx
      rw [List.getLast?_eq_getElem?, wl, win_get hc (by omega), show f + (s - 1) = f - 1 + s by omega] at hy
      rw [hn, hx, hy]
    · exact e n (by omega) h2
/-! a hand in another form -/
theorem sq_unroll {z : α} {h c c1 : List α} {m k : Nat} (hc : c ≠ []) (h1 : c1.length = c.length) (e : ∀ i, cs c1 i = cs c (m + i)) (hk : 0 < k) (n : Nat) : sq (h ++ pre z [] c m) (List.replicate k c1).flatten n = sq h c n := by
  have hl : 0 < c.length := List.length_pos_iff.mpr hc
  have hc1 : c1 ≠ [] := fun q => by rw [q] at h1; simp at h1; omega
  have hlen : (h ++ pre z [] c m).length = h.length + m := by rw [List.length_append, pre_len]
  by_cases a : n < h.length + m
  · by_cases b : n < h.length
    · unfold sq
      rw [if_pos (by omega), if_pos b, List.getElem?_append_left b]
    · rw [sq_tail (h := h) (by omega)]
      unfold sq
      rw [if_pos (by omega), List.getElem?_append_right (by omega), pre_get hc (by omega), sq_nil]
  · rw [sq_tail (by omega), sq_tail (by omega), hlen]
    have er : ∀ i, cs (List.replicate k c1).flatten i = cs c1 i := fun i => by
      unfold cs
      have hlt : i % (List.replicate k c1).flatten.length < k * c1.length := by
        rw [rep_len]
        exact Nat.mod_lt _ (Nat.mul_pos hk (by omega))
      rw [rep_get _ _ hlt, rep_len, Nat.mod_mul_left_mod]
    rw [er, e]
    congr 1
    omega
end
end MH

namespace K06
open PySem RL
open L2 hiding WE
local macro_rules | `(tactic| walk_at "go") => `(tactic| try simp only [wSeq, wNext, wAsg, wRet, wRetN, wDrop, wIfS, wIfE, wAnd, wOr, wNot, wTest_eq, tstD_bl, wAndV_eq, andD_bl, wOrV_eq, orD_bl, wNotV_eq, notD_bl, wChain_eq, chnD_bl, wBin, wUn, wVar, wC, wCons, wNil, wTup, wLst, wLstL, wCB, wSl, wNoPart, wPart_eq, prtD_int, wPar_eq, parD_2, wAug, wCall, wLock, wLc,
  gSet, gTup_tup, lenIs_eq, gsCons_cons, gsNil_nil, gSub_eq, subD_ref, dAdd_int, dAdd_str, dAdd_tup, dAdd_lst, dMul_int, dMul_tup, dMul_lst, dII_int, dII0_int, dSub, dFdiv, dMod, dPow, dLt, dLe, dGt, dGe, dNeg_int, dIs_non, dIsNot_non, dIsi_ty, dIsi_2, isT_non_list, isT_non_tuple, isT_non_int, isT_non_bool, isT_non_str, isData_non, isT_bl_list, isT_bl_tuple, isT_bl_int, isT_bl_bool, isT_bl_str, isData_bl, isT_int_list, isT_int_tuple, isT_int_int, isT_int_bool, isT_int_str, isData_int, isT_str_list, isT_str_tuple, isT_str_int, isT_str_bool, isT_str_str, isData_str, isT_tup_list, isT_tup_tuple, isT_tup_int, isT_tup_bool, isT_tup_str, isData_tup, isT_lst_list, isT_lst_tuple, isT_lst_int, isT_lst_bool, isT_lst_str, isData_lst, isNon_non, isNon_bl, isNon_int, isNon_str, isNon_tup, isNon_lst, isNon_ref, isNon_clk, okT_list, okT_tuple, okT_int, okT_bool, okT_str, Bool.or_false, Bool.or_true, Bool.false_or, Bool.true_or, Bool.not_true, Bool.not_false, dLen_tup, dLen_lst, dLen_ref, dList_tup, dList_lst, dList_ref, dListL_tup, dListL_lst, dTuple_tup, dTuple_lst, dTuple_ref,
  dIx_tup, dIx_lst, dIx_ref, dSl_tup, dSl_lst, dSl_scr, dSl_ref, dSum_lst, dAll_lst, dAny_lst, dMax2_int, dMin2_int, dAbs_int, dInt_int, dInt_bl, wFor, wRng1_eq, rg1D_int, wRng2_eq, rg2D_int, wSeqI_eq, sqiD_tup, sqiD_lst, sqiD_ref, wZip_eq, zpD_tup, zpD_lst, wRev_eq, rvD_lst, rvD_ref, startD,
  List.map_cons, List.map_nil, List.length_cons, List.length_nil, List.append_nil, List.nil_append, List.cons_append, List.replicate, List.set_cons_zero, List.set_cons_succ, List.getElem?_cons_zero, List.getElem?_cons_succ, true_and, and_true, if_true_bl, if_false_bl, if_true, if_false])
def topS (i : Nat) : Stmt := PySem.Challenge.pw_hangwheels_k06_normal_forms.main.body.getD i (.Pass ⟨0, 0, 0, 0⟩)
structure Txt (mg : Str → Option Value) : Prop where
  b_all : mg "all" = none
  b_bool : mg "bool" = none
  b_int : mg "int" = none
  b_isinstance : mg "isinstance" = none
  b_len : mg "len" = none
  b_list : mg "list" = none
  b_range : mg "range" = none
  b_str : mg "str" = none
  b_tuple : mg "tuple" = none
  b_zip : mg "zip" = none
abbrev s__law_bag : Stmt := topS 4
theorem sc__law_bag : FnScope ["_law_script", "_law_salt", "_law_cell"] ["_law_script"] (defScope s__law_bag) := ⟨rfl, rfl, rfl, by decide +kernel, rfl, by decide +kernel, by decide +kernel⟩
abbrev s__law_pull : Stmt := topS 5
theorem sc__law_pull : FnScope ["_law_bag_here", "_law_many", "_law_cell", "_law_got", "_law_seed"] ["_law_bag_here", "_law_many"] (defScope s__law_pull) := ⟨rfl, rfl, rfl, by decide +kernel, rfl, by decide +kernel, by decide +kernel⟩
abbrev s__law_of : Stmt := topS 6
theorem sc__law_of : FnScope ["_law_bag_here", "_law_things"] ["_law_bag_here", "_law_things"] (defScope s__law_of) := ⟨rfl, rfl, rfl, by decide +kernel, rfl, by decide +kernel, by decide +kernel⟩
abbrev s__law_like : Stmt := topS 7
theorem sc__law_like : FnScope ["_law_found", "_law_due", "_law_one", "_law_other"] ["_law_found", "_law_due"] (defScope s__law_like) := ⟨rfl, rfl, rfl, by decide +kernel, rfl, by decide +kernel, by decide +kernel⟩
/-! ### the bag of draws -/
structure Bag where
  cells : List Int
  i : Nat
  big : Int
  salt : Int
structure Bag.Good (b : Bag) : Prop where
  c63 : b.cells.length ≤ 63
  ile : b.i ≤ b.cells.length
  big0 : 0 ≤ b.big
  s0 : 0 ≤ b.salt
  s1 : b.salt < 2147483563
def Bag.ds (b : Bag) : List D := [.lst (b.cells.map D.int), .int b.i, .int b.big, .int b.salt]
def BagAt (S : Sto) (p : Addr) : Prop := ∃ b : Bag, b.Good ∧ S p = some (.lst b.ds)
def Off (p : Addr) (S S' : Sto) : Prop := ∀ q, q ≠ p → S' q = S q
theorem Off.refl (p : Addr) (S : Sto) : Off p S S := fun _ _ => rfl
theorem Off.trans {p : Addr} {S S1 S2 : Sto} (a : Off p S S1) (b : Off p S1 S2) : Off p S S2 := fun q h => (b q h).trans (a q h)
theorem Off.put {p : Addr} {S : Sto} {o : DO} : Off p S (S.put p o) := fun q h => Sto.put_ne h
theorem BagAt.of {S : Sto} {p : Addr} {b : Bag} (h : b.Good) : BagAt (S.put p (.lst b.ds)) p := ⟨b, h, Sto.put_same⟩
/-- a new list beside the bag -/
theorem BagAt.put {S : Sto} {p q : Addr} {o : DO} (h : BagAt S p) (hq : S q = none) : BagAt (S.put q o) p := by
  obtain ⟨b, g, e⟩ := h
  exact ⟨b, g, by rw [Sto.put_ne (fun z => by rw [z, hq] at e; cases e)]; exact e⟩
theorem BagAt.ne {S : Sto} {p q : Addr} (h : BagAt S p) (hq : S q = none) : q ≠ p := fun z => by
  obtain ⟨b, g, e⟩ := h
  rw [← z, hq] at e
  cases e
theorem bag_under {S S' : Sto} {p Z : Addr} {o : DO} (off : Off p (S.put Z o) S') (hZ : S Z = none) (hb : BagAt S p) (hb' : BagAt S' p) : ∃ S'' : Sto, S' = S''.put Z o ∧ S'' Z = none ∧ BagAt S'' p ∧ Off p S S'' := by
  have ne := hb.ne hZ
  refine ⟨S'.del Z, ?_, Sto.del_same, ?_, fun q hq => ?_⟩
  · funext b
    by_cases e : b = Z
    · rw [e, Sto.put_same, off Z ne, Sto.put_same]
    · rw [Sto.put_ne e, Sto.del_ne e]
  · obtain ⟨b, g, e⟩ := hb'
    exact ⟨b, g, by rw [Sto.del_ne ne.symm]; exact e⟩
  · by_cases e : q = Z
    · rw [e, Sto.del_same, hZ]
    · rw [Sto.del_ne e, off q hq, Sto.put_ne e]
def spBag : DSp := fun ds S Q _ => ∃ ns : List Int, ds = [.scr (ns.map D.int)] ∧ ns.length ≤ 63 ∧ ∀ p S', S p = none → BagAt S' p → Off p S S' → Q (.ref p) S'
def spPull : DSp := fun ds S Q _ => ∃ (p : Addr) (many : Int), ds = [.ref p, .int many] ∧ BagAt S p ∧ 0 < many ∧ many < 2 ^ 200 ∧ ∀ (r : Int) S', BagAt S' p → Off p S S' → 0 ≤ r → r < many → Q (.int r) S'
/-- data of a depth below n, twice the same -/
def spLike (n : Nat) : DSp := fun ds S Q _ => ∃ d, ds = [d, d] ∧ Dat n d ∧ Q (.bl true) S
def spOf : DSp := fun ds S Q _ => ∃ (p : Addr) (xs : List D), ds = [.ref p, .lst xs] ∧ BagAt S p ∧ 0 < xs.length ∧ xs.length < 2 ^ 62 ∧ ∀ (x : D) S', BagAt S' p → Off p S S' → x ∈ xs → Q x S'
theorem seq_gen {A B : WS} {Z : WEnds} {E : EV} {S : Sto} (P : EV → Sto → Prop) (h1 : ∀ nx, (∀ E S, P E S → nx E S) → A { Z with nx := nx } E S) (h2 : ∀ E S, P E S → B Z E S) : wSeq A B Z E S := h1 _ h2
section
variable {P : Program} {w : World} {K : PySem.W.Frag} {mg : Str → Option Value} {base : Heap} {C : Addr}
theorem mul_small {i j : Int} (h1 : i.natAbs < 2 ^ 200) (h2 : j.natAbs < 2 ^ 200) : CMulW i j := wide_mul (a := 200) (b := 200) h1 h2 (by decide) (by decide) (by decide)
theorem ok_pull {f : Addr} {fd : FuncData} (F : Fun K "_law_pull" "_law_pull" s__law_pull f fd) (T : Txt mg) : DOk P w K mg base C 1 f fd ["_law_bag_here", "_law_many"] spPull := by
  refine dok_of F sc__law_pull (fun ds S Q Xd h => ?_) (fun cdv A outer s B Ex ds S Q Xd hr dx h => ?_)
  · obtain ⟨p, many, rfl, _⟩ := h
    rfl
  · have sc := sc__law_pull
    refine ⟨_, (dss_cons (ds_if (dt_w (dw_and (dt_cmp (od_eq hr.units) (de_ix (de_var 0) de_int) de_int) (dw_and1 (dt_cmp od_lt (de_ix (de_var 0) de_int) (de_callB cd_len T.b_len (by decide +kernel) (da_cons (de_ix (de_var 0) de_int) da_nil)))))) (dss_cons (ds_set 2 sc.nd (de_ix (de_ix (de_var 0) de_int) (de_ix (de_var 0) de_int))) (dss_cons (ds_asg (de_bin od_add (de_ix (de_var 0) de_int) de_int) (dg_sub (de_var 0) de_int)) (dss_one (ds_if (dt_cmp od_ge (de_var 2) (de_bin od_pow de_int de_int)) (dss_one (ds_asg (de_bin od_sub (de_var 2) (de_bin od_pow de_int de_int)) (dg_sub (de_var 0) de_int))) (dss_one (ds_asg (de_bin od_mod (de_bin od_add (de_bin od_add (de_bin od_mul (de_ix (de_var 0) de_int) de_int) (de_bin od_mul (de_bin od_mod (de_var 2) de_int) de_int)) de_int) de_int) (dg_sub (de_var 0) de_int))))))) dss_nil) (dss_cons (ds_if (dt_cmp od_gt (de_ix (de_var 0) de_int) de_int) (dss_cons (ds_set 3 sc.nd (de_bin od_mod (de_ix (de_var 0) de_int) (de_var 1))) (dss_cons (ds_asg (de_bin od_fdiv (de_ix (de_var 0) de_int) (de_var 1)) (dg_sub (de_var 0) de_int)) (dss_one (ds_ret (de_var 3))))) dss_nil) (dss_cons (ds_set 4 sc.nd (de_ix (de_var 0) de_int)) (dss_cons (ds_asg (de_bin od_mod (de_bin od_add (de_bin od_add (de_bin od_mul (de_bin od_mul (de_var 4) (de_var 4)) de_int) (de_bin od_mul (de_var 4) de_int)) de_int) de_int) (dg_sub (de_var 0) de_int)) (dss_one (ds_ret (de_bin od_mod (de_bin od_add (de_bin od_fdiv (de_ix (de_var 0) de_int) de_int) (de_bin od_mul (de_bin od_mod (de_ix (de_var 0) de_int) de_int) de_int)) (de_var 1)))))))), ?_⟩
    obtain ⟨p, many, rfl, hb, m0, m1, q⟩ := h
    have mn : many.natAbs < 2 ^ 200 := by omega
    have mw : CDivW 0 many := wide_div (b := 200) m0 mn (by decide) (by decide)
    -- behind the first if: a good bag, all else as it was
    refine seq_gen (fun E S1 => (∃ x, E = [some (.ref p), some (.int many), x, none, none]) ∧ BagAt S1 p ∧ Off p S S1) (fun nx hn => ?_) ?_
    · obtain ⟨b, g, e⟩ := hb
      walk_at "go"
      refine ⟨_, e, _, rfl, dEq_int (fun e2 => ?_) fun e2 => ?_⟩
      · walk_at "go"
        refine ⟨_, e, _, rfl, _, e, _, rfl, ?_⟩
        walk_at "go"
        intro _
        rw [List.length_map]
        by_cases hi : (b.i : Int) < b.cells.length
        · rw [decide_eq_true hi]
          walk_at "go"
          have hi' : b.i < b.cells.length := by omega
          have hget : (b.cells.map D.int)[b.i]? = some (.int b.cells[b.i]) := by rw [List.getElem?_map, List.getElem?_eq_getElem hi']; rfl
          refine ⟨_, e, _, rfl, _, e, _, rfl, ?_⟩
          walk_at "go"
          refine ⟨_, atI_nat hget, _, e, _, rfl, ?_⟩
          walk_at "go"
          refine ⟨_, _, e, rfl, pow10 18, ?_⟩
          by_cases hc : (10 : Int) ^ Int.toNat 18 ≤ b.cells[b.i]
          · rw [decide_eq_true hc]
            walk_at "go"
            refine ⟨pow10 18, _, _, Sto.put_same, rfl, hn _ _ ⟨⟨_, rfl⟩, ?_, ?_⟩⟩
            · rw [Sto.put_put]
              have : Bag.Good ⟨b.cells, b.i + 1, b.cells[b.i] - 10 ^ Int.toNat 18, b.salt⟩ := ⟨g.c63, hi', by show 0 ≤ b.cells[b.i] - 10 ^ Int.toNat 18; omega, g.s0, g.s1⟩
              exact BagAt.of this
            · rw [Sto.put_put]
              exact Off.put
          · rw [decide_eq_false hc]
            walk_at "go"
            refine ⟨_, Sto.put_same, _, rfl, ?_⟩
            walk_at "go"
            have h1 := g.s0
            have h2 := g.s1
            have h3 := Int.emod_nonneg b.cells[b.i] (by decide : (2147483563 : Int) ≠ 0)
            have h4 := Int.emod_lt_of_pos b.cells[b.i] (by decide : (0 : Int) < 2147483563)
            refine ⟨mul_small (by omega) (by decide), by decide, mul_small (by omega) (by decide), by decide, _, _, Sto.put_same, rfl, hn _ _ ⟨⟨_, rfl⟩, ?_, ?_⟩⟩
            · rw [Sto.put_put]
              have : Bag.Good ⟨b.cells, b.i + 1, b.big, (b.salt * 48271 + b.cells[b.i] % 2147483563 * 69621 + 7) % 2147483563⟩ := ⟨g.c63, hi', g.big0, Int.emod_nonneg _ (by decide), Int.emod_lt_of_pos _ (by decide)⟩
              exact BagAt.of this
            · rw [Sto.put_put]
              exact Off.put
        · rw [decide_eq_false hi]
          walk_at "go"
          exact hn _ _ ⟨⟨_, rfl⟩, ⟨b, g, e⟩, Off.refl _ _⟩
      · walk_at "go"
        exact hn _ _ ⟨⟨_, rfl⟩, ⟨b, g, e⟩, Off.refl _ _⟩
    · rintro E S1 ⟨⟨x, rfl⟩, ⟨b, g, e⟩, off⟩
      walk_at "go"
      refine ⟨_, e, _, rfl, ?_⟩
      walk_at "go"
      have b0 := g.big0
      by_cases hb : 0 < b.big
      · rw [decide_eq_true hb]
        walk_at "go"
        refine ⟨_, e, _, rfl, ?_⟩
        walk_at "go"
        refine ⟨m0, _, e, _, rfl, ?_⟩
        walk_at "go"
        refine ⟨mw, _, _, e, rfl, .now (q _ _ ?_ (off.trans Off.put) (Int.emod_nonneg _ (by omega)) (Int.emod_lt_of_pos _ m0))⟩
        have : Bag.Good ⟨b.cells, b.i, b.big / many, b.salt⟩ := ⟨g.c63, g.ile, Int.ediv_nonneg b0 (by omega), g.s0, g.s1⟩
        exact BagAt.of this
      · rw [decide_eq_false hb]
        walk_at "go"
        have h1 := g.s0
        have h2 := g.s1
        refine ⟨_, e, _, rfl, ?_⟩
        walk_at "go"
        have h3 : (b.salt * b.salt).natAbs < 2 ^ 80 := by
          rw [Int.natAbs_mul]
          have : b.salt.natAbs < 2 ^ 40 := by omega
          exact Nat.lt_of_lt_of_le (Nat.mul_lt_mul'' this this) (by decide)
        refine ⟨mul_small (by omega) (by omega), mul_small (by omega) (by decide), mul_small (by omega) (by decide), by decide, _, _, e, rfl, _, Sto.put_same, _, rfl, ?_⟩
        walk_at "go"
        refine ⟨⟨by decide, by decide⟩, _, Sto.put_same, _, rfl, ?_⟩
        walk_at "go"
        have h5 := Int.emod_nonneg ((b.salt * b.salt * 3 + b.salt * 16807 + 1013904223) % 2147483563) (by decide : (8191 : Int) ≠ 0)
        have h6 := Int.emod_lt_of_pos ((b.salt * b.salt * 3 + b.salt * 16807 + 1013904223) % 2147483563) (by decide : (0 : Int) < 8191)
        refine ⟨by decide, mul_small (by omega) (by decide), m0, .now (q _ _ ?_ (off.trans Off.put) (Int.emod_nonneg _ (by omega)) (Int.emod_lt_of_pos _ m0))⟩
        have : Bag.Good ⟨b.cells, b.i, b.big, (b.salt * b.salt * 3 + b.salt * 16807 + 1013904223) % 2147483563⟩ := ⟨g.c63, g.ile, g.big0, Int.emod_nonneg _ (by decide), Int.emod_lt_of_pos _ (by decide)⟩
        exact BagAt.of this
theorem ok_bag {f : Addr} {fd : FuncData} (F : Fun K "_law_bag" "_law_bag" s__law_bag f fd) (T : Txt mg) : DOk P w K mg base C 1 f fd ["_law_script"] spBag := by
  refine dok_of F sc__law_bag (fun ds S Q Xd h => ?_) (fun cdv A outer s B Ex ds S Q Xd hr dx h => ?_)
  · obtain ⟨ns, rfl, _⟩ := h
    rfl
  · have sc := sc__law_bag
    refine ⟨_, (dss_cons (ds_set 1 sc.nd de_int) (dss_cons (ds_for (passes_of rfl) rfl (di_seq (de_slice (de_var 0) do_none (do_some de_int))) (dg_name 2 sc.nd) (dss_one (ds_set 1 sc.nd (de_bin od_mod (de_bin od_add (de_bin od_add (de_bin od_mul (de_var 1) de_int) (de_bin od_mod (de_var 2) de_int)) de_int) de_int)))) (dss_one (ds_ret (de_lstL (da_cons (de_callTy cd_list T.b_list (by decide +kernel) (da_cons (de_slice (de_var 0) do_none (do_some de_int)) da_nil)) (da_cons de_int (da_cons de_int (da_cons (de_var 1) da_nil))))))))), ?_⟩
    obtain ⟨ns, rfl, n63, q⟩ := h
    walk_at "go"
    intro _
    have e1 : cutD (ns.map D.int) none (some 63) = ns.map D.int := by
      have := cutD_to (ns.map D.int) 63
      rw [List.take_of_length_le (by rw [List.length_map]; exact n63)] at this
      exact this
    rw [e1]
    refine forL_rule (fun rest E S1 => (∃ ms : List Int, rest = ms.map D.int) ∧ S1 = S ∧ ∃ (salt : Int) (x : Option D), E = [some (.scr (ns.map D.int)), some (.int salt), x] ∧ 0 ≤ salt ∧ salt < 2147483563) (fun d rest E S1 => ?_) (fun E S1 => ?_) _ _ _ ⟨⟨ns, rfl⟩, rfl, 9492, none, rfl, by decide, by decide⟩
    · rintro ⟨⟨ms, hms⟩, rfl, salt, x, rfl, h0, h1⟩
      refine ⟨trivial, fun nx hn => ?_⟩
      cases ms with
      | nil => cases hms
      | cons m ms =>
        rw [List.map_cons] at hms
        cases hms
        walk_at "go"
        have h3 := Int.emod_nonneg m (by decide : (2147483563 : Int) ≠ 0)
        have h4 := Int.emod_lt_of_pos m (by decide : (0 : Int) < 2147483563)
        exact ⟨mul_small (by omega) (by decide), by decide, by decide, hn _ _ ⟨⟨ms, rfl⟩, rfl, _, _, rfl, Int.emod_nonneg _ (by decide), Int.emod_lt_of_pos _ (by decide)⟩⟩
    · rintro ⟨_, rfl, salt, x, rfl, h0, h1⟩
      refine ⟨trivial, ?_⟩
      walk_at "go"
      rw [e1]
      refine ⟨by show 4 ≤ sizeLine; decide, fun p hp => .now (q _ _ hp ?_ Off.put)⟩
      have : Bag.Good ⟨ns, 0, 0, salt⟩ := ⟨n63, Nat.zero_le _, Int.le_refl 0, h0, h1⟩
      exact BagAt.of this
theorem ok_of {f : Addr} {fd : FuncData} (F : Fun K "_law_of" "_law_of" s__law_of f fd) (T : Txt mg) (G__law_pull : Df P w K mg base C "_law_pull" 1 ["_law_bag_here", "_law_many"] spPull) : DOk P w K mg base C 2 f fd ["_law_bag_here", "_law_things"] spOf := by
  refine dok_of F sc__law_of (fun ds S Q Xd h => ?_) (fun cdv A outer s B Ex ds S Q Xd hr dx h => ?_)
  · obtain ⟨p, xs, rfl, _⟩ := h
    rfl
  · have sc := sc__law_of
    refine ⟨_, (dss_one (ds_ret (de_ix (de_var 1) (de_callD G__law_pull (hr.mono (by omega)) dx (da_cons (de_var 0) (da_cons (de_callB cd_len T.b_len (by decide +kernel) (da_cons (de_var 1) da_nil)) da_nil)))))), ?_⟩
    obtain ⟨p, xs, rfl, hb, h0, h1, q⟩ := h
    walk_at "go"
    intro _
    refine ⟨p, _, rfl, hb, by omega, by omega, fun r S' hb' off r0 r1 => ?_⟩
    walk_at "go"
    obtain ⟨i, rfl⟩ := Int.eq_ofNat_of_zero_le r0
    have hi : i < xs.length := by omega
    exact ⟨xs[i], atI_nat (List.getElem?_eq_getElem hi), .now (q _ _ hb' off (List.getElem_mem hi))⟩
theorem ok_like {f : Addr} {fd : FuncData} (F : Fun K "_law_like" "_law_like" s__law_like f fd) (T : Txt mg) (hm : mg "_law_like" = some (.ref f)) (hk : PySem.W.keepIn K (.ref f) = true) (hb : Binds K fd ["_law_found", "_law_due"] []) : ∀ n, n ≤ 60 → Df P w K mg base C "_law_like" n ["_law_found", "_law_due"] (spLike n)
  | 0, _ => ⟨f, fd, ⟨fun vs H Q E h => (by obtain ⟨ds, S, Qd, Xd, _, _, ⟨d, _, h, _⟩, _⟩ := h; exact absurd h.dep (Nat.not_lt_zero _)), fun A outer s H args us vs Q E _ _ _ _ h => (by obtain ⟨ds, S, Qd, Xd, _, _, ⟨d, _, h, _⟩, _⟩ := h; exact absurd h.dep (Nat.not_lt_zero _))⟩, hm, hk, hb⟩
  | n + 1, hn => by
    have G__law_like := ok_like F T hm hk hb n (by omega)
    refine ⟨f, fd, dok_of F sc__law_like (fun ds S Q Xd h => ?_) (fun cdv A outer s B Ex ds S Q Xd hr dx h => ?_), hm, hk, hb⟩
    · obtain ⟨d, rfl, _⟩ := h
      rfl
    · have sc := sc__law_like
      refine ⟨_, (dss_cons (ds_if (dt_val (de_callB cd_isi T.b_isinstance (by decide +kernel) (da_cons (de_var 1) (da_cons (de_tup (da_cons (de_gty (n := "list") T.b_list (by decide +kernel)) (da_cons (de_gty (n := "tuple") T.b_tuple (by decide +kernel)) da_nil))) da_nil)))) (dss_cons (ds_if (dt_w (dw_or (dt_cmp (od_ne hr.units) (de_callB cd_isi T.b_isinstance (by decide +kernel) (da_cons (de_var 0) (da_cons (de_gty (n := "list") T.b_list (by decide +kernel)) da_nil))) (de_callB cd_isi T.b_isinstance (by decide +kernel) (da_cons (de_var 1) (da_cons (de_gty (n := "list") T.b_list (by decide +kernel)) da_nil)))) (dw_or1 (dt_cmp (od_ne hr.units) (de_callB cd_isi T.b_isinstance (by decide +kernel) (da_cons (de_var 0) (da_cons (de_gty (n := "tuple") T.b_tuple (by decide +kernel)) da_nil))) (de_callB cd_isi T.b_isinstance (by decide +kernel) (da_cons (de_var 1) (da_cons (de_gty (n := "tuple") T.b_tuple (by decide +kernel)) da_nil))))))) (dss_one (ds_ret de_bl)) dss_nil) (dss_one (ds_ret (de_and (de_cmp (od_eq hr.units) (de_callB cd_len T.b_len (by decide +kernel) (da_cons (de_var 0) da_nil)) (de_callB cd_len T.b_len (by decide +kernel) (da_cons (de_var 1) da_nil))) (de_one (de_callB (cd_all rfl) T.b_all (by decide +kernel) (da_cons (de_lc true [("_law_one", 2), ("_law_other", 3)] rfl sc.nd (blkOk_by (N := ["_law_found", "_law_due", "_law_one", "_law_other"]) (sc := defScope s__law_like) (by decide +kernel)) (di_zip T.b_zip (da_cons (de_var 0) (da_cons (de_var 1) da_nil))) (fun _ _ _ _ _ _ => (dg_tup (n := 2) rfl (dgs_cons (dgn 2 sc.nd) (dgs_cons (dgn 3 sc.nd) dgs_nil)))) (fun _ _ _ _ _ _ => dts_nil) (fun _ _ _ _ _ _ => (de_callD G__law_like (hr.mono (by omega)) dx0 (da_cons (de_var 2) (da_cons (de_var 3) da_nil))))) da_nil))))))) dss_nil) (dss_cons (ds_if (dt_w (dw_or (dt_cmp od_is (de_var 0) de_non) (dw_or1 (dt_cmp od_is (de_var 1) de_non)))) (dss_one (ds_ret (de_and (de_cmp od_is (de_var 0) de_non) (de_one (de_cmp od_is (de_var 1) de_non))))) dss_nil) (dss_cons (ds_if (dt_w (dw_or (dt_cmp (od_ne hr.units) (de_callB cd_isi T.b_isinstance (by decide +kernel) (da_cons (de_var 0) (da_cons (de_gty (n := "bool") T.b_bool (by decide +kernel)) da_nil))) (de_callB cd_isi T.b_isinstance (by decide +kernel) (da_cons (de_var 1) (da_cons (de_gty (n := "bool") T.b_bool (by decide +kernel)) da_nil)))) (dw_or1 (dt_cmp (od_ne hr.units) (de_callB cd_isi T.b_isinstance (by decide +kernel) (da_cons (de_var 0) (da_cons (de_gty (n := "int") T.b_int (by decide +kernel)) da_nil))) (de_callB cd_isi T.b_isinstance (by decide +kernel) (da_cons (de_var 1) (da_cons (de_gty (n := "int") T.b_int (by decide +kernel)) da_nil))))))) (dss_one (ds_ret de_bl)) dss_nil) (dss_one (ds_ret (de_and (de_cmp (od_eq hr.units) (de_callB cd_isi T.b_isinstance (by decide +kernel) (da_cons (de_var 0) (da_cons (de_gty (n := "str") T.b_str (by decide +kernel)) da_nil))) (de_callB cd_isi T.b_isinstance (by decide +kernel) (da_cons (de_var 1) (da_cons (de_gty (n := "str") T.b_str (by decide +kernel)) da_nil)))) (de_one (de_cmp (od_eq hr.units) (de_var 0) (de_var 1))))))))), ?_⟩
      obtain ⟨d, rfl, hd, q⟩ := h
      have go2 : (2 : Nat) ≤ sizeLine := by decide
      cases d with
      | tup ds =>
        walk_at "go"
        refine ⟨by decide, dNe_self (.bl (n := n) false) ?_ (by omega)⟩
        walk_at "go"
        refine dNe_self (.bl (n := n) true) ?_ (by omega)
        walk_at "go"
        intro hz _
        refine dEq_self (Ok.int (n := 0) _).dat ?_ (by omega)
        walk_at "go"
        intro _
        rw [zipD_self]
        refine lc_map (fun _ => .bl true) (by rw [List.length_map]; exact hz) (fun e he S1 K1 hK => ?_) ?_
        · obtain ⟨x, hx, rfl⟩ := List.mem_map.mp he
          have hx' := hd.tups x hx
          walk_at "go"
          exact ⟨x, rfl, hx', hK⟩
        · walk_at "go"
          refine ⟨ds.map fun _ => true, by simp [List.map_map, Function.comp_def], .now ?_⟩
          rw [show (ds.map fun _ => true).all id = true by simp]
          exact q
      | lst ds =>
        walk_at "go"
        refine ⟨by decide, dNe_self (.bl (n := n) true) ?_ (by omega)⟩
        walk_at "go"
        refine dNe_self (.bl (n := n) false) ?_ (by omega)
        walk_at "go"
        intro hz _
        refine dEq_self (Ok.int (n := 0) _).dat ?_ (by omega)
        walk_at "go"
        intro _
        rw [zipD_self]
        refine lc_map (fun _ => .bl true) (by rw [List.length_map]; exact hz) (fun e he S1 K1 hK => ?_) ?_
        · obtain ⟨x, hx, rfl⟩ := List.mem_map.mp he
          have hx' := hd.lsts x hx
          walk_at "go"
          exact ⟨x, rfl, hx', hK⟩
        · walk_at "go"
          refine ⟨ds.map fun _ => true, by simp [List.map_map, Function.comp_def], .now ?_⟩
          rw [show (ds.map fun _ => true).all id = true by simp]
          exact q
      | non =>
        walk_at "go"
        exact ⟨by decide, .now q⟩
      | bl b =>
        walk_at "go"
        refine ⟨by decide, dNe_self (.bl (n := n) true) ?_ (by omega)⟩
        walk_at "go"
        refine dNe_self (.bl (n := n) true) ?_ (by omega)
        walk_at "go"
        refine dEq_self (.bl (n := n) false) ?_ (by omega)
        walk_at "go"
        exact dEq_self hd (.now q) (by omega)
      | int i =>
        walk_at "go"
        refine ⟨by decide, dNe_self (.bl (n := n) false) ?_ (by omega)⟩
        walk_at "go"
        refine dNe_self (.bl (n := n) true) ?_ (by omega)
        walk_at "go"
        refine dEq_self (.bl (n := n) false) ?_ (by omega)
        walk_at "go"
        exact dEq_self hd (.now q) (by omega)
      | str x =>
        walk_at "go"
        refine ⟨by decide, dNe_self (.bl (n := n) false) ?_ (by omega)⟩
        walk_at "go"
        refine dNe_self (.bl (n := n) false) ?_ (by omega)
        walk_at "go"
        refine dEq_self (.bl (n := n) true) ?_ (by omega)
        walk_at "go"
        exact dEq_self hd (.now q) (by omega)
      | _ => exact absurd hd.pur (by simp [pur])
end

abbrev s_shortest_cycle : Stmt := topS 1
theorem sc_shortest_cycle : FnScope ["cycle", "size"] ["cycle"] (defScope s_shortest_cycle) := ⟨rfl, rfl, rfl, by decide +kernel, rfl, by decide +kernel, by decide +kernel⟩
abbrev s_normalize : Stmt := topS 2
theorem sc_normalize : FnScope ["hand", "head", "cycle"] ["hand"] (defScope s_normalize) := ⟨rfl, rfl, rfl, by decide +kernel, rfl, by decide +kernel, by decide +kernel⟩
/-! ### hands by content -/
abbrev Stp := Int × Int
def stD (s : Stp) : D := .tup [.int s.1, .int s.2]
def handD (h c : List Stp) : D := .tup [.tup (h.map stD), .tup (c.map stD)]
theorem stD_inj {a b : Stp} (h : stD a = stD b) : a = b := by
  unfold stD at h
  cases a
  cases b
  simp at h
  simp [h]
theorem stDs_inj {xs ys : List Stp} (h : xs.map stD = ys.map stD) : xs = ys := by
  induction xs generalizing ys with
  | nil =>
    cases ys with
    | nil => rfl
    | cons y ys => cases h
  | cons x xs ih =>
    cases ys with
    | nil => cases h
    | cons y ys =>
      rw [List.map_cons, List.map_cons] at h
      injection h with h1 h2
      rw [stD_inj h1, ih h2]
theorem ok_st (s : Stp) : Ok 1 (stD s) := Ok.tup (n := 0) fun d hd => by
  rcases List.mem_cons.mp hd with rfl | hd
  · exact .int _
  · rcases List.mem_cons.mp hd with rfl | hd
    · exact .int _
    · cases hd
theorem ok_sts (xs : List Stp) : Ok 2 (.tup (xs.map stD)) := Ok.tup (n := 1) fun d hd => by
  obtain ⟨s, _, rfl⟩ := List.mem_map.mp hd
  exact ok_st s
theorem ok_hand (h c : List Stp) : Ok 3 (handD h c) := Ok.tup (n := 2) fun d hd => by
  rcases List.mem_cons.mp hd with rfl | hd
  · exact ok_sts _
  · rcases List.mem_cons.mp hd with rfl | hd
    · exact ok_sts _
    · cases hd
theorem dEq_st {a b : Stp} {S : Sto} {Q : KD} (h1 : a = b → Q (.bl true) S) (h2 : a ≠ b → Q (.bl false) S) : dEq (stD a) (stD b) S Q :=
  dEq_of (ok_st a) (ok_st b) (fun e => h1 (stD_inj e)) fun e => h2 fun z => e (by rw [z])
theorem dEq_sts {a b : List Stp} {S : Sto} {Q : KD} (h1 : a = b → Q (.bl true) S) (h2 : a ≠ b → Q (.bl false) S) : dEq (.tup (a.map stD)) (.tup (b.map stD)) S Q :=
  dEq_of (ok_sts a) (ok_sts b) (fun e => h1 (stDs_inj (by injection e))) fun e => h2 fun z => e (by rw [z])
theorem dNe_sts {a b : List Stp} {S : Sto} {Q : KD} (h1 : a = b → Q (.bl false) S) (h2 : a ≠ b → Q (.bl true) S) : dNe (.tup (a.map stD)) (.tup (b.map stD)) S Q :=
  dNe_of (ok_sts a) (ok_sts b) (fun e => h1 (stDs_inj (by injection e))) fun e => h2 fun z => e (by rw [z])
theorem gTup_st {t : WGs} {s : Stp} {E : EV} {S : Sto} {R : EV → Sto → Prop} : gTupD t (stD s) E S R = t [.int s.1, .int s.2] E S R := rfl
theorem gTup_hand {t : WGs} {h c : List Stp} {E : EV} {S : Sto} {R : EV → Sto → Prop} : gTupD t (handD h c) E S R = t [.tup (h.map stD), .tup (c.map stD)] E S R := rfl
/-- the parts of a hand's slices -/
theorem cut_to (xs : List Stp) (k : Nat) : cutD (xs.map stD) none (some (k : Int)) = (xs.take k).map stD := by rw [cutD_to, List.map_take]
theorem cut_from (xs : List Stp) (k : Nat) : cutD (xs.map stD) (some (k : Int)) none = (xs.drop k).map stD := by rw [cutD_from, List.map_drop]
theorem cut_init (xs : List Stp) : cutD (xs.map stD) none (some (-1)) = xs.dropLast.map stD := by rw [cutD_dropLast, List.map_dropLast]
theorem cut_last {xs : List Stp} {x : Stp} (h : xs.getLast? = some x) : cutD (xs.map stD) (some (-1)) none = [stD x] := cutD_last (by rw [List.getLast?_map, h]; rfl)
theorem rep_map (xs : List Stp) (k : Nat) : (List.replicate k (xs.map stD)).flatten = (List.replicate k xs).flatten.map stD := by
  rw [List.map_flatten, List.map_replicate]
def spShort : DSp := fun ds S Q _ => ∃ c : List Stp, ds = [.tup (c.map stD)] ∧ c ≠ [] ∧ c.length ≤ 1000 ∧ ∀ c' : List Stp, MH.Prim c' → (∀ n, MH.cs c' n = MH.cs c n) → c'.length ≤ c.length → Q (.tup (c'.map stD)) S
def spNorm : DSp := fun ds S Q _ => ∃ h c : List Stp, ds = [handD h c] ∧ c ≠ [] ∧ c.length ≤ 1000 ∧ h.length ≤ 1000 ∧
  ∀ h' c' : List Stp, MH.NF h' c' → (∀ n, MH.sq h' c' n = MH.sq h c n) → c'.length ≤ c.length → h'.length ≤ h.length → Q (handD h' c') S
section
variable {P : Program} {w : World} {K : PySem.W.Frag} {mg : Str → Option Value} {base : Heap} {C : Addr}
theorem ok_short {f : Addr} {fd : FuncData} (F : Fun K "shortest_cycle" "shortest_cycle" s_shortest_cycle f fd) (T : Txt mg) : DOk P w K mg base C 1 f fd ["cycle"] spShort := by
  refine dok_of F sc_shortest_cycle (fun ds S Q Xd h => ?_) (fun cdv A outer s B Ex ds S Q Xd hr dx h => ?_)
  · obtain ⟨c, rfl, _⟩ := h
    rfl
  · have sc := sc_shortest_cycle
    refine ⟨_, (dss_cons (ds_for (passes_of rfl) rfl (di_range2 T.b_range (da_cons de_int (da_cons (de_callB cd_len T.b_len (by decide +kernel) (da_cons (de_var 0) da_nil)) da_nil))) (dg_name 1 sc.nd) (dss_one (ds_if (dt_w (dw_and (dt_cmp (od_eq hr.units) (de_bin od_mod (de_callB cd_len T.b_len (by decide +kernel) (da_cons (de_var 0) da_nil)) (de_var 1)) de_int) (dw_and1 (dt_cmp (od_eq hr.units) (de_bin od_mul (de_slice (de_var 0) do_none (do_some (de_var 1))) (de_bin od_fdiv (de_callB cd_len T.b_len (by decide +kernel) (da_cons (de_var 0) da_nil)) (de_var 1))) (de_var 0))))) (dss_one (ds_ret (de_slice (de_var 0) do_none (do_some (de_var 1))))) dss_nil))) (dss_one (ds_ret (de_var 0)))), ?_⟩
    obtain ⟨c, rfl, hc, h1000, q⟩ := h
    have hl : 0 < c.length := List.length_pos_iff.mpr hc
    walk_at "go"
    intro _
    rw [List.length_map]
    refine ⟨by omega, ?_⟩
    refine forL_range (fun i E S1 => S1 = S ∧ (∃ x, E = [some (.tup (c.map stD)), x]) ∧ 1 ≤ i ∧ ∀ p : Nat, 0 < p → (p : Int) < i → ¬ (c.length % p = 0 ∧ MH.Per (MH.cs c) p)) _ _ (fun i E S1 i1 i2 hP nx hn => ?_) (fun E S1 hP => ?_) _ _ ⟨rfl, ⟨_, rfl⟩, Int.le_refl _, fun p h0 hp => by omega⟩
    · obtain ⟨rfl, ⟨x, rfl⟩, _, hq⟩ := hP
      obtain ⟨k, rfl⟩ := Int.eq_ofNat_of_zero_le (show 0 ≤ i by omega)
      have k0 : 0 < k := by omega
      have k1 : k < c.length := by omega
      have more : ¬ (c.length % k = 0 ∧ MH.Per (MH.cs c) k) → ∀ E, E = [some (D.tup (c.map stD)), some (D.int k)] → nx E S1 := fun no E e => hn _ _ ⟨rfl, ⟨_, e⟩, by omega, fun p h0 hp => by
        by_cases e : p = k
        · rw [e]; exact no
        · exact hq p h0 (by omega)⟩
      walk_at "go"
      intro _
      rw [List.length_map]
      refine ⟨by omega, dEq_int (fun e => ?_) fun e => ?_⟩
      · have e0 : c.length % k = 0 := by omega
        walk_at "go"
        rw [cut_to]
        intro _
        rw [List.length_map]
        have hd : (2 : Int) ≤ (c.length : Int) / (k : Int) := by
          have h1 : c.length / k * k = c.length := Nat.div_mul_cancel (Nat.dvd_of_mod_eq_zero e0)
          have h2 : 2 ≤ c.length / k := by
            rcases Nat.lt_or_ge (c.length / k) 2 with z | z
            · exfalso
              have : c.length / k * k ≤ 1 * k := Nat.mul_le_mul_right k (by omega)
              omega
            · exact z
          have : (2 : Int) ≤ ((c.length / k : Nat) : Int) := by omega
          simpa using this
        have hd2 : (c.length : Int) / (k : Int) ≤ 1000 := by
          have h1 : c.length / k ≤ c.length := Nat.div_le_self _ _
          have : ((c.length / k : Nat) : Int) ≤ 1000 := by omega
          simpa using this
        refine ⟨wide_div (b := 200) (by omega) (by omega) (by decide) (by decide), ?_⟩
        walk_at "go"
        refine ⟨⟨by omega, hd2, by simp only [List.length_map, List.length_take]; omega, fun z => ?_⟩, ?_⟩
        · have := congrArg List.length z
          simp only [List.length_map, List.length_take, List.length_nil] at this
          omega
        rw [rep_map]
        have en : ((c.length : Int) / (k : Int)).toNat = c.length / k := by
          have : (c.length : Int) / (k : Int) = ((c.length / k : Nat) : Int) := by simp
          rw [this]
          rfl
        rw [en]
        refine dEq_sts (fun e2 => ?_) fun e2 => ?_
        · have per := (MH.rep_iff k0 (Nat.le_of_lt k1) e0).mp e2
          walk_at "go"
          try rw [cut_to]
          refine .now (q _ (MH.prim_take k0 (Nat.le_of_lt k1) e0 per fun p h0 hp => hq p h0 (by omega)) (fun n => MH.cs_take k0 (Nat.le_of_lt k1) per n) ?_)
          rw [List.length_take]
          omega
        · walk_at "go"
          exact more (fun ⟨_, z⟩ => e2 ((MH.rep_iff k0 (Nat.le_of_lt k1) e0).mpr z)) _ rfl
      · walk_at "go"
        exact more (fun ⟨z, _⟩ => e (by omega)) _ rfl
    · obtain ⟨rfl, ⟨x, rfl⟩, _, hq⟩ := hP
      walk_at "go"
      exact .now (q _ (MH.prim_self hc fun p h0 hp => hq p h0 (by omega)) (fun _ => rfl) (Nat.le_refl _))
theorem ok_norm {f : Addr} {fd : FuncData} (F : Fun K "normalize" "normalize" s_normalize f fd) (T : Txt mg) (G_shortest_cycle : Df P w K mg base C "shortest_cycle" 1 ["cycle"] spShort) : DOk P w K mg base C 2 f fd ["hand"] spNorm := by
  refine dok_of F sc_normalize (fun ds S Q Xd h => ?_) (fun cdv A outer s B Ex ds S Q Xd hr dx h => ?_)
  · obtain ⟨h, c, rfl, _⟩ := h
    rfl
  · have sc := sc_normalize
    refine ⟨_, (dss_cons (ds_asg (de_var 0) (dg_tup (n := 2) rfl (dgs_cons (dgn 1 sc.nd) (dgs_cons (dgn 2 sc.nd) dgs_nil)))) (dss_cons (ds_set 2 sc.nd (de_callD G_shortest_cycle (hr.mono (by omega)) dx (da_cons (de_var 2) da_nil))) (dss_cons (ds_while (passes_of rfl) (dt_w (dw_and (dt_cmp (od_ne hr.units) (de_var 1) (de_tup da_nil)) (dw_and1 (dt_cmp (od_eq hr.units) (de_ix (de_var 1) (de_un ud_neg de_int)) (de_ix (de_var 2) (de_un ud_neg de_int)))))) (dss_cons (ds_set 1 sc.nd (de_slice (de_var 1) do_none (do_some (de_un ud_neg de_int)))) (dss_one (ds_set 2 sc.nd (de_bin od_add (de_slice (de_var 2) (do_some (de_un ud_neg de_int)) do_none) (de_slice (de_var 2) do_none (do_some (de_un ud_neg de_int)))))))) (dss_one (ds_ret (de_tup (da_cons (de_var 1) (da_cons (de_var 2) da_nil)))))))), ?_⟩
    obtain ⟨h, c, rfl, hc, c1000, h1000, q⟩ := h
    walk_at "go"
    rw [gTup_hand]
    walk_at "go"
    refine ⟨c, rfl, hc, c1000, fun c1 p1 same l1 => ?_⟩
    refine ⟨fun m E S1 => S1 = S ∧ ∃ h' c' : List Stp, E = [some (handD h c), some (.tup (h'.map stD)), some (.tup (c'.map stD))] ∧ m = h'.length ∧ MH.Prim c' ∧ (∀ n, MH.sq h' c' n = MH.sq h c n) ∧ c'.length ≤ c.length ∧ h'.length ≤ h.length,
      ⟨h.length, rfl, h, c1, rfl, rfl, p1, fun n => MH.sq_same_cycle same n, l1, Nat.le_refl _⟩, ?_⟩
    rintro m E S1 ⟨rfl, h', c', rfl, rfl, pr, sm, lc, lh⟩
    have fin : (∀ x, h'.getLast? = some x → c'.getLast? ≠ some x) → UpK Q (handD h' c') S1 := fun z => .now (q _ _ ⟨pr, z⟩ sm lc lh)
    walk_at "go"
    refine ⟨Nat.zero_le _, dNe_sts (b := []) (fun e => ?_) fun e => ?_⟩
    · subst e
      walk_at "go"
      exact ⟨by decide, fin fun x hx => by cases hx⟩
    · walk_at "go"
      obtain ⟨x, hx⟩ : ∃ x, h'.getLast? = some x := by
        cases z : h'.getLast? with
        | none => exact absurd (List.getLast?_eq_none_iff.mp z) e
        | some x => exact ⟨x, rfl⟩
      obtain ⟨y, hy⟩ : ∃ y, c'.getLast? = some y := by
        cases z : c'.getLast? with
        | none => exact absurd (List.getLast?_eq_none_iff.mp z) pr.1
        | some x => exact ⟨x, rfl⟩
      refine ⟨stD x, atI_neg1 (by rw [List.getLast?_map, hx]; rfl), stD y, atI_neg1 (by rw [List.getLast?_map, hy]; rfl), dEq_st (fun e2 => ?_) fun e2 => ?_⟩
      · subst e2
        walk_at "go"
        rw [cut_init, cut_init, cut_last hy]
        have hpos : 0 < h'.length := List.length_pos_iff.mpr e
        have cpos : 0 < c'.length := List.length_pos_iff.mpr pr.1
        refine ⟨by rw [List.length_map, List.length_dropLast]; show 1 + _ ≤ sizeLine; rw [PySem.sizeLine_eq]; omega, h'.dropLast.length, by rw [List.length_dropLast]; omega, h'.dropLast, x :: c'.dropLast, rfl, rfl, MH.prim_rot pr hy, fun n => ?_, ?_, ?_⟩
        · rw [MH.sq_rot hx hy]
          exact sm n
        · rw [List.length_cons, List.length_dropLast]
          omega
        · rw [List.length_dropLast]
          omega
      · walk_at "go"
        refine ⟨by decide, fin fun z hz hw => ?_⟩
        rw [hx] at hz
        rw [hy] at hw
        cases hz
        cases hw
        exact e2 rfl
end

abbrev s__law_step : Stmt := topS 8
theorem sc__law_step : FnScope ["_law_hand", "_law_at", "_law_head", "_law_cycle"] ["_law_hand", "_law_at"] (defScope s__law_step) := ⟨rfl, rfl, rfl, by decide +kernel, rfl, by decide +kernel, by decide +kernel⟩
abbrev s__law_first_steps : Stmt := topS 9
theorem sc__law_first_steps : FnScope ["_law_hand", "_law_size", "_law_at"] ["_law_hand", "_law_size"] (defScope s__law_first_steps) := ⟨rfl, rfl, rfl, by decide +kernel, rfl, by decide +kernel, by decide +kernel⟩
abbrev s__law_from : Stmt := topS 10
theorem sc__law_from : FnScope ["_law_hand", "_law_at", "_law_head", "_law_cycle", "_law_turn"] ["_law_hand", "_law_at"] (defScope s__law_from) := ⟨rfl, rfl, rfl, by decide +kernel, rfl, by decide +kernel, by decide +kernel⟩
abbrev zs : Stp := (0, 0)
def spStep : DSp := fun ds S Q _ => ∃ (h c : List Stp) (n : Nat), ds = [handD h c, .int n] ∧ c ≠ [] ∧ Q (stD (MH.stp zs h c n)) S
def spFirst : DSp := fun ds S Q _ => ∃ (h c : List Stp) (n : Nat), ds = [handD h c, .int n] ∧ c ≠ [] ∧ n ≤ 100000 ∧ Q (.lst ((MH.pre zs h c n).map stD)) S
/-- from a place on, a hand without a head -/
def spFrom : DSp := fun ds S Q _ => ∃ (c : List Stp) (n : Nat), ds = [handD [] c, .int n] ∧ c ≠ [] ∧ c.length ≤ 100000 ∧ ∀ c' : List Stp, c'.length = c.length → (∀ i, MH.cs c' i = MH.cs c (n + i)) → Q (handD [] c') S
theorem cs_from {α : Type} {c : List α} (hc : c ≠ []) (t i : Nat) (ht : t < c.length) : MH.cs (c.drop t ++ c.take t) i = MH.cs c (t + i) := by
  have hl : 0 < c.length := List.length_pos_iff.mpr hc
  unfold MH.cs
  have e : (c.drop t ++ c.take t).length = c.length := by rw [List.length_append, List.length_drop, List.length_take]; omega
  rw [e]
  have hm : i % c.length < c.length := Nat.mod_lt _ hl
  by_cases h : i % c.length < c.length - t
  · rw [List.getElem?_append_left (by rw [List.length_drop]; exact h), List.getElem?_drop]
    congr 1
    rw [Nat.add_mod t i, Nat.mod_eq_of_lt ht, Nat.mod_eq_of_lt (show t + i % c.length < c.length by omega)]
  · rw [List.getElem?_append_right (by rw [List.length_drop]; omega), List.length_drop, List.getElem?_take_of_lt (show i % c.length - (c.length - t) < t by omega)]
    congr 1
    have e2 : (t + i % c.length) % c.length = t + i % c.length - c.length := by
      rw [Nat.mod_eq_sub_mod (by omega), Nat.mod_eq_of_lt (by omega)]
    rw [Nat.add_mod t i, Nat.mod_eq_of_lt ht, e2]
    omega
section
variable {P : Program} {w : World} {K : PySem.W.Frag} {mg : Str → Option Value} {base : Heap} {C : Addr}
theorem ok_step {f : Addr} {fd : FuncData} (F : Fun K "_law_step" "_law_step" s__law_step f fd) (T : Txt mg) : DOk P w K mg base C 1 f fd ["_law_hand", "_law_at"] spStep := by
  refine dok_of F sc__law_step (fun ds S Q Xd h => ?_) (fun cdv A outer s B Ex ds S Q Xd hr dx h => ?_)
  · obtain ⟨h, c, n, rfl, _⟩ := h
    rfl
  · have sc := sc__law_step
    refine ⟨_, (dss_cons (ds_asg (de_var 0) (dg_tup (n := 2) rfl (dgs_cons (dgn 2 sc.nd) (dgs_cons (dgn 3 sc.nd) dgs_nil)))) (dss_one (ds_ret (de_ife (dt_cmp od_lt (de_var 1) (de_callB cd_len T.b_len (by decide +kernel) (da_cons (de_var 2) da_nil))) (de_ix (de_var 2) (de_var 1)) (de_ix (de_var 3) (de_bin od_mod (de_bin od_sub (de_var 1) (de_callB cd_len T.b_len (by decide +kernel) (da_cons (de_var 2) da_nil))) (de_callB cd_len T.b_len (by decide +kernel) (da_cons (de_var 3) da_nil)))))))), ?_⟩
    obtain ⟨h, c, n, rfl, hc, q⟩ := h
    have hl : 0 < c.length := List.length_pos_iff.mpr hc
    have e := MH.stp_some (z := zs) (h := h) hc n
    unfold MH.sq at e
    walk_at "go"
    rw [gTup_hand]
    walk_at "go"
    intro _
    rw [List.length_map]
    by_cases hn : n < h.length
    · rw [decide_eq_true (by omega)]
      rw [if_pos hn] at e
      walk_at "go"
      exact ⟨_, atI_nat (by rw [List.getElem?_map, e]; rfl), .now q⟩
    · rw [decide_eq_false (by omega)]
      rw [if_neg hn] at e
      walk_at "go"
      intro _ _
      simp only [List.length_map]
      have em : ((n : Int) - (h.length : Int)) % (c.length : Int) = (((n - h.length) % c.length : Nat) : Int) := by
        rw [Int.natCast_emod, Int.natCast_sub (by omega)]
      refine ⟨by omega, stD (MH.stp zs h c n), ?_, .now q⟩
      rw [em]
      exact atI_nat (by rw [List.getElem?_map, e]; rfl)
theorem ok_first {f : Addr} {fd : FuncData} (F : Fun K "_law_first_steps" "_law_first_steps" s__law_first_steps f fd) (T : Txt mg) (G__law_step : Df P w K mg base C "_law_step" 1 ["_law_hand", "_law_at"] spStep) : DOk P w K mg base C 2 f fd ["_law_hand", "_law_size"] spFirst := by
  refine dok_of F sc__law_first_steps (fun ds S Q Xd h => ?_) (fun cdv A outer s B Ex ds S Q Xd hr dx h => ?_)
  · obtain ⟨h, c, n, rfl, _⟩ := h
    rfl
  · have sc := sc__law_first_steps
    refine ⟨_, (dss_one (ds_ret (de_lc true [("_law_at", 2)] rfl sc.nd (blkOk_by (N := ["_law_hand", "_law_size", "_law_at"]) (sc := defScope s__law_first_steps) (by decide +kernel)) (di_range1 T.b_range (da_cons (de_var 1) da_nil)) (fun _ _ _ _ _ _ => (dg_name 2 sc.nd)) (fun _ _ _ _ _ _ => dts_nil) (fun _ _ _ _ _ _ => (de_callD G__law_step (hr.mono (by omega)) dx0 (da_cons (de_var 0) (da_cons (de_var 2) da_nil))))))), ?_⟩
    obtain ⟨h, c, n, rfl, hc, hn, q⟩ := h
    walk_at "go"
    refine ⟨by omega, ?_⟩
    refine lc_map (fun d => stD (MH.stp zs h c (intOf d).toNat)) (by rw [rngD_length, PySem.sizeLine_eq]; omega) (fun d hd S1 K1 hK => ?_) ?_
    · obtain ⟨i, hi⟩ := List.getElem?_of_mem hd
      obtain ⟨i1, rfl⟩ := rngD_get hi
      walk_at "go"
      refine ⟨h, c, i, by simp [wipeD], hc, ?_⟩
      have e : (intOf (.int (0 + (i : Int)))).toNat = i := by
        show (0 + (i : Int)).toNat = i
        omega
      rw [e] at hK
      exact hK
    · have e : (rngD 0 (n : Int).toNat).map (fun d => stD (MH.stp zs h c (intOf d).toNat)) = (MH.pre zs h c n).map stD := by
        unfold rngD MH.pre
        rw [List.map_map, List.map_map]
        refine List.map_congr_left fun i _ => ?_
        show stD (MH.stp zs h c (0 + (i : Int)).toNat) = _
        rw [show (0 + (i : Int)).toNat = i by omega]
        rfl
      rw [e]
      exact .now q
theorem ok_from {f : Addr} {fd : FuncData} (F : Fun K "_law_from" "_law_from" s__law_from f fd) (T : Txt mg) : DOk P w K mg base C 1 f fd ["_law_hand", "_law_at"] spFrom := by
  refine dok_of F sc__law_from (fun ds S Q Xd h => ?_) (fun cdv A outer s B Ex ds S Q Xd hr dx h => ?_)
  · obtain ⟨c, n, rfl, _⟩ := h
    rfl
  · have sc := sc__law_from
    refine ⟨_, (dss_cons (ds_asg (de_var 0) (dg_tup (n := 2) rfl (dgs_cons (dgn 2 sc.nd) (dgs_cons (dgn 3 sc.nd) dgs_nil)))) (dss_cons (ds_if (dt_cmp od_le (de_var 1) (de_callB cd_len T.b_len (by decide +kernel) (da_cons (de_var 2) da_nil))) (dss_one (ds_ret (de_tup (da_cons (de_slice (de_var 2) (do_some (de_var 1)) do_none) (da_cons (de_var 3) da_nil))))) dss_nil) (dss_cons (ds_set 4 sc.nd (de_bin od_mod (de_bin od_sub (de_var 1) (de_callB cd_len T.b_len (by decide +kernel) (da_cons (de_var 2) da_nil))) (de_callB cd_len T.b_len (by decide +kernel) (da_cons (de_var 3) da_nil)))) (dss_one (ds_ret (de_tup (da_cons (de_tup da_nil) (da_cons (de_bin od_add (de_slice (de_var 3) (do_some (de_var 4)) do_none) (de_slice (de_var 3) do_none (do_some (de_var 4)))) da_nil)))))))), ?_⟩
    obtain ⟨c, n, rfl, hc, h5, q⟩ := h
    have hl : 0 < c.length := List.length_pos_iff.mpr hc
    walk_at "go"
    rw [gTup_hand]
    walk_at "go"
    intro _
    by_cases hn : n = 0
    · subst hn
      rw [decide_eq_true (by decide)]
      walk_at "go"
      refine ⟨by decide, ?_⟩
      rw [show cutD [] (some ((0 : Nat) : Int)) none = ([] : List D) by rfl]
      exact .now (q c rfl fun i => by rw [Nat.zero_add])
    · rw [decide_eq_false (by omega)]
      walk_at "go"
      intro _ _
      simp only [List.length_map]
      have em : ((n : Int) - ((0 : Nat) : Int)) % (c.length : Int) = ((n % c.length : Nat) : Int) := by
        rw [Int.natCast_emod]
        simp
      refine ⟨by omega, Nat.zero_le _, ?_⟩
      rw [em, cut_from, cut_to]
      have ht : n % c.length < c.length := Nat.mod_lt _ hl
      refine ⟨by simp only [List.length_map, List.length_drop, List.length_take]; rw [PySem.sizeLine_eq]; omega, by decide, ?_⟩
      rw [← List.map_append]
      refine .now (q _ (by rw [List.length_append, List.length_drop, List.length_take]; omega) fun i => ?_)
      rw [cs_from hc _ _ ht, (MH.cs_per c).at_mod (n + i), (MH.cs_per c).at_mod (n % c.length + i)]
      congr 1
      rw [Nat.add_mod, Nat.mod_mod, ← Nat.add_mod]
end

abbrev s__law_unrolled : Stmt := topS 11
theorem sc__law_unrolled : FnScope ["_law_bag_here", "_law_hand", "_law_head", "_law_cycle", "_law_more"] ["_law_bag_here", "_law_hand"] (defScope s__law_unrolled) := ⟨rfl, rfl, rfl, by decide +kernel, rfl, by decide +kernel, by decide +kernel⟩
abbrev s__law_tried_normal : Stmt := topS 12
theorem sc__law_tried_normal : FnScope ["_law_hand", "_law_head", "_law_cycle", "_law_total", "_law_size", "_law_first", "_law_at", "_law_k"] ["_law_hand"] (defScope s__law_tried_normal) := ⟨rfl, rfl, rfl, by decide +kernel, rfl, by decide +kernel, by decide +kernel⟩
abbrev s_law : Stmt := topS 13
theorem sc_law : FnScope ["_law_script", "_law_bag_here", "_law_turn", "_law_most", "_law_some", "_law_head", "_law_hand", "_law_due", "_law_row", "_law_k"] ["_law_script"] (defScope s_law) := ⟨rfl, rfl, rfl, by decide +kernel, rfl, by decide +kernel, by decide +kernel⟩
def spUnr : DSp := fun ds S Q _ => ∃ (p : Addr) (h c : List Stp), ds = [.ref p, handD h c] ∧ BagAt S p ∧ c ≠ [] ∧ c.length ≤ 1000 ∧ h.length ≤ 1000 ∧
  ∀ (h' c' : List Stp) S', BagAt S' p → Off p S S' → c' ≠ [] → (∀ n, MH.sq h' c' n = MH.sq h c n) → h'.length ≤ h.length + 2 → c'.length ≤ 2 * c.length → Q (handD h' c') S'
def spTried : DSp := fun ds S Q _ => ∃ h c : List Stp, ds = [handD h c] ∧ c ≠ [] ∧ c.length ≤ 1000 ∧ h.length ≤ 1000 ∧
  ∀ h' c' : List Stp, MH.NF h' c' → (∀ n, MH.sq h' c' n = MH.sq h c n) → c'.length ≤ c.length → h'.length ≤ h.length → Q (handD h' c') S
section
variable {P : Program} {w : World} {K : PySem.W.Frag} {mg : Str → Option Value} {base : Heap} {C : Addr}
theorem ok_unrolled {f : Addr} {fd : FuncData} (F : Fun K "_law_unrolled" "_law_unrolled" s__law_unrolled f fd) (T : Txt mg) (G__law_pull : Df P w K mg base C "_law_pull" 1 ["_law_bag_here", "_law_many"] spPull) (G__law_first_steps : Df P w K mg base C "_law_first_steps" 2 ["_law_hand", "_law_size"] spFirst) (G__law_from : Df P w K mg base C "_law_from" 1 ["_law_hand", "_law_at"] spFrom) :
    DOk P w K mg base C 3 f fd ["_law_bag_here", "_law_hand"] spUnr := by
  refine dok_of F sc__law_unrolled (fun ds S Q Xd h => ?_) (fun cdv A outer s B Ex ds S Q Xd hr dx h => ?_)
  · obtain ⟨p, h, c, rfl, _⟩ := h
    rfl
  · have sc := sc__law_unrolled
    refine ⟨_, (dss_cons (ds_asg (de_var 1) (dg_tup (n := 2) rfl (dgs_cons (dgn 2 sc.nd) (dgs_cons (dgn 3 sc.nd) dgs_nil)))) (dss_cons (ds_if (dt_cmp (od_eq hr.units) (de_var 3) (de_tup da_nil)) (dss_one (ds_ret (de_var 1))) dss_nil) (dss_cons (ds_set 4 sc.nd (de_callD G__law_pull (hr.mono (by omega)) dx (da_cons (de_var 0) (da_cons de_int da_nil)))) (dss_cons (ds_set 2 sc.nd (de_bin od_add (de_var 2) (de_callTy cd_tuple T.b_tuple (by decide +kernel) (da_cons (de_callD G__law_first_steps (hr.mono (by omega)) dx (da_cons (de_tup (da_cons (de_tup da_nil) (da_cons (de_var 3) da_nil))) (da_cons (de_var 4) da_nil))) da_nil)))) (dss_one (ds_ret (de_tup (da_cons (de_var 2) (da_cons (de_bin od_mul (de_ix (de_callD G__law_from (hr.mono (by omega)) dx (da_cons (de_tup (da_cons (de_tup da_nil) (da_cons (de_var 3) da_nil))) (da_cons (de_var 4) da_nil))) de_int) (de_bin od_add de_int (de_callD G__law_pull (hr.mono (by omega)) dx (da_cons (de_var 0) (da_cons de_int da_nil))))) da_nil))))))))), ?_⟩
    obtain ⟨p, h, c, rfl, hb, hc, c1000, h1000, q⟩ := h
    walk_at "go"
    rw [gTup_hand]
    walk_at "go"
    refine ⟨Nat.zero_le _, dEq_sts (b := []) (fun e => absurd e hc) fun _ => ?_⟩
    walk_at "go"
    refine ⟨p, 3, rfl, hb, by decide, by decide, fun r S1 hb1 off1 r0 r3 => ?_⟩
    obtain ⟨m, rfl⟩ := Int.eq_ofNat_of_zero_le r0
    walk_at "go"
    refine ⟨Nat.zero_le _, by decide, [], c, m, rfl, hc, by omega, ?_⟩
    walk_at "go"
    have hpl : (MH.pre zs [] c m).length = m := MH.pre_len
    refine ⟨by simp only [List.length_map]; rw [hpl, PySem.sizeLine_eq]; omega, Nat.zero_le _, by decide, c, m, rfl, hc, by omega, fun c1 l1 e1 => ?_⟩
    refine ⟨_, rfl, ?_⟩
    refine ⟨p, 2, rfl, hb1, by decide, by decide, fun r2 S2 hb2 off2 r20 r22 => ?_⟩
    walk_at "go"
    have hc1 : c1 ≠ [] := fun z => by
      rw [z] at l1
      have := List.length_pos_iff.mpr hc
      simp at l1
      omega
    refine ⟨⟨by omega, by omega, by rw [List.length_map]; omega, fun z => hc1 (List.map_eq_nil_iff.mp z)⟩, by decide, ?_⟩
    rw [← List.map_append, rep_map]
    refine .now (q _ _ S2 hb2 (off1.trans off2) (fun z => ?_) (fun n => MH.sq_unroll hc l1 e1 (by omega) n) ?_ ?_)
    · have := congrArg List.length z
      rw [MH.rep_len, List.length_nil] at this
      have l0 := List.length_pos_iff.mpr hc1
      have k0 : 0 < (1 + r2).toNat := by omega
      exact absurd this (Nat.ne_of_gt (Nat.mul_pos k0 l0))
    · rw [List.length_append, hpl]
      omega
    · rw [MH.rep_len, l1]
      exact Nat.mul_le_mul_right _ (by omega)
theorem ok_tried {f : Addr} {fd : FuncData} (F : Fun K "_law_tried_normal" "_law_tried_normal" s__law_tried_normal f fd) (T : Txt mg) (G__law_step : Df P w K mg base C "_law_step" 1 ["_law_hand", "_law_at"] spStep) (G__law_first_steps : Df P w K mg base C "_law_first_steps" 2 ["_law_hand", "_law_size"] spFirst) :
    DOk P w K mg base C 3 f fd ["_law_hand"] spTried := by
  refine dok_of F sc__law_tried_normal (fun ds S Q Xd h => ?_) (fun cdv A outer s B Ex ds S Q Xd hr dx h => ?_)
  · obtain ⟨h, c, rfl, _⟩ := h
    rfl
  · have sc := sc__law_tried_normal
    refine ⟨_, (dss_cons (ds_asg (de_var 0) (dg_tup (n := 2) rfl (dgs_cons (dgn 1 sc.nd) (dgs_cons (dgn 2 sc.nd) dgs_nil)))) (dss_cons (ds_set 3 sc.nd (de_bin od_add (de_callB cd_len T.b_len (by decide +kernel) (da_cons (de_var 1) da_nil)) (de_bin od_mul de_int (de_callB cd_len T.b_len (by decide +kernel) (da_cons (de_var 2) da_nil))))) (dss_cons (ds_for (passes_of rfl) rfl (di_range2 T.b_range (da_cons de_int (da_cons (de_bin od_add (de_callB cd_len T.b_len (by decide +kernel) (da_cons (de_var 2) da_nil)) de_int) da_nil))) (dg_name 4 sc.nd) (dss_one (ds_for (passes_of rfl) rfl (di_range1 T.b_range (da_cons (de_bin od_add (de_callB cd_len T.b_len (by decide +kernel) (da_cons (de_var 1) da_nil)) de_int) da_nil)) (dg_name 5 sc.nd) (dss_one (ds_if (dt_val (de_callB (cd_all rfl) T.b_all (by decide +kernel) (da_cons (de_lc true [("_law_at", 6)] rfl sc.nd (blkOk_by (N := ["_law_hand", "_law_head", "_law_cycle", "_law_total", "_law_size", "_law_first", "_law_at", "_law_k"]) (sc := defScope s__law_tried_normal) (by decide +kernel)) (di_range2 T.b_range (da_cons (de_var 5) (da_cons (de_var 3) da_nil))) (fun _ _ _ _ _ _ => (dg_name 6 sc.nd)) (fun _ _ _ _ _ _ => dts_nil) (fun _ _ _ _ _ _ => (de_cmp (od_eq hr.units) (de_callD G__law_step (hr.mono (by omega)) dx0 (da_cons (de_var 0) (da_cons (de_var 6) da_nil))) (de_callD G__law_step (hr.mono (by omega)) dx0 (da_cons (de_var 0) (da_cons (de_bin od_add (de_var 6) (de_var 4)) da_nil)))))) da_nil))) (dss_one (ds_ret (de_tup (da_cons (de_callTy cd_tuple T.b_tuple (by decide +kernel) (da_cons (de_callD G__law_first_steps (hr.mono (by omega)) dx (da_cons (de_var 0) (da_cons (de_var 5) da_nil))) da_nil)) (da_cons (de_callTy cd_tuple T.b_tuple (by decide +kernel) (da_cons (de_lc true [("_law_k", 7)] rfl sc.nd (blkOk_by (N := ["_law_hand", "_law_head", "_law_cycle", "_law_total", "_law_size", "_law_first", "_law_at", "_law_k"]) (sc := defScope s__law_tried_normal) (by decide +kernel)) (di_range1 T.b_range (da_cons (de_var 4) da_nil)) (fun _ _ _ _ _ _ => (dg_name 7 sc.nd)) (fun _ _ _ _ _ _ => dts_nil) (fun _ _ _ _ _ _ => (de_callD G__law_step (hr.mono (by omega)) dx0 (da_cons (de_var 0) (da_cons (de_bin od_add (de_var 5) (de_var 7)) da_nil))))) da_nil)) da_nil))))) dss_nil))))) (dss_one (ds_ret (de_var 0)))))), ?_⟩
    obtain ⟨h, c, rfl, hc, c1000, h1000, q⟩ := h
    have hl : 0 < c.length := List.length_pos_iff.mpr hc
    walk_at "go"
    rw [gTup_hand]
    walk_at "go"
    intro _ _
    refine ⟨?_, ?_⟩
    · simp only [List.length_map]
      exact mul_small (by decide) (by omega)
    intro _
    simp only [List.length_map]
    refine ⟨by omega, ?_⟩
    have stp_eq : ∀ i j : Nat, MH.stp zs h c i = MH.stp zs h c j ↔ MH.sq h c i = MH.sq h c j := fun i j => by
      rw [MH.stp_some (z := zs) hc i, MH.stp_some (z := zs) hc j]
      exact ⟨fun e => by rw [e], fun e => Option.some.inj e⟩
    refine forL_range (fun i E S1 => S1 = S ∧ (∃ x5 x6 x7 x8 , E = [some (handD h c), some (.tup (h.map stD)), some (.tup (c.map stD)), some (.int ((h.length : Int) + 2 * (c.length : Int))), x5, x6, x7, x8]) ∧ 1 ≤ i ∧ ∀ p : Nat, 0 < p → (p : Int) < i → ¬ MH.Per (MH.cs c) p) _ _ (fun i E S1 i1 i2 hP nx hn => ?_) (fun E S1 hP => ?_) _ _ ⟨rfl, ⟨_, _, _, _, rfl⟩, Int.le_refl _, fun p h0 hp => by omega⟩
    · obtain ⟨rfl, ⟨x5, x6, x7, x8, rfl⟩, _, hq⟩ := hP
      obtain ⟨s0, rfl⟩ := Int.eq_ofNat_of_zero_le (show 0 ≤ i by omega)
      have p0 : 0 < s0 := by omega
      have p1 : s0 ≤ c.length := by omega
      walk_at "go"
      intro _
      simp only [List.length_map]
      refine ⟨by omega, ?_⟩
      refine forL_range (fun j E S2 => S2 = S1 ∧ (∃ x6 x7 x8 , E = [some (handD h c), some (.tup (h.map stD)), some (.tup (c.map stD)), some (.int ((h.length : Int) + 2 * (c.length : Int))), some (.int s0), x6, x7, x8]) ∧ 0 ≤ j ∧ ∀ g : Nat, (g : Int) < j → ¬ ∀ n, g ≤ n → n < h.length + 2 * c.length → MH.sq h c n = MH.sq h c (n + s0)) _ _ (fun j E S2 j1 j2 hP2 nx2 hn2 => ?_) (fun E S2 hP2 => ?_) _ _ ⟨rfl, ⟨_, _, _, rfl⟩, Int.le_refl _, fun g hg => by omega⟩
      · obtain ⟨rfl, ⟨x6, x7, x8, rfl⟩, _, hg⟩ := hP2
        obtain ⟨f0, rfl⟩ := Int.eq_ofNat_of_zero_le (show 0 ≤ j by omega)
        have f1 : f0 ≤ h.length := by omega
        walk_at "go"
        refine ⟨by omega, ?_⟩
        have en : ((h.length : Int) + 2 * (c.length : Int) - (f0 : Int)).toNat = h.length + 2 * c.length - f0 := by omega
        rw [en]
        refine lc_map (fun d => .bl (decide (MH.stp zs h c (intOf d).toNat = MH.stp zs h c ((intOf d).toNat + s0)))) (by rw [rngD_length, PySem.sizeLine_eq]; omega) (fun d hd S1 K1 hK => ?_) ?_
        · obtain ⟨i, hi⟩ := List.getElem?_of_mem hd
          obtain ⟨i1, rfl⟩ := rngD_get hi
          have ei : (intOf (.int ((f0 : Int) + (i : Int)))).toNat = f0 + i := by
            show ((f0 : Int) + (i : Int)).toNat = f0 + i
            omega
          rw [ei] at hK
          walk_at "go"
          refine ⟨h, c, f0 + i, by simp [wipeD], hc, ?_⟩
          walk_at "go"
          refine ⟨h, c, f0 + i + s0, by simp [wipeD], hc, ?_⟩
          refine dEq_st (fun e => ?_) fun e => ?_
          · rw [decide_eq_true e] at hK
            exact hK
          · rw [decide_eq_false e] at hK
            exact hK
        · walk_at "go"
          refine ⟨(List.range (h.length + 2 * c.length - f0)).map fun i => decide (MH.stp zs h c (f0 + i) = MH.stp zs h c (f0 + i + s0)), ?_, ?_⟩
          · unfold rngD
            rw [List.map_map, List.map_map]
            refine List.map_congr_left fun i _ => ?_
            show D.bl (decide (MH.stp zs h c ((f0 : Int) + (i : Int)).toNat = MH.stp zs h c (((f0 : Int) + (i : Int)).toNat + s0))) = _
            rw [show ((f0 : Int) + (i : Int)).toNat = f0 + i by omega]
            rfl
          · cases ha : List.all ((List.range (h.length + 2 * c.length - f0)).map fun i => decide (MH.stp zs h c (f0 + i) = MH.stp zs h c (f0 + i + s0))) id with
            | true =>
              have hw : ∀ n, f0 ≤ n → n < h.length + 2 * c.length → MH.sq h c n = MH.sq h c (n + s0) := fun n h1 h2 => by
                rw [List.all_eq_true] at ha
                have := ha (decide (MH.stp zs h c (f0 + (n - f0)) = MH.stp zs h c (f0 + (n - f0) + s0))) (List.mem_map.mpr ⟨n - f0, List.mem_range.mpr (by omega), rfl⟩)
                rw [show f0 + (n - f0) = n by omega] at this
                exact (stp_eq _ _).mp (of_decide_eq_true this)
              walk_at "go"
              refine ⟨h, c, f0, rfl, hc, by omega, ?_⟩
              walk_at "go"
              refine ⟨by omega, ?_⟩
              refine lc_map (fun d => stD (MH.stp zs h c (f0 + (intOf d).toNat))) (by rw [rngD_length, PySem.sizeLine_eq]; omega) (fun d hd S1 K1 hK => ?_) ?_
              · obtain ⟨i, hi⟩ := List.getElem?_of_mem hd
                obtain ⟨i1, rfl⟩ := rngD_get hi
                have ei : (intOf (.int (0 + (i : Int)))).toNat = i := by
                  show (0 + (i : Int)).toNat = i
                  omega
                rw [ei] at hK
                walk_at "go"
                refine ⟨h, c, f0 + i, by simp [wipeD], hc, ?_⟩
                exact hK
              · have ew : (rngD 0 (s0 : Int).toNat).map (fun d => stD (MH.stp zs h c (f0 + (intOf d).toNat))) = (MH.win zs h c f0 s0).map stD := by
                  unfold rngD MH.win
                  rw [List.map_map, List.map_map]
                  refine List.map_congr_left fun i _ => ?_
                  show stD (MH.stp zs h c (f0 + (0 + (i : Int)).toNat)) = _
                  rw [show (0 + (i : Int)).toNat = i by omega]
                  rfl
                rw [ew]
                walk_at "go"
                refine ⟨by decide, .now (q _ _ (MH.tried_nf hc f1 p0 hw (fun p h0 hp => hq p h0 (by omega)) fun g hg1 => hg g (by omega)) (MH.tried_same hc f1 p0 hw) ?_ ?_)⟩
                · rw [MH.win_len]
                  exact p1
                · rw [MH.pre_len]
                  exact f1
            | false =>
              walk_at "go"
              refine hn2 _ _ ⟨rfl, ⟨_, _, _, rfl⟩, by omega, fun g hg1 => ?_⟩
              by_cases eg : g = f0
              · subst eg
                intro hw
                have : List.all ((List.range (h.length + 2 * c.length - g)).map fun i => decide (MH.stp zs h c (g + i) = MH.stp zs h c (g + i + s0))) id = true := by
                  rw [List.all_eq_true]
                  intro b hb
                  obtain ⟨i, hi, rfl⟩ := List.mem_map.mp hb
                  have := List.mem_range.mp hi
                  exact decide_eq_true ((stp_eq _ _).mpr (hw (g + i) (by omega) (by omega)))
                rw [this] at ha
                cases ha
              · exact hg g (by omega)
      · obtain ⟨rfl, ⟨x6, x7, x8, rfl⟩, _, hg⟩ := hP2
        refine hn _ _ ⟨rfl, ⟨_, _, _, _, rfl⟩, by omega, fun p h0 hp => ?_⟩
        by_cases ep : p = s0
        · subst ep
          intro per
          refine hg h.length (by omega) fun n h1 _ => ?_
          rw [MH.sq_tail h1, MH.sq_tail (by omega), show n + p - h.length = (n - h.length) + p by omega, per]
        · exact hq p h0 (by omega)
    · obtain ⟨rfl, _, _, hq⟩ := hP
      exact absurd (MH.cs_per c) (hq c.length hl (by omega))
theorem ok_law {f : Addr} {fd : FuncData} (F : Fun K "law" "law" s_law f fd) (T : Txt mg) (G__law_bag : Df P w K mg base C "_law_bag" 1 ["_law_script"] spBag) (G__law_pull : Df P w K mg base C "_law_pull" 1 ["_law_bag_here", "_law_many"] spPull) (G__law_of : Df P w K mg base C "_law_of" 2 ["_law_bag_here", "_law_things"] spOf)
    (G__law_like : Df P w K mg base C "_law_like" 6 ["_law_found", "_law_due"] (spLike 6)) (G__law_tried_normal : Df P w K mg base C "_law_tried_normal" 3 ["_law_hand"] spTried) (G_normalize : Df P w K mg base C "normalize" 2 ["hand"] spNorm) (G__law_unrolled : Df P w K mg base C "_law_unrolled" 3 ["_law_bag_here", "_law_hand"] spUnr) :
    DOk P w K mg base C 7 f fd ["_law_script"] (spTop 63) := by
  refine dok_of F sc_law (fun ds S Q Xd h => ?_) (fun cdv A outer s B Ex ds S Q Xd hr dx h => ?_)
  · obtain ⟨ns, rfl, _⟩ := h
    rfl
  · have sc := sc_law
    refine ⟨_, (dss_cons (ds_set 1 sc.nd (de_callD G__law_bag (hr.mono (by omega)) dx (da_cons (de_var 0) da_nil))) (dss_cons (ds_for (passes_of rfl) rfl (di_range1 T.b_range (da_cons de_int da_nil)) (dg_name 2 sc.nd) (dss_cons (ds_set 3 sc.nd (de_callD G__law_of (hr.mono (by omega)) dx (da_cons (de_var 1) (da_cons (de_lst (da_cons de_int (da_cons de_int (da_cons de_int (da_cons de_int da_nil))))) da_nil)))) (dss_cons (ds_set 4 sc.nd (de_lc true [("_law_k", 9)] rfl sc.nd (blkOk_by (N := ["_law_script", "_law_bag_here", "_law_turn", "_law_most", "_law_some", "_law_head", "_law_hand", "_law_due", "_law_row", "_law_k"]) (sc := defScope s_law) (by decide +kernel)) (di_range1 T.b_range (da_cons (de_bin od_add de_int (de_callD G__law_pull (hr.mono (by omega)) dx (da_cons (de_var 1) (da_cons de_int da_nil)))) da_nil)) (fun _ _ _ _ _ _ => (dg_name 9 sc.nd)) (fun _ _ _ _ _ _ => dts_nil) (fun _ _ _ _ _ _ => (de_tup (da_cons (de_callD G__law_pull (hr.mono (by omega)) dx0 (da_cons (de_var 1) (da_cons (de_var 3) da_nil))) (da_cons (de_callD G__law_pull (hr.mono (by omega)) dx0 (da_cons (de_var 1) (da_cons de_int da_nil))) da_nil)))))) (dss_cons (ds_set 5 sc.nd (de_callTy cd_tuple T.b_tuple (by decide +kernel) (da_cons (de_lc true [("_law_k", 9)] rfl sc.nd (blkOk_by (N := ["_law_script", "_law_bag_here", "_law_turn", "_law_most", "_law_some", "_law_head", "_law_hand", "_law_due", "_law_row", "_law_k"]) (sc := defScope s_law) (by decide +kernel)) (di_range1 T.b_range (da_cons (de_callD G__law_pull (hr.mono (by omega)) dx (da_cons (de_var 1) (da_cons de_int da_nil))) da_nil)) (fun _ _ _ _ _ _ => (dg_name 9 sc.nd)) (fun _ _ _ _ _ _ => dts_nil) (fun _ _ _ _ _ _ => (de_callD G__law_of (hr.mono (by omega)) dx0 (da_cons (de_var 1) (da_cons (de_var 4) da_nil))))) da_nil))) (dss_cons (ds_set 6 sc.nd (de_tup (da_cons (de_var 5) (da_cons (de_bin od_mul (de_callTy cd_tuple T.b_tuple (by decide +kernel) (da_cons (de_var 4) da_nil)) (de_bin od_add de_int (de_callD G__law_pull (hr.mono (by omega)) dx (da_cons (de_var 1) (da_cons de_int da_nil))))) da_nil)))) (dss_cons (ds_set 7 sc.nd (de_callD G__law_tried_normal (hr.mono (by omega)) dx (da_cons (de_var 6) da_nil))) (dss_one (ds_if (dt_not (dt_val (de_callD G__law_like (hr.mono (by omega)) dx (da_cons (de_lst (da_cons (de_callD G_normalize (hr.mono (by omega)) dx (da_cons (de_var 6) da_nil)) (da_cons (de_callD G_normalize (hr.mono (by omega)) dx (da_cons (de_var 7) da_nil)) (da_cons (de_callD G_normalize (hr.mono (by omega)) dx (da_cons (de_callD G__law_unrolled (hr.mono (by omega)) dx (da_cons (de_var 1) (da_cons (de_var 6) da_nil))) da_nil)) da_nil)))) (da_cons (de_bin od_mul (de_lst (da_cons (de_var 7) da_nil)) de_int) da_nil))))) (dss_one (ds_ret de_bl)) dss_nil)))))))) (dss_cons (ds_setLc 8 true [("_law_k", 9)] rfl sc.nd (blkOk_by (N := ["_law_script", "_law_bag_here", "_law_turn", "_law_most", "_law_some", "_law_head", "_law_hand", "_law_due", "_law_row", "_law_k"]) (sc := defScope s_law) (by decide +kernel)) (di_range1 T.b_range (da_cons (de_bin od_add de_int (de_callD G__law_pull (hr.mono (by omega)) dx (da_cons (de_var 1) (da_cons de_int da_nil)))) da_nil)) (fun _ _ _ _ _ _ => (dg_name 9 sc.nd)) (fun _ _ _ _ _ _ => dts_nil) (fun _ _ _ _ _ _ => (de_tup (da_cons (de_callD G__law_pull (hr.mono (by omega)) dx0 (da_cons (de_var 1) (da_cons de_int da_nil))) (da_cons (de_callD G__law_pull (hr.mono (by omega)) dx0 (da_cons (de_var 1) (da_cons de_int da_nil))) da_nil)))) (sw_true rfl rfl rfl (by decide +kernel))) (dss_cons (ds_set 5 sc.nd (de_callTy cd_tuple T.b_tuple (by decide +kernel) (da_cons (de_slice (de_var 8) do_none (do_some (de_callD G__law_pull (hr.mono (by omega)) dx (da_cons (de_var 1) (da_cons de_int da_nil))))) da_nil))) (dss_cons (ds_if (dt_not (dt_val (de_callD G__law_like (hr.mono (by omega)) dx (da_cons (de_callD G_normalize (hr.mono (by omega)) dx (da_cons (de_tup (da_cons (de_var 5) (da_cons (de_bin od_mul (de_callTy cd_tuple T.b_tuple (by decide +kernel) (da_cons (de_var 8) da_nil)) de_int) da_nil))) da_nil)) (da_cons (de_callD G__law_tried_normal (hr.mono (by omega)) dx (da_cons (de_tup (da_cons (de_var 5) (da_cons (de_callTy cd_tuple T.b_tuple (by decide +kernel) (da_cons (de_var 8) da_nil)) da_nil))) da_nil)) da_nil))))) (dss_one (ds_ret de_bl)) dss_nil) (dss_one (ds_ret (de_callD G__law_like (hr.mono (by omega)) dx (da_cons (de_callD G_normalize (hr.mono (by omega)) dx (da_cons (de_tup (da_cons (de_tup (da_cons (de_tup (da_cons de_int (da_cons de_int da_nil))) da_nil)) (da_cons (de_tup (da_cons (de_tup (da_cons de_int (da_cons de_int da_nil))) da_nil)) da_nil))) da_nil)) (da_cons (de_tup (da_cons (de_tup da_nil) (da_cons (de_tup (da_cons (de_tup (da_cons de_int (da_cons de_int da_nil))) da_nil)) da_nil))) da_nil)))))))))), ?_⟩
    obtain ⟨ns, rfl, n63, q⟩ := h
    walk_at "go"
    refine ⟨ns, rfl, n63, fun p S1 hp hb1 off1 => ?_⟩
    walk_at "go"
    have one : ∀ x : Stp, MH.NF [] [x] := fun x => ⟨⟨List.cons_ne_nil _ _, fun p h0 h1 => by simp at h1; omega⟩, fun y hy => by cases hy⟩
    have like3 : ∀ h c : List Stp, Dat 6 (.lst [handD h c, handD h c, handD h c]) := fun h c => ((Ok.lst (n := 3) fun d hd => by
      simp only [List.mem_cons, List.not_mem_nil, or_false, or_self] at hd
      rw [hd]
      exact ok_hand h c).mono (by decide : 4 ≤ 5)).dat
    have like1 : ∀ h c : List Stp, Dat 6 (handD h c) := fun h c => ((ok_hand h c).mono (by decide : 3 ≤ 5)).dat
    refine ⟨by decide, forL_range (fun i E S2 => (∃ x2 x3 x4 x5 x6 x7 x8 x9, E = [some (.scr (ns.map D.int)), some (.ref p), x2, x3, x4, x5, x6, x7, x8, x9]) ∧ BagAt S2 p) _ _ (fun i E S2 i1 i2 hP nx hn => ?_) (fun E S2 hP => ?_) _ _ ⟨⟨_, _, _, _, _, _, _, _, rfl⟩, hb1⟩⟩
    · obtain ⟨⟨x2, x3, x4, x5, x6, x7, x8, x9, rfl⟩, hb2⟩ := hP
      walk_at "go"
      refine ⟨by decide, p, _, rfl, hb2, by decide, by decide, fun mo S3 hb3 off3 hmo => ?_⟩
      -- most is 1, 2 or 4
      obtain ⟨most, rfl, m0, m4⟩ : ∃ most : Int, mo = .int most ∧ 0 < most ∧ most ≤ 4 := by
        simp only [List.mem_cons, List.not_mem_nil, or_false] at hmo
        rcases hmo with rfl | rfl | rfl | rfl <;> exact ⟨_, rfl, by decide, by decide⟩
      walk_at "go"
      refine ⟨p, 4, rfl, hb3, by decide, by decide, fun r1 S4 hb4 off4 r10 r14 => ?_⟩
      walk_at "go"
      refine ⟨by omega, fun Z hZ => ?_⟩
      refine lc_inv (fun acc S => (∃ ss : List Stp, acc = ss.map stD) ∧ BagAt S p) (by rw [rngD_length, PySem.sizeLine_eq]; simp; omega) hZ ⟨⟨[], rfl⟩, hb4⟩ (fun d acc S5 hd hP o K1 hZ5 hK => ?_) fun acc S5 hlen hP => ?_
      · obtain ⟨⟨ss, rfl⟩, hb5⟩ := hP
        walk_at "go"
        refine ⟨p, most, by simp [wipeD], hb5.put hZ5, m0, by omega, fun a S6 hb6 off6 a0 a1 => ?_⟩
        walk_at "go"
        refine ⟨p, 2, by simp [wipeD], hb6, by decide, by decide, fun b S7 hb7 off7 b0 b1 => ?_⟩
        walk_at "go"
        obtain ⟨S8, e8, hZ8, hb8, off8⟩ := bag_under (off6.trans off7) hZ5 hb5 hb7
        rw [e8]
        refine ⟨by decide, hK _ S8 hZ8 ⟨⟨ss ++ [(a, b)], ?_⟩, hb8⟩⟩
        rw [List.map_append]
        rfl
      obtain ⟨⟨ss, rfl⟩, hb5⟩ := hP
      rw [rngD_length, List.length_map] at hlen
      simp only [List.length_nil, Nat.zero_add] at hlen
      walk_at "go"
      refine ⟨p, 9, rfl, hb5, by decide, by decide, fun r2 S6 hb6 off6 r20 r29 => ?_⟩
      walk_at "go"
      refine ⟨by omega, fun Z2 hZ2 => ?_⟩
      refine lc_inv (fun acc S => (∃ ss : List Stp, acc = ss.map stD) ∧ BagAt S p) (by rw [rngD_length, PySem.sizeLine_eq]; simp; omega) hZ2 ⟨⟨[], rfl⟩, hb6⟩ (fun d acc S7 hd hP o K1 hZ7 hK => ?_) fun acc S7 hlen2 hP => ?_
      · obtain ⟨⟨hs, rfl⟩, hb7⟩ := hP
        walk_at "go"
        refine ⟨p, ss.map stD, by simp [wipeD], hb7.put hZ7, by rw [List.length_map]; omega, by rw [List.length_map]; omega, fun x S8 hb8 off8 hx => ?_⟩
        obtain ⟨s, _, rfl⟩ := List.mem_map.mp hx
        obtain ⟨S9, e9, hZ9, hb9, off9⟩ := bag_under off8 hZ7 hb7 hb8
        rw [e9]
        refine hK _ S9 hZ9 ⟨⟨hs ++ [s], ?_⟩, hb9⟩
        rw [List.map_append]
        rfl
      obtain ⟨⟨hs, rfl⟩, hb7⟩ := hP
      rw [rngD_length, List.length_map] at hlen2
      simp only [List.length_nil, Nat.zero_add] at hlen2
      walk_at "go"
      refine ⟨p, 2, rfl, hb7, by decide, by decide, fun r3 S8 hb8 off8 r30 r32 => ?_⟩
      walk_at "go"
      have ssn : ss ≠ [] := fun z => by rw [z] at hlen; simp at hlen; omega
      refine ⟨⟨by omega, by omega, by rw [List.length_map]; omega, fun z => ssn (List.map_eq_nil_iff.mp z)⟩, by decide, ?_⟩
      rw [rep_map]
      have cn : (List.replicate (1 + r3).toNat ss).flatten ≠ [] := fun z => by
        have := congrArg List.length z
        rw [MH.rep_len, List.length_nil] at this
        exact absurd this (Nat.ne_of_gt (Nat.mul_pos (by omega) (List.length_pos_iff.mpr ssn)))
      have cl : (List.replicate (1 + r3).toNat ss).flatten.length ≤ 8 := by
        rw [MH.rep_len]
        have : (1 + r3).toNat * ss.length ≤ 2 * 4 := Nat.mul_le_mul (by omega) (by omega)
        omega
      generalize (List.replicate (1 + r3).toNat ss).flatten = cyc at cn cl
      refine ⟨hs, cyc, rfl, cn, by omega, by omega, fun h' c' nf sm lc lh => ?_⟩
      walk_at "go"
      refine ⟨hs, cyc, rfl, cn, by omega, by omega, fun h1 c1 nf1 sm1 _ _ => ?_⟩
      obtain ⟨e1, e2⟩ := MH.nf_unique nf1 nf fun n => (sm1 n).trans (sm n).symm
      subst e1 e2
      walk_at "go"
      refine ⟨h1, c1, rfl, nf.1.1, by omega, by omega, fun h2 c2 nf2 sm2 _ _ => ?_⟩
      obtain ⟨e1, e2⟩ := MH.nf_unique nf2 nf fun n => sm2 n
      subst e1 e2
      walk_at "go"
      refine ⟨p, hs, cyc, rfl, hb8, cn, by omega, by omega, fun h3 c3 S9 hb9 off9 cn3 sm3 lh3 lc3 => ?_⟩
      walk_at "go"
      refine ⟨h3, c3, rfl, cn3, by omega, by omega, fun h4 c4 nf4 sm4 _ _ => ?_⟩
      obtain ⟨e1, e2⟩ := MH.nf_unique nf4 nf fun n => (sm4 n).trans ((sm3 n).trans (sm n).symm)
      subst e1 e2
      walk_at "go"
      refine ⟨by decide, by decide, ⟨by decide, by decide, by decide⟩, .lst [handD h4 c4, handD h4 c4, handD h4 c4], rfl, like3 _ _, ?_⟩
      walk_at "go"
      exact hn _ _ ⟨⟨_, _, _, _, _, _, _, _, rfl⟩, hb9⟩
    · obtain ⟨⟨x2, x3, x4, x5, x6, x7, x8, x9, rfl⟩, hb2⟩ := hP
      walk_at "go"
      refine ⟨p, 61, rfl, hb2, by decide, by decide, fun r1 S3 hb3 off3 r10 r161 => ?_⟩
      walk_at "go"
      refine ⟨by omega, fun Z hZ => ?_⟩
      refine lc_inv (fun acc S => (∃ ss : List Stp, acc = ss.map stD) ∧ BagAt S p) (by rw [rngD_length, PySem.sizeLine_eq]; simp; omega) hZ ⟨⟨[], rfl⟩, hb3⟩ (fun d acc S5 hd hP o K1 hZ5 hK => ?_) fun acc S5 hlen hP => ?_
      · obtain ⟨⟨ss, rfl⟩, hb5⟩ := hP
        walk_at "go"
        refine ⟨p, 2, by simp [wipeD], hb5.put hZ5, by decide, by decide, fun a S6 hb6 off6 a0 a1 => ?_⟩
        walk_at "go"
        refine ⟨p, 2, by simp [wipeD], hb6, by decide, by decide, fun b S7 hb7 off7 b0 b1 => ?_⟩
        walk_at "go"
        obtain ⟨S8, e8, hZ8, hb8, off8⟩ := bag_under (off6.trans off7) hZ5 hb5 hb7
        rw [e8]
        refine ⟨by decide, hK _ S8 hZ8 ⟨⟨ss ++ [(a, b)], ?_⟩, hb8⟩⟩
        rw [List.map_append]
        rfl
      obtain ⟨⟨row, rfl⟩, hb5⟩ := hP
      rw [rngD_length, List.length_map] at hlen
      simp only [List.length_nil, Nat.zero_add] at hlen
      walk_at "go"
      refine ⟨p, 9, rfl, hb5, by decide, by decide, fun r2 S6 hb6 off6 r20 r29 => ?_⟩
      obtain ⟨m, rfl⟩ := Int.eq_ofNat_of_zero_le r20
      walk_at "go"
      rw [cut_to]
      have rn : row ≠ [] := fun z => by rw [z] at hlen; simp at hlen; omega
      have rl : row.length ≤ 100 := by omega
      refine ⟨⟨by decide, by decide, by rw [List.length_map]; omega, fun z => rn (List.map_eq_nil_iff.mp z)⟩, by decide, ?_⟩
      rw [rep_map]
      have ll : (row.take m).length ≤ 100 := by rw [List.length_take]; omega
      have cl : (List.replicate (Int.toNat 2) row).flatten.length ≤ 200 := by
        rw [MH.rep_len]
        show 2 * row.length ≤ 200
        omega
      have ec : ∀ n, MH.sq (row.take m) (List.replicate (Int.toNat 2) row).flatten n = MH.sq (row.take m) row n := MH.sq_same_cycle fun n => by
        unfold MH.cs
        have r0 : 0 < row.length := List.length_pos_iff.mpr rn
        have hlt : n % (List.replicate (Int.toNat 2) row).flatten.length < Int.toNat 2 * row.length := by
          rw [MH.rep_len]
          exact Nat.mod_lt _ (Nat.mul_pos (by decide) r0)
        rw [MH.rep_get _ _ hlt, MH.rep_len, Nat.mod_mul_left_mod]
      have cn : (List.replicate (Int.toNat 2) row).flatten ≠ [] := fun z => by
        have := congrArg List.length z
        rw [MH.rep_len, List.length_nil] at this
        exact absurd this (Nat.ne_of_gt (Nat.mul_pos (by decide) (List.length_pos_iff.mpr rn)))
      refine ⟨row.take m, _, rfl, cn, by omega, by omega, fun h1 c1 nf1 sm1 _ _ => ?_⟩
      walk_at "go"
      refine ⟨by decide, row.take m, row, rfl, rn, by omega, by omega, fun h2 c2 nf2 sm2 _ _ => ?_⟩
      obtain ⟨e1, e2⟩ := MH.nf_unique nf1 nf2 fun n => (sm1 n).trans ((ec n).trans (sm2 n).symm)
      subst e1 e2
      walk_at "go"
      refine ⟨_, rfl, like1 _ _, ?_⟩
      walk_at "go"
      refine ⟨by decide, by decide, by decide, by decide, by decide, [(0, 1)], [(0, 1)], rfl, List.cons_ne_nil _ _, by decide, by decide, fun h3 c3 nf3 sm3 _ _ => ?_⟩
      have e3 : ∀ n, MH.sq [((0 : Int), (1 : Int))] [(0, 1)] n = MH.sq [] [(0, 1)] n := fun n => by
        rw [MH.sq_nil]
        unfold MH.sq MH.cs
        by_cases h0 : n < [((0 : Int), (1 : Int))].length
        · rw [if_pos h0]
          have : n = 0 := by simp at h0; omega
          subst this
          rfl
        · rw [if_neg h0]
          simp [Nat.mod_one]
      obtain ⟨e1, e2⟩ := MH.nf_unique nf3 (one (0, 1)) fun n => (sm3 n).trans (e3 n)
      subst e1 e2
      walk_at "go"
      refine ⟨by decide, by decide, by decide, by decide, _, rfl, like1 [] [(0, 1)], .now (q _)⟩
end

theorem all_mk {l : PySem.W.OpenLaw} {w : World} {K : PySem.W.Frag} {h : Heap} {mg : Str → Option Value} {fa f0 f1 f2 f3 f4 f5 f6 f7 f8 f9 f10 f11 : Addr} (X : K.In h) (G : h.Ns mainGlobals mg) (hfa : mg "law" = some (.ref fa))
    {od0 an0 : Option Addr} {sl0 : Array (Option Value)} {oc0 kV0 dc0 pm0 cd0 ct0 : Value}
    (a0 : PySem.W.nsIn K mainGlobals "shortest_cycle" = some (some (.ref f0))) (l0 : K.lookup f0 = some ⟨oc0, od0, .func (PySem.W.fnOf "shortest_cycle" "shortest_cycle" (defArgs s_shortest_cycle) (defBody s_shortest_cycle) (defScope s_shortest_cycle) .none kV0 dc0 pm0 an0 cd0 ct0), sl0⟩) (c0 : PySem.W.codeIn K cd0 "shortest_cycle" = true) (k0 : PySem.W.keepIn K (.ref f0) = true)
    {od1 an1 : Option Addr} {sl1 : Array (Option Value)} {oc1 kV1 dc1 pm1 cd1 ct1 : Value}
    (a1 : PySem.W.nsIn K mainGlobals "normalize" = some (some (.ref f1))) (l1 : K.lookup f1 = some ⟨oc1, od1, .func (PySem.W.fnOf "normalize" "normalize" (defArgs s_normalize) (defBody s_normalize) (defScope s_normalize) .none kV1 dc1 pm1 an1 cd1 ct1), sl1⟩) (c1 : PySem.W.codeIn K cd1 "normalize" = true) (k1 : PySem.W.keepIn K (.ref f1) = true)
    {od2 an2 : Option Addr} {sl2 : Array (Option Value)} {oc2 kV2 dc2 pm2 cd2 ct2 : Value}
    (a2 : PySem.W.nsIn K mainGlobals "_law_bag" = some (some (.ref f2))) (l2 : K.lookup f2 = some ⟨oc2, od2, .func (PySem.W.fnOf "_law_bag" "_law_bag" (defArgs s__law_bag) (defBody s__law_bag) (defScope s__law_bag) .none kV2 dc2 pm2 an2 cd2 ct2), sl2⟩) (c2 : PySem.W.codeIn K cd2 "_law_bag" = true) (k2 : PySem.W.keepIn K (.ref f2) = true)
    {od3 an3 : Option Addr} {sl3 : Array (Option Value)} {oc3 kV3 dc3 pm3 cd3 ct3 : Value}
    (a3 : PySem.W.nsIn K mainGlobals "_law_pull" = some (some (.ref f3))) (l3 : K.lookup f3 = some ⟨oc3, od3, .func (PySem.W.fnOf "_law_pull" "_law_pull" (defArgs s__law_pull) (defBody s__law_pull) (defScope s__law_pull) .none kV3 dc3 pm3 an3 cd3 ct3), sl3⟩) (c3 : PySem.W.codeIn K cd3 "_law_pull" = true) (k3 : PySem.W.keepIn K (.ref f3) = true)
    {od4 an4 : Option Addr} {sl4 : Array (Option Value)} {oc4 kV4 dc4 pm4 cd4 ct4 : Value}
    (a4 : PySem.W.nsIn K mainGlobals "_law_of" = some (some (.ref f4))) (l4 : K.lookup f4 = some ⟨oc4, od4, .func (PySem.W.fnOf "_law_of" "_law_of" (defArgs s__law_of) (defBody s__law_of) (defScope s__law_of) .none kV4 dc4 pm4 an4 cd4 ct4), sl4⟩) (c4 : PySem.W.codeIn K cd4 "_law_of" = true) (k4 : PySem.W.keepIn K (.ref f4) = true)
    {od5 an5 : Option Addr} {sl5 : Array (Option Value)} {oc5 kV5 dc5 pm5 cd5 ct5 : Value}
    (a5 : PySem.W.nsIn K mainGlobals "_law_like" = some (some (.ref f5))) (l5 : K.lookup f5 = some ⟨oc5, od5, .func (PySem.W.fnOf "_law_like" "_law_like" (defArgs s__law_like) (defBody s__law_like) (defScope s__law_like) .none kV5 dc5 pm5 an5 cd5 ct5), sl5⟩) (c5 : PySem.W.codeIn K cd5 "_law_like" = true) (k5 : PySem.W.keepIn K (.ref f5) = true)
    {od6 an6 : Option Addr} {sl6 : Array (Option Value)} {oc6 kV6 dc6 pm6 cd6 ct6 : Value}
    (a6 : PySem.W.nsIn K mainGlobals "_law_step" = some (some (.ref f6))) (l6 : K.lookup f6 = some ⟨oc6, od6, .func (PySem.W.fnOf "_law_step" "_law_step" (defArgs s__law_step) (defBody s__law_step) (defScope s__law_step) .none kV6 dc6 pm6 an6 cd6 ct6), sl6⟩) (c6 : PySem.W.codeIn K cd6 "_law_step" = true) (k6 : PySem.W.keepIn K (.ref f6) = true)
    {od7 an7 : Option Addr} {sl7 : Array (Option Value)} {oc7 kV7 dc7 pm7 cd7 ct7 : Value}
    (a7 : PySem.W.nsIn K mainGlobals "_law_first_steps" = some (some (.ref f7))) (l7 : K.lookup f7 = some ⟨oc7, od7, .func (PySem.W.fnOf "_law_first_steps" "_law_first_steps" (defArgs s__law_first_steps) (defBody s__law_first_steps) (defScope s__law_first_steps) .none kV7 dc7 pm7 an7 cd7 ct7), sl7⟩) (c7 : PySem.W.codeIn K cd7 "_law_first_steps" = true) (k7 : PySem.W.keepIn K (.ref f7) = true)
    {od8 an8 : Option Addr} {sl8 : Array (Option Value)} {oc8 kV8 dc8 pm8 cd8 ct8 : Value}
    (a8 : PySem.W.nsIn K mainGlobals "_law_from" = some (some (.ref f8))) (l8 : K.lookup f8 = some ⟨oc8, od8, .func (PySem.W.fnOf "_law_from" "_law_from" (defArgs s__law_from) (defBody s__law_from) (defScope s__law_from) .none kV8 dc8 pm8 an8 cd8 ct8), sl8⟩) (c8 : PySem.W.codeIn K cd8 "_law_from" = true) (k8 : PySem.W.keepIn K (.ref f8) = true)
    {od9 an9 : Option Addr} {sl9 : Array (Option Value)} {oc9 kV9 dc9 pm9 cd9 ct9 : Value}
    (a9 : PySem.W.nsIn K mainGlobals "_law_unrolled" = some (some (.ref f9))) (l9 : K.lookup f9 = some ⟨oc9, od9, .func (PySem.W.fnOf "_law_unrolled" "_law_unrolled" (defArgs s__law_unrolled) (defBody s__law_unrolled) (defScope s__law_unrolled) .none kV9 dc9 pm9 an9 cd9 ct9), sl9⟩) (c9 : PySem.W.codeIn K cd9 "_law_unrolled" = true) (k9 : PySem.W.keepIn K (.ref f9) = true)
    {od10 an10 : Option Addr} {sl10 : Array (Option Value)} {oc10 kV10 dc10 pm10 cd10 ct10 : Value}
    (a10 : PySem.W.nsIn K mainGlobals "_law_tried_normal" = some (some (.ref f10))) (l10 : K.lookup f10 = some ⟨oc10, od10, .func (PySem.W.fnOf "_law_tried_normal" "_law_tried_normal" (defArgs s__law_tried_normal) (defBody s__law_tried_normal) (defScope s__law_tried_normal) .none kV10 dc10 pm10 an10 cd10 ct10), sl10⟩) (c10 : PySem.W.codeIn K cd10 "_law_tried_normal" = true) (k10 : PySem.W.keepIn K (.ref f10) = true)
    {od11 an11 : Option Addr} {sl11 : Array (Option Value)} {oc11 kV11 dc11 pm11 cd11 ct11 : Value}
    (a11 : PySem.W.nsIn K mainGlobals "law" = some (some (.ref f11))) (l11 : K.lookup f11 = some ⟨oc11, od11, .func (PySem.W.fnOf "law" "law" (defArgs s_law) (defBody s_law) (defScope s_law) .none kV11 dc11 pm11 an11 cd11 ct11), sl11⟩) (c11 : PySem.W.codeIn K cd11 "law" = true) (k11 : PySem.W.keepIn K (.ref f11) = true)
    (z_all : PySem.W.nsIn K mainGlobals "all" = some none)
    (z_bool : PySem.W.nsIn K mainGlobals "bool" = some none)
    (z_int : PySem.W.nsIn K mainGlobals "int" = some none)
    (z_isinstance : PySem.W.nsIn K mainGlobals "isinstance" = some none)
    (z_len : PySem.W.nsIn K mainGlobals "len" = some none)
    (z_list : PySem.W.nsIn K mainGlobals "list" = some none)
    (z_range : PySem.W.nsIn K mainGlobals "range" = some none)
    (z_str : PySem.W.nsIn K mainGlobals "str" = some none)
    (z_tuple : PySem.W.nsIn K mainGlobals "tuple" = some none)
    (z_zip : PySem.W.nsIn K mainGlobals "zip" = some none)
    : ∃ fd : FuncData, (∀ (s : Shared) (v : Value), BindsTo s fd ⟨[v], []⟩ [("_law_script", v)]) ∧ ∀ base : Heap, K.In base → base.Ns mainGlobals mg → FnOk l.prog w K mg base (L2.CX l.prog w) 7 fa fd ["_law_script"] (liftSp K 0 (spTop 63)) := by
  have e := hfa.symm.trans (PySem.W.mg_of X G a11)
  cases e
  have T : Txt mg := ⟨PySem.W.mg_none_of X G z_all, PySem.W.mg_none_of X G z_bool, PySem.W.mg_none_of X G z_int, PySem.W.mg_none_of X G z_isinstance, PySem.W.mg_none_of X G z_len, PySem.W.mg_none_of X G z_list, PySem.W.mg_none_of X G z_range, PySem.W.mg_none_of X G z_str, PySem.W.mg_none_of X G z_tuple, PySem.W.mg_none_of X G z_zip⟩
  have F0 := fun_mk (st := s_shortest_cycle) l0 c0 k0
  have b0 := F0.binds (ps := ["cycle"]) fun _ _ _ _ _ _ us hl => match us, hl with | [_], _ => rfl
  have F1 := fun_mk (st := s_normalize) l1 c1 k1
  have b1 := F1.binds (ps := ["hand"]) fun _ _ _ _ _ _ us hl => match us, hl with | [_], _ => rfl
  have F2 := fun_mk (st := s__law_bag) l2 c2 k2
  have b2 := F2.binds (ps := ["_law_script"]) fun _ _ _ _ _ _ us hl => match us, hl with | [_], _ => rfl
  have F3 := fun_mk (st := s__law_pull) l3 c3 k3
  have b3 := F3.binds (ps := ["_law_bag_here", "_law_many"]) fun _ _ _ _ _ _ us hl => match us, hl with | [_, _], _ => rfl
  have F4 := fun_mk (st := s__law_of) l4 c4 k4
  have b4 := F4.binds (ps := ["_law_bag_here", "_law_things"]) fun _ _ _ _ _ _ us hl => match us, hl with | [_, _], _ => rfl
  have F5 := fun_mk (st := s__law_like) l5 c5 k5
  have b5 := F5.binds (ps := ["_law_found", "_law_due"]) fun _ _ _ _ _ _ us hl => match us, hl with | [_, _], _ => rfl
  have F6 := fun_mk (st := s__law_step) l6 c6 k6
  have b6 := F6.binds (ps := ["_law_hand", "_law_at"]) fun _ _ _ _ _ _ us hl => match us, hl with | [_, _], _ => rfl
  have F7 := fun_mk (st := s__law_first_steps) l7 c7 k7
  have b7 := F7.binds (ps := ["_law_hand", "_law_size"]) fun _ _ _ _ _ _ us hl => match us, hl with | [_, _], _ => rfl
  have F8 := fun_mk (st := s__law_from) l8 c8 k8
  have b8 := F8.binds (ps := ["_law_hand", "_law_at"]) fun _ _ _ _ _ _ us hl => match us, hl with | [_, _], _ => rfl
  have F9 := fun_mk (st := s__law_unrolled) l9 c9 k9
  have b9 := F9.binds (ps := ["_law_bag_here", "_law_hand"]) fun _ _ _ _ _ _ us hl => match us, hl with | [_, _], _ => rfl
  have F10 := fun_mk (st := s__law_tried_normal) l10 c10 k10
  have b10 := F10.binds (ps := ["_law_hand"]) fun _ _ _ _ _ _ us hl => match us, hl with | [_], _ => rfl
  have F11 := fun_mk (st := s_law) l11 c11 k11
  refine ⟨PySem.W.fnOf "law" "law" (defArgs s_law) (defBody s_law) (defScope s_law) .none kV11 dc11 pm11 an11 cd11 ct11, fun s v => .of_eq rfl, fun base _ _ => ?_⟩
  have G_shortest_cycle : Df l.prog w K mg base 0 "shortest_cycle" 1 ["cycle"] spShort := ⟨_, _, ok_short F0 T, PySem.W.mg_of X G a0, k0, b0⟩
  have G_normalize : Df l.prog w K mg base 0 "normalize" 2 ["hand"] spNorm := ⟨_, _, ok_norm F1 T G_shortest_cycle, PySem.W.mg_of X G a1, k1, b1⟩
  have G__law_bag : Df l.prog w K mg base 0 "_law_bag" 1 ["_law_script"] spBag := ⟨_, _, ok_bag F2 T, PySem.W.mg_of X G a2, k2, b2⟩
  have G__law_pull : Df l.prog w K mg base 0 "_law_pull" 1 ["_law_bag_here", "_law_many"] spPull := ⟨_, _, ok_pull F3 T, PySem.W.mg_of X G a3, k3, b3⟩
  have G__law_of : Df l.prog w K mg base 0 "_law_of" 2 ["_law_bag_here", "_law_things"] spOf := ⟨_, _, ok_of F4 T G__law_pull, PySem.W.mg_of X G a4, k4, b4⟩
  have G__law_like : Df l.prog w K mg base 0 "_law_like" 6 ["_law_found", "_law_due"] (spLike 6) := ok_like F5 T (PySem.W.mg_of X G a5) k5 b5 6 (by decide)
  have G__law_step : Df l.prog w K mg base 0 "_law_step" 1 ["_law_hand", "_law_at"] spStep := ⟨_, _, ok_step F6 T, PySem.W.mg_of X G a6, k6, b6⟩
  have G__law_first_steps : Df l.prog w K mg base 0 "_law_first_steps" 2 ["_law_hand", "_law_size"] spFirst := ⟨_, _, ok_first F7 T G__law_step, PySem.W.mg_of X G a7, k7, b7⟩
  have G__law_from : Df l.prog w K mg base 0 "_law_from" 1 ["_law_hand", "_law_at"] spFrom := ⟨_, _, ok_from F8 T, PySem.W.mg_of X G a8, k8, b8⟩
  have G__law_unrolled : Df l.prog w K mg base 0 "_law_unrolled" 3 ["_law_bag_here", "_law_hand"] spUnr := ⟨_, _, ok_unrolled F9 T G__law_pull G__law_first_steps G__law_from, PySem.W.mg_of X G a9, k9, b9⟩
  have G__law_tried_normal : Df l.prog w K mg base 0 "_law_tried_normal" 3 ["_law_hand"] spTried := ⟨_, _, ok_tried F10 T G__law_step G__law_first_steps, PySem.W.mg_of X G a10, k10, b10⟩
  exact ok_law F11 T G__law_bag G__law_pull G__law_of G__law_like G__law_tried_normal G_normalize G__law_unrolled
theorem walk {l : PySem.W.OpenLaw} {q : Program} {loose : List Str} {XP : (Str → Option Value) → Heap → Prop} {YP : World → Heap → Prop} {d : DefRec} {K : Params → PySem.W.Frag} (hn : l.most = some 63) (hdf : d.params.defaults = [])
    (hY : ∀ (w : World) (h : Heap), YP w h → (K w.params).In h)
    (F : ∀ (w : World) (mg : Str → Option Value) (fa : Addr) (h : Heap), (K w.params).In h → h.Ns mainGlobals mg → mg d.name = some (.ref fa) →
      ∃ fd : FuncData, (∀ (s : Shared) (u : Value), BindsTo s fd ⟨[u], []⟩ [("_law_script", u)]) ∧ ∀ base : Heap, (K w.params).In base → base.Ns mainGlobals mg → FnOk l.prog w (K w.params) mg base (L2.CX l.prog w) 7 fa fd ["_law_script"] (liftSp (K w.params) 0 (spTop 63))) :
    PySem.W.WalkO q loose XP YP l.row.toRowW d [] (fun f vs => PySem.call f vs) :=
  L2.walk_of (n := 63) (k := 7) (x := "_law_script") (CX := fun w => L2.CX l.prog w) (sp := fun w => liftSp (K w.params) 0 (spTop 63)) hn (by decide) hdf ⟨rfl, by decide, by decide⟩ hY F (fun _ _ _ _ hl o h => top_start hl o h) fun _ _ _ _ _ z => cx_end z
end K06
open PySem PySem.W PyProof.Rows in
set_option maxRecDepth 100000 in
set_option maxHeartbeats 0 in
theorem PySem.Challenge.cw_hangwheels_k06_normal_forms_holds : PySem.Challenge.rw_hangwheels_k06_normal_forms.Holds := by
  w_on; o_law; k_head; (case hw => w_witness2)
  k_fill
  refine K06.walk (l := PySem.Challenge.rw_hangwheels_k06_normal_forms) rfl rfl (fun w h Y => PySem.W.kIn_of Y) ?F
  case F =>
    intro w mg fa h KX G hmg
    refine' K06.all_mk KX G hmg ?a0 ?l0 ?c0 ?k0 ?a1 ?l1 ?c1 ?k1 ?a2 ?l2 ?c2 ?k2 ?a3 ?l3 ?c3 ?k3 ?a4 ?l4 ?c4 ?k4 ?a5 ?l5 ?c5 ?k5 ?a6 ?l6 ?c6 ?k6 ?a7 ?l7 ?c7 ?k7 ?a8 ?l8 ?c8 ?k8 ?a9 ?l9 ?c9 ?k9 ?a10 ?l10 ?c10 ?k10 ?a11 ?l11 ?c11 ?k11 ?z_all ?z_bool ?z_int ?z_isinstance ?z_len ?z_list ?z_range ?z_str ?z_tuple ?z_zip
    (case a0 => k_is)
    (case l0 => k_is)
    (case c0 => k_is)
    (case k0 => k_is)
    (case a1 => k_is)
    (case l1 => k_is)
    (case c1 => k_is)
    (case k1 => k_is)
    (case a2 => k_is)
    (case l2 => k_is)
    (case c2 => k_is)
    (case k2 => k_is)
    (case a3 => k_is)
    (case l3 => k_is)
    (case c3 => k_is)
    (case k3 => k_is)
    (case a4 => k_is)
    (case l4 => k_is)
    (case c4 => k_is)
    (case k4 => k_is)
    (case a5 => k_is)
    (case l5 => k_is)
    (case c5 => k_is)
    (case k5 => k_is)
    (case a6 => k_is)
    (case l6 => k_is)
    (case c6 => k_is)
    (case k6 => k_is)
    (case a7 => k_is)
    (case l7 => k_is)
    (case c7 => k_is)
    (case k7 => k_is)
    (case a8 => k_is)
    (case l8 => k_is)
    (case c8 => k_is)
    (case k8 => k_is)
    (case a9 => k_is)
    (case l9 => k_is)
    (case c9 => k_is)
    (case k9 => k_is)
    (case a10 => k_is)
    (case l10 => k_is)
    (case c10 => k_is)
    (case k10 => k_is)
    (case a11 => k_is)
    (case l11 => k_is)
    (case c11 => k_is)
    (case k11 => k_is)
    (case z_all => k_is)
    (case z_bool => k_is)
    (case z_int => k_is)
    (case z_isinstance => k_is)
    (case z_len => k_is)
    (case z_list => k_is)
    (case z_range => k_is)
    (case z_str => k_is)
    (case z_tuple => k_is)
    (case z_zip => k_is)
