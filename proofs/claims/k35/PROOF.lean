import PyProof.Rows.All
import Wide.All
import OpenK.AllK
import Wide.FinOn
import HandS.ForMost
import HandS.TupAny
import HandS.TupMul
import HandS.IsInst
import HandS.Wide
import HandS.Zip
import HandS.Walk
import HandS.Style
import HandS.Lambda
import KE.KDflt
import KE.KeyNested
import HandS.CallSlots
import HandS.ExcOwn
import HandS.Exc
import HandS.WordsExc
import HandS.ExcCtx
import HandS.EndTab
import HandS.ExcInit
import HandS.ExcField
import HandS.HotCalls
import HandS.TryMany
import HandS.ExcIs
import HandS.Comp
import HandS.Strs
import HandS.SetBool
import HandS.Iter
import HandS.Flow
import HandS.Codes
import HandS.SlotsOwn
import KE.KFmtOwn
import PyProof.EqAt
import PyProof.FactsAll.NoneType
import PyProof.FactsAll.object
import HandS.Dict
import HandS.List
import HandS.TupLe
import HandS.SortRule
import HandS.NamedTupSort
import HandS.Conv
import HandS.Hot
import HandS.MakeKwOnly
import HandS.SortInts
import KE.DatumOrd
import PyProof.DictRoadsH
import HandS.Deep
import HandS.Flt
import HandS.SetFor
import KE.KUnpackStar
import HandS.DictComp
import HandS.FStr
import PyProof.InstSpecial
import KE.GoesEnum
import PySem.Challenge.RW_hangwheels_k35_joined_clocks
set_option Elab.async false
set_option linter.all false
set_option maxRecDepth 100000
set_option maxHeartbeats 4000000
/-! Values by content: a layer over the hand layer. -/
namespace RL
open PySem PySem.Spec PyProof.Rows L2
/-! ### values by content -/
/-- a value by its content; ref: an object that may change; clk: a clock by its tables; scr: the script; fn: a lambda, its object, its code object, the objects that it leans on; dct: a locked dict with int keys -/
inductive D where
  | non | bl (b : Bool) | int (i : Int) | str (x : Str) | ty (n : String) | ref (a : Addr)
  | tup (ds : List D) | lst (ds : List D) | clk (h c : List D) | scr (ds : List D)
  | fn (o : Obj) (c : Addr) (q : Str) (T : List (Addr × Obj))
  | dct (ks : List Int) (ds : List D)
/-- what a proof stands on: the class of clocks, the tables of code objects (and the name of what is made by them), what was there ahead of the law -/
structure Cf where
  clk : Addr
  T : List (Addr × Str)
  old : Addr → Prop
/-- the attributes of a whole clock -/
def ckf (v1 v2 l : Addr) : List (Str × V) := putF "levels" (.ref l) (putF "cycle_tables" (.ref v2) (putF "head_tables" (.ref v1) []))
/-- a list that stands still: locked, or of the module -/
def FzL (K : PySem.W.Frag) (H : Hp) (a : Addr) (xs : List V) : Prop := (∃ o, H a = some (.frz o (.lst xs))) ∨
  ∃ (o : Obj) (its : Array Value) (n : Nat), K.lookup a = some o ∧ o.cls = .type "list" ∧ o.dict = none ∧ o.data = .seq its n ∧ its.size ≤ sizeLine ∧ Vals xs its.toList
theorem FzL.sq {K : PySem.W.Frag} {H : Hp} {a : Addr} {xs : List V} (h : FzL K H a xs) : SqL K H a xs := by
  rcases h with ⟨o, h⟩ | h
  · exact .inl (.inr ⟨o, h⟩)
  · exact .inr h
mutual
inductive DR (K : PySem.W.Frag) (C : Cf) (H : Hp) : D → V → Prop
  | non : DR K C H .non .non
  | bl (b : Bool) : DR K C H (.bl b) (.bl b)
  | int (i : Int) : DR K C H (.int i) (.int i)
  | str (x : Str) : DR K C H (.str x) (.str x)
  | ty (n : String) : DR K C H (.ty n) (.ty n)
  | ref (a : Addr) : DR K C H (.ref a) (.ref a)
  | tup {a : Addr} {xs : List V} {ds : List D} (h : SqT K H a xs) (r : DRs K C H ds xs) (z : xs.length ≤ sizeLine) : DR K C H (.tup ds) (.ref a)
  | lst {a : Addr} {o : Obj} {xs : List V} {ds : List D} (h : H a = some (.frz o (.lst xs))) (r : DRs K C H ds xs) (z : xs.length ≤ sizeLine) : DR K C H (.lst ds) (.ref a)
  | scr {a : Addr} {xs : List V} {ds : List D} (h : FzL K H a xs) (r : DRs K C H ds xs) : DR K C H (.scr ds) (.ref a)
  | clk {a dx v1 v2 l : Addr} {h c : List D} (e : H a = some (.ins C.clk dx (ckf v1 v2 l))) (r1 : DR K C H (.tup h) (.ref v1)) (r2 : DR K C H (.tup c) (.ref v2)) (no : ¬ C.old a) : DR K C H (.clk h c) (.ref a)
  | fn {a c : Addr} {o : Obj} {q : Str} {T : List (Addr × Obj)} (h : H a = some (.frz o (.own a))) (hc : H c = some (LamX.CodeO c q)) (ht : ∀ p ∈ T, H p.1 = some (.frz p.2 (.own p.1))) : DR K C H (.fn o c q T) (.ref a)
  | dct {a : Addr} {o : Obj} {vs : List (Key × V)} {ks : List Int} {ds : List D} (h : H a = some (.frz o (.dK vs))) (hk : vs.map (fun p => p.1) = ks.map Sum.inl) (r : DRs K C H ds (vs.map fun p => p.2)) : DR K C H (.dct ks ds) (.ref a)
inductive DRs (K : PySem.W.Frag) (C : Cf) (H : Hp) : List D → List V → Prop
  | nil : DRs K C H [] []
  | cons {d : D} {ds : List D} {v : V} {vs : List V} (r : DR K C H d v) (t : DRs K C H ds vs) : DRs K C H (d :: ds) (v :: vs)
end
/-- what a content leans on stays -/
structure Ext (C : Cf) (H H' : Hp) : Prop where
  tup : ∀ b xs, H b = some (.tup xs) → H' b = some (.tup xs)
  frz : ∀ b o u, H b = some (.frz o u) → H' b = some (.frz o u)
  clk : ∀ a dx v1 v2 l, H a = some (.ins C.clk dx (ckf v1 v2 l)) → H' a = some (.ins C.clk dx (ckf v1 v2 l))
  xd : ∀ b fs, H b = some (.xd fs) → H' b = some (.xd fs)
  co : ∀ c q, H c = some (LamX.CodeO c q) → H' c = some (LamX.CodeO c q)
theorem Ext.refl (C : Cf) (H : Hp) : Ext C H H := ⟨fun _ _ h => h, fun _ _ _ h => h, fun _ _ _ _ _ h => h, fun _ _ h => h, fun _ _ h => h⟩
theorem Ext.trans {C : Cf} {H H1 H2 : Hp} (a : Ext C H H1) (b : Ext C H1 H2) : Ext C H H2 :=
  ⟨fun p xs h => b.tup p xs (a.tup p xs h), fun p o u h => b.frz p o u (a.frz p o u h), fun p dx v1 v2 l h => b.clk p dx v1 v2 l (a.clk p dx v1 v2 l h), fun p fs h => b.xd p fs (a.xd p fs h), fun p fs h => b.co p fs (a.co p fs h)⟩
theorem Ext.sqT {C : Cf} {K : PySem.W.Frag} {H H' : Hp} (e : Ext C H H') {a : Addr} {xs : List V} (h : SqT K H a xs) : SqT K H' a xs := by
  rcases h with (h | ⟨o, h⟩) | h
  · exact .inl (.inl (e.tup _ _ h))
  · exact .inl (.inr ⟨o, e.frz _ _ _ h⟩)
  · exact .inr h
theorem Ext.fzL {C : Cf} {K : PySem.W.Frag} {H H' : Hp} (e : Ext C H H') {a : Addr} {xs : List V} (h : FzL K H a xs) : FzL K H' a xs := by
  rcases h with ⟨o, h⟩ | h
  · exact .inl ⟨o, e.frz _ _ _ h⟩
  · exact .inr h
mutual
theorem DR.ext {K : PySem.W.Frag} {C : Cf} {H H' : Hp} (e : Ext C H H') : ∀ {d : D} {v : V}, DR K C H d v → DR K C H' d v
  | _, _, .non => .non
  | _, _, .bl b => .bl b
  | _, _, .int i => .int i
  | _, _, .str x => .str x
  | _, _, .ty n => .ty n
  | _, _, .ref a => .ref a
  | _, _, .tup h r z => .tup (e.sqT h) (DRs.ext e r) z
  | _, _, .lst h r z => .lst (e.frz _ _ _ h) (DRs.ext e r) z
  | _, _, .scr h r => .scr (e.fzL h) (DRs.ext e r)
  | _, _, .clk h r1 r2 no => .clk (e.clk _ _ _ _ _ h) (DR.ext e r1) (DR.ext e r2) no
  | _, _, .fn h hc ht => .fn (e.frz _ _ _ h) (e.co _ _ hc) (fun p hp => e.frz _ _ _ (ht p hp))
  | _, _, .dct h hk r => .dct (e.frz _ _ _ h) hk (DRs.ext e r)
theorem DRs.ext {K : PySem.W.Frag} {C : Cf} {H H' : Hp} (e : Ext C H H') : ∀ {ds : List D} {vs : List V}, DRs K C H ds vs → DRs K C H' ds vs
  | _, _, .nil => .nil
  | _, _, .cons r t => .cons (DR.ext e r) (DRs.ext e t)
end
section
variable {K : PySem.W.Frag} {C : Cf} {H : Hp}
theorem DRs.length : ∀ {ds : List D} {vs : List V}, DRs K C H ds vs → ds.length = vs.length
  | _, _, .nil => rfl
  | _, _, .cons _ t => congrArg Nat.succ (DRs.length t)
theorem DRs.get : ∀ {ds : List D} {vs : List V} {i : Nat} {d : D}, DRs K C H ds vs → ds[i]? = some d → ∃ v, vs[i]? = some v ∧ DR K C H d v
  | _, _, _, _, .nil, e => by simp at e
  | _, _, 0, _, .cons r _, e => by simp at e; subst e; exact ⟨_, rfl, r⟩
  | _, _, i + 1, d, .cons _ t, e => by
    obtain ⟨v, h1, h2⟩ := DRs.get (i := i) (d := d) t (by simpa using e)
    exact ⟨v, by simpa using h1, h2⟩
theorem DRs.app : ∀ {ds es : List D} {vs ws : List V}, DRs K C H ds vs → DRs K C H es ws → DRs K C H (ds ++ es) (vs ++ ws)
  | _, _, _, _, .nil, s => s
  | _, _, _, _, .cons r t, s => .cons r (DRs.app t s)
theorem DRs.take : ∀ {ds : List D} {vs : List V} (n : Nat), DRs K C H ds vs → DRs K C H (ds.take n) (vs.take n)
  | _, _, 0, _ => by simp; exact .nil
  | _, _, _ + 1, .nil => .nil
  | _, _, n + 1, .cons r t => .cons r (DRs.take n t)
theorem DRs.drop : ∀ {ds : List D} {vs : List V} (n : Nat), DRs K C H ds vs → DRs K C H (ds.drop n) (vs.drop n)
  | _, _, 0, r => r
  | _, _, _ + 1, .nil => .nil
  | _, _, n + 1, .cons _ t => DRs.drop n t
theorem DRs.set {d : D} {v : V} (r : DR K C H d v) : ∀ {ds : List D} {vs : List V} (i : Nat), DRs K C H ds vs → DRs K C H (ds.set i d) (vs.set i v)
  | _, _, _, .nil => .nil
  | _, _, 0, .cons _ t => .cons r t
  | _, _, i + 1, .cons q t => .cons q (DRs.set r i t)
theorem DRs.rep {ds : List D} {vs : List V} (h : DRs K C H ds vs) : ∀ k : Nat, DRs K C H (List.replicate k ds).flatten (List.replicate k vs).flatten
  | 0 => by simp; exact .nil
  | k + 1 => by
    rw [List.replicate_succ, List.replicate_succ, List.flatten_cons, List.flatten_cons]
    exact DRs.app h (DRs.rep h k)
theorem DRs.ints : ∀ {ns : List Int} {vs : List V}, DRs K C H (ns.map D.int) vs → vs = ns.map V.int
  | [], vs, h => by
    rw [List.map_nil] at h
    cases h
    rfl
  | n :: ns, vs, h => by
    rw [List.map_cons] at h
    cases h with
    | cons r t =>
      cases r
      rw [DRs.ints t]
      rfl
theorem DRs.bls : ∀ {ns : List Bool} {vs : List V}, DRs K C H (ns.map D.bl) vs → vs = ns.map V.bl
  | [], vs, h => by
    rw [List.map_nil] at h
    cases h
    rfl
  | n :: ns, vs, h => by
    rw [List.map_cons] at h
    cases h with
    | cons r t =>
      cases r
      rw [DRs.bls t]
      rfl
theorem DRs.ofInts (ns : List Int) : DRs K C H (ns.map D.int) (ns.map V.int) := by
  induction ns with
  | nil => exact .nil
  | cons n ns ih => exact .cons (.int n) ih
end
/-! ### the store of what may change -/
inductive DO where
  | lst (ds : List D) | ins (fs : List (Str × D)) | clk (h c : List D) | dic (kvs : List (Int × D)) | lev (h c : List D) (n : Nat) | nd (kvs : List (D × D))
abbrev Sto := Addr → Option DO
def Sto.put (S : Sto) (p : Addr) (o : DO) : Sto := fun b => if b = p then some o else S b
def Sto.del (S : Sto) (p : Addr) : Sto := fun b => if b = p then none else S b
theorem Sto.put_same {S : Sto} {p : Addr} {o : DO} : S.put p o p = some o := by unfold Sto.put; rw [if_pos rfl]
theorem Sto.put_ne {S : Sto} {p b : Addr} {o : DO} (h : b ≠ p) : S.put p o b = S b := by unfold Sto.put; rw [if_neg h]
theorem Sto.put_put {S : Sto} {p : Addr} {o u : DO} : (S.put p o).put p u = S.put p u := by
  funext b
  unfold Sto.put
  split <;> rfl
theorem Sto.del_ne {S : Sto} {p b : Addr} (h : b ≠ p) : S.del p b = S b := by unfold Sto.del; rw [if_neg h]
theorem Sto.del_same {S : Sto} {p : Addr} : S.del p p = none := by unfold Sto.del; rw [if_pos rfl]
theorem Sto.del_put {S : Sto} {p : Addr} {o : DO} (h : S p = none) : (S.put p o).del p = S := by
  funext b
  by_cases e : b = p
  · rw [e, Sto.del_same, h]
  · rw [Sto.del_ne e, Sto.put_ne e]
/-! ### a clock's tables and heights, by content -/
def rowsOf : D → List D
  | .tup ds => ds
  | _ => []
def intOf : D → Int
  | .int i => i
  | _ => 0
def tabAt (h c : List D) (n : Nat) : D := if n < h.length then h.getD n .non else c.getD ((n - h.length) % c.length) .non
def lvAt (h c : List D) : Nat → List Int
  | 0 => [1]
  | n + 1 => (rowsOf (tabAt h c n)).map fun row => ((rowsOf row).map fun d => (lvAt h c n).getD (intOf d).toNat 0).sum
/-- a clock's heights up to a floor -/
def levD (h c : List D) (n : Nat) : List D := (List.range (n + 1)).map fun i => D.lst ((lvAt h c i).map D.int)
/-- the list of heights that a clock has made so far -/
def CkOk (h c ls : List D) : Prop := ∃ n : Nat, ls = levD h c n
/-- tables of numbers, by content -/
def tabDD (t : List (List Int)) : D := .tup (t.map fun r => .tup (r.map D.int))
def Good3 (ds : List D) : Prop := ∃ ts : List (List (List Int)), ds = ts.map tabDD
structure LevOk (K : PySem.W.Frag) (C : Cf) (H : Hp) (v1 v2 l : Addr) : Prop where
  ex : ∃ (h c ls : List D) (lv : List V), DR K C H (.tup h) (.ref v1) ∧ DR K C H (.tup c) (.ref v2) ∧ H l = some (.lst lv) ∧ DRs K C H ls lv ∧ CkOk h c ls ∧ lv.length ≤ sizeLine ∧ Good3 h ∧ Good3 c
def RelF (K : PySem.W.Frag) (C : Cf) (H : Hp) : List (Str × D) → List (Str × V) → Prop
  | [], [] => True
  | (f, d) :: r, (g, v) :: t => f = g ∧ DR K C H d v ∧ RelF K C H r t
  | _, _ => False
theorem RelF.ext {K : PySem.W.Frag} {C : Cf} {H H' : Hp} (e : Ext C H H') : ∀ {fs : List (Str × D)} {vs : List (Str × V)}, RelF K C H fs vs → RelF K C H' fs vs
  | [], [], _ => trivial
  | (f, d) :: r, (g, v) :: t, h => ⟨h.1, h.2.1.ext e, RelF.ext e h.2.2⟩
  | [], _ :: _, h => h.elim
  | _ :: _, [], h => h.elim
theorem RelF.look {K : PySem.W.Frag} {C : Cf} {H : Hp} {f : Str} : ∀ {fs : List (Str × D)} {vs : List (Str × V)} {d : D}, RelF K C H fs vs → fs.lookup f = some d → ∃ v, vs.lookup f = some v ∧ DR K C H d v
  | [], [], _, _, e => by cases e
  | (g, d) :: r, (k, v) :: t, d', h, e => by
    obtain ⟨rfl, h1, h2⟩ := h
    by_cases q : f = g
    · subst q
      have e : some d = some d' := by simpa [List.lookup] using e
      cases e
      exact ⟨v, by simp [List.lookup], h1⟩
    · have qb : (f == g) = false := beq_eq_false_iff_ne.mpr q
      have e : r.lookup f = some d' := by simpa [List.lookup, qb] using e
      obtain ⟨w, w1, w2⟩ := RelF.look h2 e
      exact ⟨w, by simpa [List.lookup, qb] using w1, w2⟩
  | [], _ :: _, _, h, _ => h.elim
  | _ :: _, [], _, h, _ => h.elim
theorem RelF.keys {K : PySem.W.Frag} {C : Cf} {H : Hp} : ∀ {fs : List (Str × D)} {vs : List (Str × V)}, RelF K C H fs vs → fs.map (·.1) = vs.map (·.1)
  | [], [], _ => rfl
  | (f, d) :: r, (g, v) :: t, h => by
    obtain ⟨rfl, _, h2⟩ := h
    rw [List.map_cons, List.map_cons, RelF.keys h2]
  | [], _ :: _, h => h.elim
  | _ :: _, [], h => h.elim
/-- a dict with numbers for keys -/
def RelK (K : PySem.W.Frag) (C : Cf) (H : Hp) (kvs : List (Int × D)) (vs : List (Key × V)) : Prop := vs.map (·.1) = kvs.map (fun kv => (Sum.inl kv.1 : Key)) ∧ DRs K C H (kvs.map (·.2)) (vs.map (·.2))
/-! dicts whose keys are tuples of ints and of such tuples -/
mutual
def nkOf : D → NestedKey
  | .int i => .num i
  | .tup ds => .tup (nksOf ds)
  | _ => .none
def nksOf : List D → List NestedKey
  | [] => []
  | d :: ds => nkOf d :: nksOf ds
end
mutual
def nkOk : D → Bool
  | .int _ => true
  | .tup ds => nksOk ds
  | _ => false
def nksOk : List D → Bool
  | [] => true
  | d :: ds => nkOk d && nksOk ds
end
/-- a dict, by its keys, where they lie, and its values -/
def ndO (p : Addr) (xs : List (NestedKey × Addr × Value)) : HO := .ext fun h => (p == sysModules) = false ∧ (xs.map (·.1)).Nodup ∧ xs.length ≤ sizeLine ∧ ∃ (w : World) (o : Obj) (es : Array DictEntry) (ep : Nat), h.get? p = some o ∧ o.ExactDict ∧ o.data = .dict es ep ∧ es.toList = xs.map fun x => (⟨x.1.hash w, .ref x.2.1, x.2.2⟩ : DictEntry)
/-- what the store tells of an address -/
def OB (K : PySem.W.Frag) (C : Cf) (H : Hp) (p : Addr) : DO → Prop
  | .lst ds => ∃ xs, H p = some (.lst xs) ∧ DRs K C H ds xs ∧ xs.length ≤ sizeLine
  | .ins fs => ∃ dx vs, H p = some (.ins C.clk dx vs) ∧ RelF K C H fs vs ∧ ("levels" : Str) ∉ fs.map (·.1) ∧ ¬ C.old p
  | .clk h c => DR K C H (.clk h c) (.ref p)
  | .lev h c _ => DR K C H (.clk h c) (.ref p)
  | .dic kvs => ∃ vs, H p = some (.dK vs) ∧ RelK K C H kvs vs
  | .nd kvs => ∃ xs vs, H p = some (ndO p xs) ∧ xs.map (·.1) = kvs.map (fun kv => nkOf kv.1) ∧ (∀ kv ∈ kvs, nkOk kv.1 = true ∧ (nkOf kv.1).depth ≤ 8) ∧ DRs K C H (kvs.map (·.1)) (xs.map fun x => V.ref x.2.1) ∧ Vals vs (xs.map (·.2.2)) ∧ DRs K C H (kvs.map (·.2)) vs
theorem OB.has {K : PySem.W.Frag} {C : Cf} {H : Hp} {p : Addr} {o : DO} (h : OB K C H p o) : H p ≠ none := by
  cases o with
  | lst ds =>
    obtain ⟨xs, e, _⟩ := h
    rw [e]
    simp
  | ins fs =>
    obtain ⟨dx, vs, e, _⟩ := h
    rw [e]
    simp
  | clk h c =>
    cases h with
    | clk e _ _ _ =>
      rw [e]
      simp
  | lev h c n =>
    cases h with
    | clk e _ _ _ =>
      rw [e]
      simp
  | dic kvs =>
    obtain ⟨vs, e, _⟩ := h
    rw [e]
    simp
  | nd kvs =>
    obtain ⟨xs, vs, e, _⟩ := h
    rw [e]
    simp
theorem OB.ext {K : PySem.W.Frag} {C : Cf} {H H' : Hp} {p : Addr} {o : DO} (h : OB K C H p o) (e : Ext C H H') (q : H' p = H p) : OB K C H' p o := by
  cases o with
  | lst ds =>
    obtain ⟨xs, h1, h2, h3⟩ := h
    exact ⟨xs, q.trans h1, h2.ext e, h3⟩
  | ins fs =>
    obtain ⟨dx, vs, h1, h2, h3, h4⟩ := h
    exact ⟨dx, vs, q.trans h1, h2.ext e, h3, h4⟩
  | clk h c => exact DR.ext e h
  | lev h c n => exact DR.ext e h
  | dic kvs =>
    obtain ⟨vs, h1, h2, h3⟩ := h
    exact ⟨vs, q.trans h1, h2, h3.ext e⟩
  | nd kvs =>
    obtain ⟨xs, vs, h1, h2, h3, h4, h5, h6⟩ := h
    exact ⟨xs, vs, q.trans h1, h2, h3, h4.ext e, h5, h6.ext e⟩
/-- the store tells what stands in the abstract heap -/
structure SR (K : PySem.W.Frag) (C : Cf) (S : Sto) (H : Hp) : Prop where
  at_ : ∀ p o, S p = some o → OB K C H p o
  ck : ∀ a dx v1 v2 l, H a = some (.ins C.clk dx (ckf v1 v2 l)) → ¬ C.old a → S l = none ∧ LevOk K C H v1 v2 l
  sh : ∀ a dx v1 v2 b dx' w1 w2 l, H a = some (.ins C.clk dx (ckf v1 v2 l)) → H b = some (.ins C.clk dx' (ckf w1 w2 l)) → ¬ C.old a → ¬ C.old b → a = b
  od : ∀ b, C.old b → H b ≠ none
  tb : LamX.Tabs C.T H
  lv : ∀ p h c n, S p = some (.lev h c n) → ∃ dx v1 v2 l xs, H p = some (.ins C.clk dx (ckf v1 v2 l)) ∧ DR K C H (.tup h) (.ref v1) ∧ DR K C H (.tup c) (.ref v2) ∧ H l = some (.lst xs) ∧ DRs K C H (levD h c n) xs ∧ xs.length ≤ sizeLine ∧ Good3 h ∧ Good3 c ∧ ¬ C.old p
theorem ckf_lv {v1 v2 l : Addr} : (ckf v1 v2 l).lookup ("levels" : Str) = some (V.ref l) := by
  unfold ckf
  rw [lookup_putF]
  exact if_pos rfl
theorem putF_keys (f : Str) (v w : V) : ∀ fs : List (Str × V), (putF f v fs).map (·.1) = (putF f w fs).map (·.1)
  | [] => rfl
  | (g, x) :: r => by
    unfold putF
    split
    · rfl
    · rw [List.map_cons, List.map_cons, putF_keys f v w r]
theorem putF_len (f : Str) (v : V) {fs gs : List (Str × V)} (h : fs.map (·.1) = gs.map (·.1)) : (putF f v fs).map (·.1) = (putF f v gs).map (·.1) := by
  induction fs generalizing gs with
  | nil =>
    cases gs with
    | nil => rfl
    | cons => cases h
  | cons a r ih =>
    cases gs with
    | nil => cases h
    | cons b t =>
      obtain ⟨a1, a2⟩ := a
      obtain ⟨b1, b2⟩ := b
      rw [List.map_cons, List.map_cons] at h
      have h1 : a1 = b1 := (List.cons.inj h).1
      subst h1
      unfold putF
      split
      · rw [List.map_cons, List.map_cons, (List.cons.inj h).2]
      · rw [List.map_cons, List.map_cons, ih (List.cons.inj h).2]
theorem ckf_keys {v1 v2 l : Addr} : (ckf v1 v2 l).map (·.1) = [("head_tables" : Str), ("cycle_tables" : Str), ("levels" : Str)] := by
  have e : (ckf v1 v2 l).map (·.1) = (ckf 0 0 0).map (·.1) := by
    unfold ckf
    rw [putF_keys "levels" (.ref l) (.ref 0)]
    refine putF_len _ _ ?_
    rw [putF_keys "cycle_tables" (.ref v2) (.ref 0)]
    refine putF_len _ _ ?_
    exact putF_keys _ _ _ _
  rw [e]
  decide +kernel
section
variable {K : PySem.W.Frag} {C : Cf} {S S' : Sto} {H H' : Hp} {p : Addr} {o : HO}
theorem SR.ob (sr : SR K C S H) (p : Addr) (ds : List D) (e : S p = some (.lst ds)) : ∃ xs, H p = some (.lst xs) ∧ DRs K C H ds xs ∧ xs.length ≤ sizeLine := sr.at_ p _ e
theorem SR.none (sr : SR K C S H) (h : H p = Option.none) : S p = Option.none := by
  cases e : S p with
  | none => rfl
  | some u => exact absurd h (sr.at_ p u e).has
theorem SR.sub (sr : SR K C S' H) (h : ∀ b o, S b = some o → S' b = some o) : SR K C S H := by
  refine ⟨fun p o e => sr.at_ p o (h _ _ e), fun a dx v1 v2 l e n => ⟨?_, (sr.ck a dx v1 v2 l e n).2⟩, sr.sh, sr.od, sr.tb, fun p hh cc n e => sr.lv p hh cc n (h _ _ e)⟩
  cases q : S l with
  | none => rfl
  | some u =>
    have := (sr.ck a dx v1 v2 l e n).1
    rw [h _ _ q] at this
    cases this
theorem SR.sdel (sr : SR K C S H) : SR K C (S.del p) H := sr.sub fun b o e => by
  unfold Sto.del at e
  split at e
  · cases e
  · exact e
def NoIns : HO → Prop
  | .ins _ _ _ => False
  | _ => True
/-- neither a tuple nor locked nor a clock: it may be written over -/
def Loose : HO → Prop
  | .lst _ => True
  | .dK _ => True
  | .ins _ _ fs => ("levels" : Str) ∉ fs.map (·.1)
  | _ => False
theorem LevOk.ext {v1 v2 l : Addr} (lo : LevOk K C H v1 v2 l) (e : Ext C H H') (h : ∀ xs, H l = some (.lst xs) → H' l = some (.lst xs)) : LevOk K C H' v1 v2 l := by
  obtain ⟨h0, c0, ls, lv, r1, r2, hl, r3, ck, z⟩ := lo.ex
  exact ⟨h0, c0, ls, lv, r1.ext e, r2.ext e, h _ hl, r3.ext e, ck, z⟩
theorem LevOk.at {v1 v2 l : Addr} (lo : LevOk K C H v1 v2 l) : ∃ xs, H l = some (.lst xs) := by
  obtain ⟨h0, c0, ls, lv, r1, r2, hl, r3, ck⟩ := lo.ex
  exact ⟨lv, hl⟩
theorem Ext.new (hp : H p = Option.none) : Ext C H (upd H p o) :=
  ⟨fun b xs h => by rw [upd_ne (ne_of_none h hp)]; exact h, fun b u xs h => by rw [upd_ne (ne_of_none h hp)]; exact h, fun a dx v1 v2 l h => by rw [upd_ne (ne_of_none h hp)]; exact h, fun b fs h => by rw [upd_ne (ne_of_none h hp)]; exact h, fun b fs h => by rw [upd_ne (ne_of_none h hp)]; exact h⟩
theorem Ext.over {u : HO} (hp : H p = some u) (lo : Loose u) : Ext C H (upd H p o) := by
  have key : ∀ {b w}, H b = some w → ¬ Loose w → b ≠ p := fun {b w} e n z => by
    rw [z, hp] at e
    cases e
    exact n lo
  refine ⟨fun b xs h => ?_, fun b u xs h => ?_, fun a dx v1 v2 l h => ?_, fun b fs h => ?_, fun b fs h => ?_⟩
  · rw [upd_ne (key h fun z => z)]
    exact h
  · rw [upd_ne (key h fun z => z)]
    exact h
  · rw [upd_ne (key h fun z => ?_)]
    · exact h
    · have z : ("levels" : Str) ∉ (ckf v1 v2 l).map (·.1) := z
      rw [ckf_keys] at z
      exact z (by simp)
  · rw [upd_ne (key h fun z => z)]
    exact h
  · rw [upd_ne (key h fun z => z)]
    exact h
theorem Ext.wr {xs ys : List V} (h : H p = some (.lst xs)) : Ext C H (upd H p (.lst ys)) := Ext.over h trivial
theorem Ext.fz {xs : List V} {ob : Obj} (h : H p = some (.lst xs)) : Ext C H (upd H p (.frz ob (.lst xs))) := Ext.over h trivial
/-- tables stand where nothing but other things is written -/
theorem tabs_updN {T : List (Addr × Str)} (t : LamX.Tabs T H) (h : ∀ u, H p = some u → (∀ ps, u ≠ .tbl ps) ∧ ∀ q, u ≠ LamX.CodeO p q) : LamX.Tabs T (upd H p o) := by
  intro q hq
  obtain ⟨ps, h1, h2, h3⟩ := t q hq
  refine ⟨ps, ?_, h2, fun pos cv hc => ?_⟩
  · have n : q.1 ≠ p := fun z => by
      rw [z] at h1
      exact (h _ h1).1 ps rfl
    rw [upd_ne n]
    exact h1
  · obtain ⟨c, e1, e2⟩ := h3 pos cv hc
    have n : c ≠ p := fun z => by
      rw [z] at e2
      exact (h _ e2).2 q.2 rfl
    exact ⟨c, e1, by rw [upd_ne n]; exact e2⟩
theorem tabs_upd {T : List (Addr × Str)} (t : LamX.Tabs T H) (h : ∀ u, H p = some u → (∀ ps, u ≠ .tbl ps) ∧ ∀ c q, u ≠ LamX.CodeO c q) : LamX.Tabs T (upd H p o) := tabs_updN t fun u hu => ⟨(h u hu).1, fun q => (h u hu).2 p q⟩
theorem loose_tab {u : HO} (lo : Loose u) : (∀ ps, u ≠ .tbl ps) ∧ ∀ c q, u ≠ LamX.CodeO c q := by
  refine ⟨fun ps z => ?_, fun c q z => ?_⟩
  · rw [z] at lo
    exact lo
  · rw [z] at lo
    exact lo
/-- from one abstract heap to the next -/
theorem SR.go (sr : SR K C S H) (ext : Ext C H H') (dom : ∀ b, H b ≠ Option.none → H' b ≠ Option.none) (old : ∀ a dx v1 v2 l, H' a = some (.ins C.clk dx (ckf v1 v2 l)) → ¬ C.old a → H a = some (.ins C.clk dx (ckf v1 v2 l)))
    (lv : ∀ a dx v1 v2 l, H a = some (.ins C.clk dx (ckf v1 v2 l)) → ¬ C.old a → S' l = Option.none ∧ ∀ xs, H l = some (.lst xs) → H' l = some (.lst xs)) (ob : ∀ q o, S' q = some o → OB K C H' q o) (tb : LamX.Tabs C.T H') (le : ∀ p h c n, S' p = some (.lev h c n) → S p = some (.lev h c n)) : SR K C S' H' := by
  refine ⟨ob, fun a dx v1 v2 l e n => ?_, fun a dx v1 v2 b dx' w1 w2 l e1 e2 n1 n2 => sr.sh a dx v1 v2 b dx' w1 w2 l (old _ _ _ _ _ e1 n1) (old _ _ _ _ _ e2 n2) n1 n2, fun b hb => dom b (sr.od b hb), tb, fun p hh cc n e => ?_⟩
  · have e0 := old _ _ _ _ _ e n
    exact ⟨(lv _ _ _ _ _ e0 n).1, (sr.ck _ _ _ _ _ e0 n).2.ext ext (lv _ _ _ _ _ e0 n).2⟩
  · obtain ⟨dx, v1, v2, l, xs, a1, a2, a3, a4, a5, a6, a7, a8, a9⟩ := sr.lv p hh cc n (le p hh cc n e)
    exact ⟨dx, v1, v2, l, xs, ext.clk _ _ _ _ _ a1, a2.ext ext, a3.ext ext, (lv _ _ _ _ _ a1 a9).2 _ a4, a5.ext ext, a6, a7, a8, a9⟩
theorem upd_dom {b : Addr} (h : H b ≠ Option.none) : upd H p o b ≠ Option.none := by
  by_cases e : b = p
  · rw [e, upd_same]
    simp
  · rw [upd_ne e]
    exact h
theorem upd_old {a dx v1 v2 l : Addr} (no : ∀ dx fs, o = .ins C.clk dx fs → ("levels" : Str) ∉ fs.map (·.1)) (h : upd H p o a = some (.ins C.clk dx (ckf v1 v2 l))) : H a = some (.ins C.clk dx (ckf v1 v2 l)) := by
  by_cases ha : a = p
  · rw [ha, upd_same] at h
    have := no _ _ (Option.some.inj h)
    rw [ckf_keys] at this
    exact absurd (by simp) this
  · rw [upd_ne ha] at h
    exact h
theorem no_ins (h : NoIns o) : ∀ dx fs, o = .ins C.clk dx fs → ("levels" : Str) ∉ fs.map (·.1) := fun dx fs e => by
  rw [e] at h
  exact h.elim
theorem SR.newB (sr : SR K C S H) (hp : H p = Option.none) (no : ∀ dx fs, o = .ins C.clk dx fs → ("levels" : Str) ∉ fs.map (·.1)) : SR K C S (upd H p o) := by
  refine sr.go (Ext.new hp) (fun b h => upd_dom h) (fun a dx v1 v2 l h _ => upd_old no h) (fun a dx v1 v2 l e n => ⟨(sr.ck _ _ _ _ _ e n).1, fun xs h => by rw [upd_ne (ne_of_none h hp)]; exact h⟩) (fun q o e => ?_) (tabs_upd sr.tb fun u hu => by rw [hp] at hu; cases hu) (fun _ _ _ _ h => h)
  have h := sr.at_ q o e
  exact h.ext (Ext.new hp) (upd_ne fun z => h.has (z ▸ hp))
theorem SR.new (sr : SR K C S H) (hp : H p = Option.none) (no : NoIns o) : SR K C S (upd H p o) := sr.newB hp (no_ins no)
/-- the store learns of what stands at p -/
def NoLev : DO → Prop
  | .lev _ _ _ => False
  | _ => True
theorem put_lev {u : DO} {q : Addr} {h c : List D} {n : Nat} (nv : NoLev u) (e : S.put p u q = some (.lev h c n)) : S q = some (.lev h c n) := by
  by_cases hq : q = p
  · rw [hq, Sto.put_same] at e
    cases e
    exact nv.elim
  · rw [Sto.put_ne hq] at e
    exact e
theorem SR.learn (sr : SR K C S H) {u : DO} (ob : OB K C H p u) (nl : ∀ a dx v1 v2, H a = some (.ins C.clk dx (ckf v1 v2 p)) → ¬ C.old a → False) (nv : NoLev u := by exact trivial) : SR K C (S.put p u) H := by
  refine ⟨fun q o e => ?_, fun a dx v1 v2 l e n => ⟨?_, (sr.ck a dx v1 v2 l e n).2⟩, sr.sh, sr.od, sr.tb, fun q h c n e => sr.lv q h c n (put_lev nv e)⟩
  · by_cases hq : q = p
    · rw [hq, Sto.put_same] at e
      cases e
      rw [hq]
      exact ob
    · rw [Sto.put_ne hq] at e
      exact sr.at_ q o e
  · by_cases hl : l = p
    · rw [hl] at e
      exact (nl _ _ _ _ e n).elim
    · rw [Sto.put_ne hl]
      exact (sr.ck a dx v1 v2 l e n).1
theorem SR.noLv (sr : SR K C S H) (hp : ∀ xs, H p ≠ some (.lst xs)) : ∀ a dx v1 v2, H a = some (.ins C.clk dx (ckf v1 v2 p)) → ¬ C.old a → False := fun a dx v1 v2 e n => by
  obtain ⟨xs, h⟩ := (sr.ck a dx v1 v2 p e n).2.at
  exact hp xs h
theorem SR.noLvS (sr : SR K C S H) {u : DO} (hs : S p = some u) : ∀ a dx v1 v2, H a = some (.ins C.clk dx (ckf v1 v2 p)) → ¬ C.old a → False := fun a dx v1 v2 e n => by
  have := (sr.ck a dx v1 v2 p e n).1
  rw [hs] at this
  cases this
/-- a new list that may change -/
theorem SR.newL (sr : SR K C S H) (hp : H p = Option.none) {ds : List D} {xs : List V} (r : DRs K C H ds xs) (z : xs.length ≤ sizeLine) : SR K C (S.put p (.lst ds)) (upd H p (.lst xs)) := by
  refine (sr.new hp (o := .lst xs) trivial).learn ⟨xs, upd_same, r.ext (Ext.new hp), z⟩ fun a dx v1 v2 e n => ?_
  have e := upd_old (no_ins (o := .lst xs) trivial) e
  obtain ⟨ys, hy⟩ := (sr.ck a dx v1 v2 p e n).2.at
  rw [hp] at hy
  cases hy
/-- what stands at p, and may be written over, is written -/
theorem SR.over (sr : SR K C S H) {w : HO} {u : DO} (hp : H p = some w) (lo : Loose w) (nl : ∀ a dx v1 v2, H a = some (.ins C.clk dx (ckf v1 v2 p)) → ¬ C.old a → False) (no : ∀ dx fs, o = .ins C.clk dx fs → ("levels" : Str) ∉ fs.map (·.1)) (ob : OB K C (upd H p o) p u) (nv : NoLev u := by exact trivial) : SR K C (S.put p u) (upd H p o) := by
  have ext : Ext C H (upd H p o) := Ext.over hp lo
  refine sr.go ext (fun b h => upd_dom h) (fun a dx v1 v2 l h _ => upd_old no h) (fun a dx v1 v2 l e n => ?_) (fun q o' e => ?_) (tabs_upd sr.tb fun u hu => by rw [hp] at hu; cases hu; exact loose_tab lo) (fun _ _ _ _ e => put_lev nv e)
  · have hl : l ≠ p := fun z => nl a dx v1 v2 (z ▸ e) n
    exact ⟨by rw [Sto.put_ne hl]; exact (sr.ck _ _ _ _ _ e n).1, fun xs h => by rw [upd_ne hl]; exact h⟩
  · by_cases hq : q = p
    · rw [hq, Sto.put_same] at e
      cases e
      rw [hq]
      exact ob
    · rw [Sto.put_ne hq] at e
      exact (sr.at_ q o' e).ext ext (upd_ne hq)
theorem SR.wr (sr : SR K C S H) {ds es : List D} {ys : List V} (hs : S p = some (.lst es)) (r : DRs K C H ds ys) (z : ys.length ≤ sizeLine) : SR K C (S.put p (.lst ds)) (upd H p (.lst ys)) := by
  obtain ⟨xs, hp, _, _⟩ := sr.ob p es hs
  exact sr.over hp trivial (sr.noLvS hs) (no_ins (o := .lst ys) trivial) ⟨ys, upd_same, r.ext (Ext.wr hp), z⟩
/-- a list is locked for good: from now on it stands by its content -/
theorem SR.fz (sr : SR K C S H) {xs : List V} {ob : Obj} (hp : H p = some (.lst xs)) (nc : ∀ a dx v1 v2, H a = some (.ins C.clk dx (ckf v1 v2 p)) → ¬ C.old a → False) : SR K C (S.del p) (upd H p (.frz ob (.lst xs))) := by
  have ext : Ext C H (upd H p (.frz ob (.lst xs))) := Ext.fz hp
  refine sr.go ext (fun b h => upd_dom h) (fun a dx v1 v2 l h _ => upd_old (no_ins (o := .frz ob (.lst xs)) trivial) h) (fun a dx v1 v2 l e n => ?_) (fun q o' e => ?_) (tabs_upd sr.tb fun u hu => by rw [hp] at hu; cases hu; exact loose_tab (u := .lst xs) trivial) (fun q h c n e => by
    unfold Sto.del at e
    split at e
    · cases e
    · exact e)
  · have hl : l ≠ p := fun z => nc a dx v1 v2 (z ▸ e) n
    exact ⟨by rw [Sto.del_ne hl]; exact (sr.ck _ _ _ _ _ e n).1, fun xs h => by rw [upd_ne hl]; exact h⟩
  · have hq : q ≠ p := fun z => by
      rw [z, Sto.del_same] at e
      cases e
    rw [Sto.del_ne hq] at e
    exact (sr.at_ q o' e).ext ext (upd_ne hq)
theorem SR.fzS (sr : SR K C S H) {xs : List V} {ob : Obj} {es : List D} (hs : S p = some (.lst es)) (hp : H p = some (.lst xs)) : SR K C (S.del p) (upd H p (.frz ob (.lst xs))) :=
  sr.fz hp (sr.noLvS hs)
end
/-! ### the list at p is locked, under the invariant -/
theorem inv_fz {X : Cx} {pins : List (Addr × Obj)} {σ : L2.St} {H : Hp} {s : Shared} {p : Addr} {xs : List V} (I : Inv X pins σ H s) (hp : H p = some (.lst xs)) : ∃ ob, Inv X pins σ (upd H p (.frz ob (.lst xs))) s := by
  obtain ⟨hz, its, n, rv, e⟩ := I.hok p _ hp
  refine ⟨{ cls := .type "list", data := .seq its.toArray n }, ?_⟩
  have nn : ∀ b, H b = none → b ≠ p := fun b q z => by
    rw [z, hp] at q
    cases q
  have hok : HOk X.prog X.w (upd H p (.frz { cls := .type "list", data := .seq its.toArray n } (.lst xs))) s.heap := fun b u q => by
    by_cases hb : b = p
    · rw [hb, upd_same] at q
      cases q
      rw [hb]
      exact ⟨e, hz, its, n, rv, e⟩
    · rw [upd_ne hb] at q
      refine (I.hok b u q).stay (fun c v _ r => r) (fun c r => ?_) fun c zs r => ?_
      · rw [upd_ne (ne_of r hp (by intro z; cases z))]
        exact r
      · rw [upd_ne (ne_of r hp (by intro z; cases z))]
        exact r
  refine ⟨I.ok, I.os, I.bare, ⟨I.base.keep, I.base.slot, fun b o q1 q2 q3 => ?_, I.base.there, fun b zs q => ?_, fun b o u q => ?_, fun b ps q => ?_⟩, I.loc, I.cell, ?_, fun x c q => ?_, fun q hq => ?_, hok, I.len⟩
  · have z := I.base.free b o q1 q2 q3
    rw [upd_ne (nn b z)]
    exact z
  · have z := I.base.tups b zs q
    rw [upd_ne (ne_of z hp (by intro z; cases z))]
    exact z
  · have z := I.base.frzs b o u q
    rw [upd_ne (ne_of z hp (by intro z; cases z))]
    exact z
  · obtain ⟨m, z⟩ := I.base.tbls b ps q
    exact ⟨m, by rw [upd_ne (ne_of z hp (by intro z; cases z))]; exact z⟩
  · rw [upd_ne (nn _ I.free)]
    exact I.free
  · rw [upd_ne (nn _ (I.freeC x c q))]
    exact I.freeC x c q
  · obtain ⟨a1, a2, a3, a4, a5⟩ := I.pin q hq
    exact ⟨a1, by rw [upd_ne (nn _ a2)]; exact a2, a3, a4, a5⟩
end RL
namespace RL
open PySem PySem.Spec PyProof.Rows L2
/-! ### judgements by content -/
abbrev EV := List (Option D)
abbrev KD := D → Sto → Prop
abbrev WE := EV → Sto → KD → Prop
abbrev WT := EV → Sto → (Bool → Sto → Prop) → Prop
abbrev WA := EV → Sto → (List D → Sto → Prop) → Prop
structure Stt (K : PySem.W.Frag) (C : Cf) (H0 : Hp) (E : EV) (S : Sto) (σ : L2.St) (H : Hp) : Prop where
  base : Ext C H0 H
  len : E.length = σ.length
  env : ∀ (i : Nat) (d : D), E[i]? = some (some d) → ∃ v, σ[i]? = some (some v) ∧ DR K C H d v
  sr : SR K C S H
theorem Stt.ext {K : PySem.W.Frag} {C : Cf} {H0 : Hp} {E : EV} {S S' : Sto} {σ : L2.St} {H H' : Hp} (st : Stt K C H0 E S σ H) (e : Ext C H H') (sr : SR K C S' H') : Stt K C H0 E S' σ H' :=
  ⟨st.base.trans e, st.len, fun i d q => let ⟨v, h1, h2⟩ := st.env i d q; ⟨v, h1, h2.ext e⟩, sr⟩
theorem Stt.set {K : PySem.W.Frag} {C : Cf} {H0 : Hp} {E : EV} {S : Sto} {σ : L2.St} {H : Hp} (st : Stt K C H0 E S σ H) {d : D} {v : V} (r : DR K C H d v) (i : Nat) : Stt K C H0 (E.set i (some d)) S (σ.set i (some v)) H := by
  refine ⟨st.base, by rw [List.length_set, List.length_set]; exact st.len, fun j e q => ?_, st.sr⟩
  by_cases hj : i = j
  · subst hj
    by_cases hl : i < E.length
    · rw [List.getElem?_set_self hl] at q
      cases q
      rw [List.getElem?_set_self (st.len ▸ hl)]
      exact ⟨v, rfl, r⟩
    · rw [List.getElem?_eq_none (by rw [List.length_set]; omega)] at q
      cases q
  · rw [List.getElem?_set_ne hj] at q
    rw [List.getElem?_set_ne hj]
    exact st.env j e q
/-- the wish Q follows from the wish Qd by content -/
def Cl (K : PySem.W.Frag) (C : Cf) (H : Hp) (Qd : KD) (Q : VK) : Prop := ∀ d S' v H', Ext C H H' → DR K C H' d v → SR K C S' H' → Qd d S' → Q v H'
theorem Cl.mono {K : PySem.W.Frag} {C : Cf} {H H1 : Hp} {Qd : KD} {Q : VK} (c : Cl K C H Qd Q) (e : Ext C H H1) : Cl K C H1 Qd Q := fun d S' v H' e' r s q => c d S' v H' (e.trans e') r s q
def liftE (K : PySem.W.Frag) (C : Cf) (H0 : Hp) (w : WE) : TE := fun σ H Q => ∃ E S Qd, Stt K C H0 E S σ H ∧ w E S Qd ∧ Cl K C H Qd Q
def liftT (K : PySem.W.Frag) (C : Cf) (H0 : Hp) (w : WT) : TT := fun σ H Q => ∃ E S Qd, Stt K C H0 E S σ H ∧ w E S Qd ∧ ∀ b S' H', Ext C H H' → SR K C S' H' → Qd b S' → Q b H'
def liftA (K : PySem.W.Frag) (C : Cf) (H0 : Hp) (w : WA) : TA := fun σ H Q => ∃ E S Qd, Stt K C H0 E S σ H ∧ w E S Qd ∧ ∀ ds S' vs H', Ext C H H' → DRs K C H' ds vs → SR K C S' H' → Qd ds S' → Q vs H'
structure DE (C : Cf) (B : Hp) (X : Cx) (e : Expr) (w : WE) : Prop where
  pe : PE X e (liftE X.K C B w)
structure DT (C : Cf) (B : Hp) (X : Cx) (e : Expr) (w : WT) : Prop where
  pt : PT X e (liftT X.K C B w)
structure DW (C : Cf) (B : Hp) (X : Cx) (e : Expr) (w : WT) : Prop where
  pw : PW X e (liftT X.K C B w)
structure DA (C : Cf) (B : Hp) (X : Cx) (es : List Expr) (w : WA) : Prop where
  pa : PA X es (liftA X.K C B w)
theorem PEimp {X : Cx} {e : Expr} {t t' : TE} (p : PE X e t) (h : ∀ σ H Q, t' σ H Q → t σ H Q) : PE X e t' := ⟨fun pins s σ H Q I q => p.run pins s σ H Q I (h σ H Q q)⟩
theorem PTimp {X : Cx} {e : Expr} {t t' : TT} (p : PT X e t) (h : ∀ σ H Q, t' σ H Q → t σ H Q) : PT X e t' := ⟨fun pins s σ H Q I q => p.run pins s σ H Q I (h σ H Q q)⟩
theorem PWimp {X : Cx} {e : Expr} {t t' : TT} (p : PW X e t) (h : ∀ σ H Q, t' σ H Q → t σ H Q) : PW X e t' := ⟨fun wh pins s σ H Q I q => p.run wh pins s σ H Q I (h σ H Q q)⟩
theorem PAimp {X : Cx} {es : List Expr} {t t' : TA} (p : PA X es t) (h : ∀ σ H Q, t' σ H Q → t σ H Q) : PA X es t' := ⟨fun pos pins s σ H Q I q => p.run pos pins s σ H Q I (h σ H Q q)⟩
section
variable {K : PySem.W.Frag} {C : Cf} {H : Hp} {Qd : KD} {Q : VK} {S : Sto} {p : Addr}
theorem Cl.now {d : D} {v : V} (c : Cl K C H Qd Q) (r : DR K C H d v) (sr : SR K C S H) (q : Qd d S) : Q v H := c d S v H (Ext.refl C H) r sr q
/-- a new tuple -/
theorem Cl.tup {ds : List D} {vs : List V} (c : Cl K C H Qd Q) (hp : H p = none) (r : DRs K C H ds vs) (z : vs.length ≤ sizeLine) (sr : SR K C S H) (q : Qd (.tup ds) S) : Q (.ref p) (upd H p (.tup vs)) :=
  c _ _ _ _ (Ext.new hp) (.tup (.inl (.inl upd_same)) (r.ext (Ext.new hp)) z) (sr.new hp trivial) q
/-- a new list that may change -/
theorem Cl.newL {ds : List D} {vs : List V} (c : Cl K C H Qd Q) (hp : H p = none) (r : DRs K C H ds vs) (z : vs.length ≤ sizeLine) (sr : SR K C S H) (q : Qd (.ref p) (S.put p (.lst ds))) : Q (.ref p) (upd H p (.lst vs)) :=
  c _ _ _ _ (Ext.new hp) (.ref p) (sr.newL hp r z) q
/-- a new list that is locked at once -/
theorem Cl.newF {ds : List D} {vs : List V} {ob : Obj} (c : Cl K C H Qd Q) (hp : H p = none) (r : DRs K C H ds vs) (z : vs.length ≤ sizeLine) (sr : SR K C S H) (q : Qd (.lst ds) S) : Q (.ref p) (upd H p (.frz ob (.lst vs))) :=
  c _ _ _ _ (Ext.new hp) (.lst upd_same (r.ext (Ext.new hp)) z) (sr.new hp trivial) q
end
/-- what is wanted of a list that was made and is locked now -/
def fzK (Q : VK) : VK := fun v H => ∃ p xs, v = .ref p ∧ H p = some (.lst xs) ∧ ∀ ob, Q v (upd H p (.frz ob (.lst xs)))
theorem ep_fz {X : Cx} {pins : List (Addr × Obj)} {σ : L2.St} {Q : VK} {u : Value} {s : Shared} (h : EP X pins σ (fzK Q) u s) : EP X pins σ Q u s := by
  obtain ⟨v, H, I, r, p, xs, rfl, hp, q⟩ := h
  obtain ⟨ob, I'⟩ := inv_fz I hp
  exact ⟨_, _, I', r, q ob⟩
theorem PEfz {X : Cx} {e : Expr} {t : TE} (p : PE X e t) : PE X e (fun σ H Q => t σ H (fzK Q)) := ⟨fun pins s σ H Q I q => thn (p.run pins s σ H _ I q) fun _ _ => ep_fz⟩
theorem CallRfz {X : Cx} {f : Value} {r : List V → Hp → VK → Prop} (p : CallR X f r) : CallR X f (fun xs H Q => r xs H (fzK Q)) := fun pins s σ H xs us Q I a q => thn (p pins s σ H xs us _ I a q) fun _ _ => ep_fz
theorem Cl.newZ {K : PySem.W.Frag} {C : Cf} {H : Hp} {Qd : KD} {Q : VK} {S : Sto} {p : Addr} {ds : List D} {vs : List V} (c : Cl K C H Qd Q) (hp : H p = none) (r : DRs K C H ds vs) (z : vs.length ≤ sizeLine) (sr : SR K C S H) (q : Qd (.lst ds) S) : fzK Q (.ref p) (upd H p (.lst vs)) :=
  ⟨p, vs, rfl, upd_same, fun ob => by rw [upd_upd]; exact c.newF hp r z sr q⟩
/-! ### names and constants -/
def wVar (i : Nat) : WE := fun E S Q => match E[i]? with
  | some (some d) => Q d S
  | _ => False
def wC (d : D) : WE := fun _ S Q => Q d S
section
variable {C : Cf} {B : Hp} {X : Cx} {pos : Pos}
theorem de_var (i : Nat) {x : Str} (hN : X.N[i]? = some x := by rfl) (hv : Vis X.env.scope x := by first | exact Or.inl rfl | exact Or.inr (Or.inl rfl) | exact Or.inr (Or.inr rfl)) (hd : (x == ("__debug__" : Str)) = false := by decide)
    (hcd : (x == ("__classdict__" : Str)) = false := by decide) : DE C B X (.Name x pos) (wVar i) :=
  ⟨PEimp (pe_var hN hv hd hcd) fun σ H Q ⟨E, S, Qd, st, h, c⟩ => by
    unfold wVar at h
    split at h
    · rename_i d e
      obtain ⟨v, h1, h2⟩ := st.env i d e
      exact ⟨v, h1, c.now h2 st.sr h⟩
    · exact h.elim⟩
theorem de_c {e : Expr} {v : V} {d : D} (h : PE X e (tC v)) (r : ∀ H, DR X.K C H d v) : DE C B X e (wC d) := ⟨PEimp h fun σ H Q ⟨E, S, Qd, st, h, c⟩ => c.now (r H) st.sr h⟩
theorem de_int {i : Int} {j : Nat} : DE C B X (.Constant (.int i) j pos) (wC (.int i)) := de_c pe_int fun _ => .int _
theorem de_bl {b : Bool} {j : Nat} : DE C B X (.Constant (.bool b) j pos) (wC (.bl b)) := de_c pe_bl fun _ => .bl _
theorem de_non {j : Nat} : DE C B X (.Constant .none j pos) (wC .non) := de_c pe_non fun _ => .non
theorem de_str {x : Str} {j : Nat} : DE C B X (.Constant (.str x) j pos) (wC (.str x)) := de_c pe_str fun _ => .str _
/-- a module's constant: an int or a text -/
theorem de_gint {x : Str} {i : Int} (hm : ∃ t, X.mg x = some (.int i t)) (hg : Gl X x := by rfl) (hd : (x == ("__debug__" : Str)) = false := by decide) : DE C B X (.Name x pos) (wC (.int i)) :=
  let ⟨t, h⟩ := hm
  de_c (pe_glob (v := .int i) hg h ⟨t, rfl⟩ hd) fun _ => .int _
/-- a class, a def of the module as a value -/
theorem de_gref {x : Str} {a : Addr} (hm : X.mg x = some (.ref a)) (hg : Gl X x := by rfl) (hd : (x == ("__debug__" : Str)) = false := by decide) : DE C B X (.Name x pos) (wC (.ref a)) :=
  de_c (pe_glob (v := .ref a) hg hm rfl hd) fun _ => .ref _
/-- a built-in class as a value -/
theorem de_gty {x : Str} {n : String} (hm : X.mg x = none) (hv : bootBuiltins x = some (.type n)) (hg : Gl X x := by rfl) (hn : x ≠ "__name__" := by decide) (hd : (x == ("__debug__" : Str)) = false := by decide) : DE C B X (.Name x pos) (wC (.ty n)) :=
  de_c (pe_bltn (v := .ty n) hg hm hv rfl hn hd) fun _ => .ty _
end
/-! ### operators by content -/
abbrev R2D := D → D → Sto → KD → Prop
def lift2 (K : PySem.W.Frag) (C : Cf) (r : R2D) : R2 := fun x y H Q => ∃ dx dy S Qd, DR K C H dx x ∧ DR K C H dy y ∧ SR K C S H ∧ r dx dy S Qd ∧ Cl K C H Qd Q
def lift1 (K : PySem.W.Frag) (C : Cf) (r : D → Sto → KD → Prop) : V → Hp → VK → Prop := fun x H Q => ∃ dx S Qd, DR K C H dx x ∧ SR K C S H ∧ r dx S Qd ∧ Cl K C H Qd Q
def liftC (K : PySem.W.Frag) (C : Cf) (r : List D → Sto → KD → Prop) : List V → Hp → VK → Prop := fun vs H Q => ∃ ds S Qd, DRs K C H ds vs ∧ SR K C S H ∧ r ds S Qd ∧ Cl K C H Qd Q
def wBin (r : R2D) (a b : WE) : WE := fun E S Q => a E S fun x S1 => b E S1 fun y S2 => r x y S2 Q
def wUn (r : D → Sto → KD → Prop) (a : WE) : WE := fun E S Q => a E S fun x S1 => r x S1 Q
section
variable {C : Cf} {B : Hp} {X : Cx} {pos : Pos} {a b c : Expr} {wa wb wc : WE}
theorem lift_bin {r : R2D} {σ : L2.St} {H : Hp} {Q : VK} (h : liftE X.K C B (wBin r wa wb) σ H Q) : tOp (lift2 X.K C r) (liftE X.K C B wa) (liftE X.K C B wb) σ H Q := by
  obtain ⟨E, S, Qd, st, h, c⟩ := h
  exact ⟨E, S, _, st, h, fun x S1 v H1 e1 r1 s1 h1 => ⟨E, S1, _, st.ext e1 s1, h1, fun y S2 u H2 e2 r2 s2 h2 => ⟨x, y, S2, Qd, r1.ext e2, r2, s2, h2, (c.mono e1).mono e2⟩⟩⟩
theorem de_bin {op : Operator} {r : R2D} (ho : OpR X (binaryOp op) (lift2 X.K C r)) (ha : DE C B X a wa) (hb : DE C B X b wb) : DE C B X (.BinOp a op b pos) (wBin r wa wb) :=
  ⟨PEimp (pe_op ho ha.pe hb.pe) fun _ _ _ h => lift_bin h⟩
theorem de_un {op : UnaryOp} {r : D → Sto → KD → Prop} (ho : UnR X (unaryOp op) (lift1 X.K C r)) (ha : DE C B X a wa) : DE C B X (.UnaryOp op a pos) (wUn r wa) :=
  ⟨PEimp (pe_un ho ha.pe) fun σ H Q ⟨E, S, Qd, st, h, c⟩ => ⟨E, S, _, st, h, fun x S1 v H1 e1 r1 s1 h1 => ⟨x, S1, Qd, r1, s1, h1, c.mono e1⟩⟩⟩
/-! comparisons -/
theorem de_cmp {op : CmpOp} {r : R2D} (ho : OpR X (compareOp op) (lift2 X.K C r)) (ha : DE C B X a wa) (hb : DE C B X b wb) (hm : behindInMarks op b = false := by first | exact nomark _ | with_unfolding_all rfl) : DE C B X (.Compare a [op] [b] pos) (wBin r wa wb) :=
  ⟨PEimp (pe_cmpR ho ha.pe hb.pe hm) fun _ _ _ h => lift_bin h⟩
def wTest (w : WE) : WT := fun E S Q => w E S fun x S1 => match x with
  | .bl k => Q k S1
  | _ => False
theorem lift_test {w : WE} {σ : L2.St} {H : Hp} {Q : Bool → Hp → Prop} (h : liftT X.K C B (wTest w) σ H Q) : liftE X.K C B w σ H fun x H' => ∃ k, x = .bl k ∧ Q k H' := by
  obtain ⟨E, S, Qd, st, h, c⟩ := h
  refine ⟨E, S, _, st, h, fun d S1 v H1 e1 r1 s1 h1 => ?_⟩
  cases d <;> first | exact False.elim h1 | skip
  cases r1
  exact ⟨_, rfl, c _ _ _ e1 s1 h1⟩
theorem dt_cmp {op : CmpOp} {r : R2D} (ho : OpR X (compareOp op) (lift2 X.K C r)) (ha : DE C B X a wa) (hb : DE C B X b wb) (hm : behindInMarks op b = false := by first | exact nomark _ | with_unfolding_all rfl) : DT C B X (.Compare a [op] [b] pos) (wTest (wBin r wa wb)) :=
  ⟨PTimp (pt_cmpR ho ha.pe hb.pe hm) fun σ H Q h => by
    obtain ⟨E, S, Qd, st, h, c⟩ := lift_test h
    exact lift_bin ⟨E, S, Qd, st, h, c⟩⟩
/-- any expression that is True or False, as a test -/
theorem dt_val {e : Expr} {w : WE} (h : DE C B X e w) (he : ∀ whole, isTrue e X.env whole = (do let v ← whole; standAt e.pos; holding [v] (truthy v)) := by intro _; rfl) : DT C B X e (wTest w) :=
  ⟨PTimp (pt_val h.pe he) fun _ _ _ h => lift_test h⟩
/-- a op1 b op2 c -/
def wChain (r r' : R2D) (a b c : WE) : WE := fun E S Q => a E S fun x S1 => b E S1 fun y S2 => r x y S2 fun z S3 => match z with
  | .bl k => if k = true then c E S3 fun w S4 => r' y w S4 Q else Q (.bl false) S3
  | _ => False
theorem lift_chain {r r' : R2D} {σ : L2.St} {H : Hp} {Q : VK} (h : liftE X.K C B (wChain r r' wa wb wc) σ H Q) : tChain (lift2 X.K C r) (lift2 X.K C r') (liftE X.K C B wa) (liftE X.K C B wb) (liftE X.K C B wc) σ H Q := by
  obtain ⟨E, S, Qd, st, h, c⟩ := h
  refine ⟨E, S, _, st, h, fun x S1 v H1 e1 r1 s1 h1 => ⟨E, S1, _, st.ext e1 s1, h1, fun y S2 u H2 e2 r2 s2 h2 => ⟨x, y, S2, _, r1.ext e2, r2, s2, h2, fun z S3 zv H3 e3 r3 s3 h3 => ?_⟩⟩⟩
  cases z <;> first | exact False.elim h3 | skip
  rename_i k
  cases r3
  refine ⟨k, rfl, ?_⟩
  have cc := ((c.mono e1).mono e2).mono e3
  cases k with
  | true =>
    have h3 : wc E S3 fun w S4 => r' y w S4 Qd := h3
    exact ⟨E, S3, _, st.ext ((e1.trans e2).trans e3) s3, h3, fun w S4 wv H4 e4 r4 s4 h4 => ⟨y, w, S4, Qd, (r2.ext e3).ext e4, r4, s4, h4, cc.mono e4⟩⟩
  | false => exact cc.now (.bl false) s3 h3
theorem de_chain {op op' : CmpOp} {r r' : R2D} (ho : OpR X (compareOp op) (lift2 X.K C r)) (ho' : OpR X (compareOp op') (lift2 X.K C r')) (ha : DE C B X a wa) (hb : DE C B X b wb) (hc : DE C B X c wc)
    (hm : lastMarks [op, op'] [b, c] = false := by with_unfolding_all rfl) : DE C B X (.Compare a [op, op'] [b, c] pos) (wChain r r' wa wb wc) :=
  ⟨PEimp (pe_chain ho ho' ha.pe hb.pe hc.pe hm) fun _ _ _ h => lift_chain h⟩
theorem dt_chain {op op' : CmpOp} {r r' : R2D} (ho : OpR X (compareOp op) (lift2 X.K C r)) (ho' : OpR X (compareOp op') (lift2 X.K C r')) (ha : DE C B X a wa) (hb : DE C B X b wb) (hc : DE C B X c wc)
    (hm : lastMarks [op, op'] [b, c] = false := by with_unfolding_all rfl) : DT C B X (.Compare a [op, op'] [b, c] pos) (wTest (wChain r r' wa wb wc)) :=
  ⟨PTimp (pt_chain ho ho' ha.pe hb.pe hc.pe hm) fun σ H Q h => by
    obtain ⟨E, S, Qd, st, h, c⟩ := lift_test h
    exact lift_chain ⟨E, S, Qd, st, h, c⟩⟩
/-! and, or, not; a if t else b -/
def wAnd (t u : WT) : WT := fun E S Q => t E S fun k S1 => if k = true then u E S1 Q else Q false S1
def wOr (t u : WT) : WT := fun E S Q => t E S fun k S1 => if k = true then Q true S1 else u E S1 Q
def wNot (t : WT) : WT := fun E S Q => t E S fun k S1 => Q (!k) S1
variable {ta tb : WT} {rest : List Expr}
theorem dw_and1 (h : DT C B X a ta) : DW C B X (.BoolOp .And [a] pos) ta := ⟨pw_and1 h.pt⟩
theorem dw_or1 (h : DT C B X a ta) : DW C B X (.BoolOp .Or [a] pos) ta := ⟨pw_or1 h.pt⟩
theorem dw_and (h : DT C B X a ta) (g : DW C B X (.BoolOp .And (b :: rest) pos) tb) : DW C B X (.BoolOp .And (a :: b :: rest) pos) (wAnd ta tb) :=
  ⟨PWimp (pw_and h.pt g.pw) fun σ H Q ⟨E, S, Qd, st, h, c⟩ => ⟨E, S, _, st, h, fun k S1 H1 e1 s1 h1 => by
    cases k with
    | true =>
      have h1 : tb E S1 Qd := h1
      exact ⟨E, S1, Qd, st.ext e1 s1, h1, fun b S2 H2 e2 s2 q => c b S2 H2 (e1.trans e2) s2 q⟩
    | false => exact c _ _ _ e1 s1 h1⟩⟩
theorem dw_or (h : DT C B X a ta) (g : DW C B X (.BoolOp .Or (b :: rest) pos) tb) : DW C B X (.BoolOp .Or (a :: b :: rest) pos) (wOr ta tb) :=
  ⟨PWimp (pw_or h.pt g.pw) fun σ H Q ⟨E, S, Qd, st, h, c⟩ => ⟨E, S, _, st, h, fun k S1 H1 e1 s1 h1 => by
    cases k with
    | false =>
      have h1 : tb E S1 Qd := h1
      exact ⟨E, S1, Qd, st.ext e1 s1, h1, fun b S2 H2 e2 s2 q => c b S2 H2 (e1.trans e2) s2 q⟩
    | true => exact c _ _ _ e1 s1 h1⟩⟩
theorem dt_w (h : DW C B X a ta) : DT C B X a ta := ⟨h.pw.pt⟩
theorem dt_not (h : DT C B X a ta) : DT C B X (.UnaryOp .Not a pos) (wNot ta) :=
  ⟨PTimp (pt_not h.pt) fun σ H Q ⟨E, S, Qd, st, h, c⟩ => ⟨E, S, _, st, h, fun k S1 H1 e1 s1 h1 => c _ _ _ e1 s1 h1⟩⟩
/-- as values, of True and False -/
def wAndV (a b : WE) : WE := fun E S Q => a E S fun x S1 => match x with
  | .bl k => if k = true then b E S1 Q else Q (.bl false) S1
  | _ => False
def wOrV (a b : WE) : WE := fun E S Q => a E S fun x S1 => match x with
  | .bl k => if k = true then Q (.bl true) S1 else b E S1 Q
  | _ => False
def wNotV (a : WE) : WE := fun E S Q => a E S fun x S1 => match x with
  | .bl k => Q (.bl (!k)) S1
  | _ => False
theorem de_one {op : BoolOp} (h : DE C B X a wa) : DE C B X (.BoolOp op [a] pos) wa := ⟨pe_one h.pe⟩
theorem de_and (h : DE C B X a wa) (g : DE C B X (.BoolOp .And (b :: rest) pos) wb) : DE C B X (.BoolOp .And (a :: b :: rest) pos) (wAndV wa wb) :=
  ⟨PEimp (pe_and h.pe g.pe) fun σ H Q ⟨E, S, Qd, st, h, c⟩ => ⟨E, S, _, st, h, fun x S1 v H1 e1 r1 s1 h1 => by
    cases x <;> first | exact False.elim h1 | skip
    rename_i k
    cases r1
    refine ⟨k, rfl, ?_⟩
    cases k with
    | true =>
      have h1 : wb E S1 Qd := h1
      exact ⟨E, S1, Qd, st.ext e1 s1, h1, c.mono e1⟩
    | false => exact (c.mono e1).now (.bl false) s1 h1⟩⟩
def wIfE (t : WT) (a b : WE) : WE := fun E S Q => t E S fun k S1 => if k = true then a E S1 Q else b E S1 Q
theorem de_ife {t : Expr} (ht : DT C B X t ta) (h : DE C B X a wa) (g : DE C B X b wb) : DE C B X (.IfExp t a b pos) (wIfE ta wa wb) :=
  ⟨PEimp (pe_ifExp ht.pt h.pe g.pe) fun σ H Q ⟨E, S, Qd, st, h, c⟩ => ⟨E, S, _, st, h, fun k S1 H1 e1 s1 h1 => by
    cases k with
    | true =>
      have h1 : wa E S1 Qd := h1
      exact ⟨E, S1, Qd, st.ext e1 s1, h1, c.mono e1⟩
    | false =>
      have h1 : wb E S1 Qd := h1
      exact ⟨E, S1, Qd, st.ext e1 s1, h1, c.mono e1⟩⟩⟩
/-! arguments, displays -/
def wNil : WA := fun _ S Q => Q [] S
def wCons (a : WE) (r : WA) : WA := fun E S Q => a E S fun x S1 => r E S1 fun xs S2 => Q (x :: xs) S2
theorem da_nil : DA C B X [] wNil := ⟨PAimp pa_nil fun σ H Q ⟨E, S, Qd, st, h, c⟩ => c _ _ _ _ (Ext.refl C H) .nil st.sr h⟩
theorem da_cons {es : List Expr} {w : WA} (h : DE C B X a wa) (g : DA C B X es w) (hs : starEach (a :: es) X.env = (false, eval a X.env) :: starEach es X.env := by rfl) : DA C B X (a :: es) (wCons wa w) :=
  ⟨PAimp (pa_cons h.pe g.pa hs) fun σ H Q ⟨E, S, Qd, st, h, c⟩ => ⟨E, S, _, st, h, fun x S1 v H1 e1 r1 s1 h1 => ⟨E, S1, _, st.ext e1 s1, h1, fun xs S2 vs H2 e2 r2 s2 h2 => c _ _ _ _ (e1.trans e2) (.cons (r1.ext e2) r2) s2 h2⟩⟩⟩
def wTup (w : WA) : WE := fun E S Q => w E S fun xs S1 => xs.length ≤ sizeLine ∧ Q (.tup xs) S1
/-- a list, locked at once -/
def wLst (w : WA) : WE := fun E S Q => w E S fun xs S1 => xs.length ≤ sizeLine ∧ Q (.lst xs) S1
/-- a list that may change -/
def wLstL (w : WA) : WE := fun E S Q => w E S fun xs S1 => xs.length ≤ sizeLine ∧ ∀ p, S1 p = none → Q (.ref p) (S1.put p (.lst xs))
theorem de_tup {es : List Expr} {w : WA} {k : Nat} (h : DA C B X es w) : DE C B X (.Tuple es k pos) (wTup w) :=
  ⟨PEimp (pe_tup h.pa) fun σ H Q ⟨E, S, Qd, st, h, c⟩ => ⟨E, S, _, st, h, fun xs S1 vs H1 e1 r1 s1 h1 => ⟨by rw [← r1.length]; exact h1.1, fun p hp => (c.mono e1).tup hp r1 (by rw [← r1.length]; exact h1.1) s1 h1.2⟩⟩⟩
theorem de_lst {es : List Expr} {w : WA} (h : DA C B X es w) : DE C B X (.List es pos) (wLst w) :=
  ⟨PEimp (PEfz (pe_lst h.pa)) fun σ H Q ⟨E, S, Qd, st, h, c⟩ => ⟨E, S, _, st, h, fun xs S1 vs H1 e1 r1 s1 h1 => ⟨by rw [← r1.length]; exact h1.1, fun p hp => (c.mono e1).newZ hp r1 (by rw [← r1.length]; exact h1.1) s1 h1.2⟩⟩⟩
theorem de_lstL {es : List Expr} {w : WA} (h : DA C B X es w) : DE C B X (.List es pos) (wLstL w) :=
  ⟨PEimp (pe_lst h.pa) fun σ H Q ⟨E, S, Qd, st, h, c⟩ => ⟨E, S, _, st, h, fun xs S1 vs H1 e1 r1 s1 h1 => ⟨by rw [← r1.length]; exact h1.1, fun p hp => (c.mono e1).newL hp r1 (by rw [← r1.length]; exact h1.1) s1 (h1.2 p (s1.none hp))⟩⟩⟩
end
end RL
namespace RL
open PySem PySem.Spec PyProof.Rows L2
/-! ### lists that are read, locked or not -/
section
variable {X : Cx} {pins : List (Addr × Obj)} {σ : L2.St} {H : Hp} {s : Shared} {l : Addr} {xs : List V}
theorem lst_rd (I : Inv X pins σ H s) (h : Rd H l (.lst xs)) : xs.length ≤ sizeLine ∧ ∃ (its : List Value) (n : Nat), Vals xs its ∧ xs.length = its.length ∧ s.heap.get? l = some { cls := .type "list", data := .seq its.toArray n } := by
  obtain ⟨hz, its, n, r, e⟩ := h.ok I.hok
  exact ⟨hz, its, n, r, r.length, e⟩
end
def lsOf : Option DO → Option (List D)
  | some (.lst ds) => some ds
  | _ => none
/-! ### arithmetic -/
/-- list + list, of any two lists -/
def rCatR : R2 := fun x y H Q => ∃ l b xs zs, x = .ref l ∧ y = .ref b ∧ Rd H l (.lst xs) ∧ Rd H b (.lst zs) ∧ xs.length + zs.length ≤ sizeLine ∧ ∀ p, H p = none → Q (.ref p) (upd H p (.lst (xs ++ zs)))
theorem op_catR {X : Cx} : OpR X (binaryOp .Add) rCatR := by
  rintro pins s σ H _ _ v u Q I rx ry ⟨l, b, xs, zs, rfl, rfl, hl, hb, hz, q⟩
  cases rx
  cases ry
  obtain ⟨-, is1, n1, v1, e1, g1⟩ := lst_rd I hl
  obtain ⟨-, is2, n2, v2, e2, g2⟩ := lst_rd I hb
  have z1 : is1.toArray.size + is2.toArray.size ≤ sizeLine := by
    simp only [List.size_toArray]
    omega
  refine PySem.P.add_list g1 g2 ?_ z1
  rw [show is1.toArray ++ is2.toArray = (is1 ++ is2).toArray by simp]
  refine ⟨.ref _, _, Inv.lnew (t' := s.toks) I (v1.append v2) ?_, rfl, q _ I.fresh⟩
  rw [List.length_append]
  exact hz
def dAdd : R2D := fun x y S Q => match x, y with
  | .int i, .int j => Q (.int (i + j)) S
  | .str i, .str j => i.length + j.length ≤ sizeLine ∧ Q (.str (i ++ j)) S
  | .tup xs, .tup ys => xs.length + ys.length ≤ sizeLine ∧ Q (.tup (xs ++ ys)) S
  | .lst xs, .lst ys => xs.length + ys.length ≤ sizeLine ∧ Q (.lst (xs ++ ys)) S
  | _, _ => False
theorem OpRfz {X : Cx} {f : Value → Value → Sem Value} {r : R2} (p : OpR X f r) : OpR X f (fun x y H Q => r x y H (fzK Q)) := fun pins s σ H x y v u Q I a b q => thn (p pins s σ H x y v u _ I a b q) fun _ _ => ep_fz
section
variable {C : Cf} {X : Cx}
theorem od_add : OpR X (binaryOp .Add) (lift2 X.K C dAdd) := by
  rintro pins s σ H x y v u Q I rx ry ⟨dx, dy, S, Qd, r1, r2, sr, h, c⟩
  cases dx <;> cases dy <;> first | exact False.elim h | skip
  · cases r1; cases r2
    exact op_add pins s σ H _ _ v u Q I rx ry ⟨_, _, rfl, rfl, c.now (.int _) sr h⟩
  · cases r1; cases r2
    exact op_add_str pins s σ H _ _ v u Q I rx ry ⟨_, _, rfl, rfl, h.1, c.now (.str _) sr h.2⟩
  · cases r1 with
    | tup a1 b1 z1 =>
      cases r2 with
      | tup a2 b2 z2 =>
        refine op_catA pins s σ H _ _ v u Q I rx ry ⟨_, _, _, _, rfl, rfl, a1, a2, by rw [← b1.length, ← b2.length]; exact h.1, fun e => ?_, fun _ e => ?_, fun _ _ p hp => c.tup hp (b1.app b2) (by rw [List.length_append, ← b1.length, ← b2.length]; exact h.1) sr h.2⟩
        · subst e
          cases b1
          exact c.now (.tup a2 b2 z2) sr h.2
        · subst e
          cases b2
          exact c.now (.tup a1 (by rw [List.append_nil]; exact b1) z1) sr h.2
  · cases r1 with
    | lst a1 b1 z1 =>
      cases r2 with
      | lst a2 b2 z2 =>
        exact OpRfz op_catR pins s σ H _ _ v u Q I rx ry ⟨_, _, _, _, rfl, rfl, .inr ⟨_, a1⟩, .inr ⟨_, a2⟩, by rw [← b1.length, ← b2.length]; exact h.1, fun p hp => c.newZ hp (b1.app b2) (by rw [List.length_append, ← b1.length, ← b2.length]; exact h.1) sr h.2⟩
/-- on two ints -/
def dII (P : Int → Int → Prop) (g : Int → Int → D) : R2D := fun x y S Q => match x, y with
  | .int i, .int j => P i j ∧ Q (g i j) S
  | _, _ => False
def dII0 (g : Int → Int → D) : R2D := fun x y S Q => match x, y with
  | .int i, .int j => Q (g i j) S
  | _, _ => False
theorem od_ii {f : Value → Value → Sem Value} {P : Int → Int → Prop} {g : Int → Int → Int} (o : OpR X f (rI P fun i j => .int (g i j))) : OpR X f (lift2 X.K C (dII P fun i j => .int (g i j))) := by
  rintro pins s σ H x y v u Q I rx ry ⟨dx, dy, S, Qd, r1, r2, sr, h, c⟩
  cases dx <;> cases dy <;> first | exact False.elim h | skip
  cases r1; cases r2
  exact o pins s σ H _ _ v u Q I rx ry ⟨_, _, rfl, rfl, h.1, c.now (.int _) sr h.2⟩
theorem od_ii0 {f : Value → Value → Sem Value} {g : Int → Int → Int} (o : OpR X f (rI0 fun i j => .int (g i j))) : OpR X f (lift2 X.K C (dII0 fun i j => .int (g i j))) := by
  rintro pins s σ H x y v u Q I rx ry ⟨dx, dy, S, Qd, r1, r2, sr, h, c⟩
  cases dx <;> cases dy <;> first | exact False.elim h | skip
  cases r1; cases r2
  exact o pins s σ H _ _ v u Q I rx ry ⟨_, _, rfl, rfl, c.now (.int _) sr h⟩
theorem od_ib0 {f : Value → Value → Sem Value} {g : Int → Int → Bool} (o : OpR X f (rI0 fun i j => .bl (g i j))) : OpR X f (lift2 X.K C (dII0 fun i j => .bl (g i j))) := by
  rintro pins s σ H x y v u Q I rx ry ⟨dx, dy, S, Qd, r1, r2, sr, h, c⟩
  cases dx <;> cases dy <;> first | exact False.elim h | skip
  cases r1; cases r2
  exact o pins s σ H _ _ v u Q I rx ry ⟨_, _, rfl, rfl, c.now (.bl _) sr h⟩
def dSub : R2D := dII0 fun i j => .int (i - j)
def dFdiv : R2D := dII CDivW fun i j => .int (i / j)
def dMod : R2D := dII (fun _ j => 0 < j) fun i j => .int (i % j)
def dPow : R2D := dII CPow fun i j => .int (i ^ j.toNat)
theorem od_sub : OpR X (binaryOp .Sub) (lift2 X.K C dSub) := od_ii0 op_sub
theorem od_fdiv : OpR X (binaryOp .FloorDiv) (lift2 X.K C dFdiv) := od_ii op_fdivW
theorem od_mod : OpR X (binaryOp .Mod) (lift2 X.K C dMod) := od_ii op_mod
theorem od_pow : OpR X (binaryOp .Pow) (lift2 X.K C dPow) := od_ii op_pow
def dLt : R2D := dII0 fun i j => .bl (decide (i < j))
def dLe : R2D := dII0 fun i j => .bl (decide (i ≤ j))
def dGt : R2D := dII0 fun i j => .bl (decide (j < i))
def dGe : R2D := dII0 fun i j => .bl (decide (j ≤ i))
theorem od_lt : OpR X (compareOp .Lt) (lift2 X.K C dLt) := od_ib0 op_lt
theorem od_le : OpR X (compareOp .LtE) (lift2 X.K C dLe) := od_ib0 op_le
theorem od_gt : OpR X (compareOp .Gt) (lift2 X.K C dGt) := od_ib0 op_gt
theorem od_ge : OpR X (compareOp .GtE) (lift2 X.K C dGe) := od_ib0 op_ge
def dNeg : D → Sto → KD → Prop := fun x S Q => match x with
  | .int i => Q (.int (-i)) S
  | _ => False
theorem ud_neg : UnR X (unaryOp .USub) (lift1 X.K C dNeg) := by
  rintro pins s σ H x v Q I rx ⟨dx, S, Qd, r1, sr, h, c⟩
  cases dx <;> first | exact False.elim h | skip
  cases r1
  exact un_neg pins s σ H _ v Q I rx ⟨_, rfl, c.now (.int _) sr h⟩
end
/-! ### a tuple, a list, times an int -/
theorem tup_mul1 (l : Addr) (items : Array Value) (n : Nat) (dd : Option Addr) (sl : Array (Option Value)) (u : Tok) :
    Meets (Builtin.«tuple.__mul__» ⟨[.ref l, .int 1 u], []⟩) (fun _ R s => s.heap.get? l = some { cls := .type "tuple", dict := dd, data := .seq items n, slots := sl } ∧ R (.ok (.ret (.ref l))) s) := .of_wp fun prog w A R s h => by
    rcases s with ⟨hp, gs, dr, tk, os⟩
    rcases h with ⟨hl, hR⟩
    have f1 := AutoSeq1.idx_int
    wp_walk using wpAny_loadPart' hl
    have c1 : (items.isEmpty || (1 : Int) == 1) = true := by simp
    repeat (first
      | (refine wpAny_ite_true (decide_eq_true c1) ?_; wp_walk using wpAny_loadPart' hl)
      | (refine wpAny_ite_true c1 ?_; wp_walk using wpAny_loadPart' hl))
    exact ⟨_, rfl, hR⟩
theorem rep_arr (its : List Value) (m : Nat) : (List.replicate m its.toArray).foldl (fun x1 x2 => x1 ++ x2) #[] = (List.replicate m its).flatten.toArray := size_rep its m
def rRep1 (K : PySem.W.Frag) : R2 := fun x y H Q => ∃ l xs, x = .ref l ∧ y = .int 1 ∧ SqT K H l xs ∧ Q (.ref l) H
theorem op_rep1 {X : Cx} : OpR X (binaryOp .Mult) (rRep1 X.K) := by
  rintro pins s σ H _ _ v u Q I rx ry ⟨l, xs, rfl, rfl, hT, q⟩
  cases rx
  obtain ⟨t, rfl⟩ := ry
  obtain ⟨its, r, ⟨⟨cls, dd, data, sl⟩, ho, hc, n, hd⟩, hs⟩ := I.tuple hT
  simp only at hc hd
  subst hc hd
  have k1 := tup_mul1 l its.toArray n dd sl t
  have k2 := int_rmul_tuple 1 t l its.toArray n dd sl
  have a1 : wpAny (model X.prog X.w) X.A (call (.builtin "tuple.__mul__") [.ref l, .int 1 t]) (EP X pins σ Q) X.xe s := by
    refine call_meets F.slot_tuple_mul ⟨_, ho, rfl⟩ F.entry_tuple_mul (F.args_tuple_mul_2 _ _) k1 ⟨ho, ?_⟩
    exact ⟨.ref l, H, I, rfl, q⟩
  have a2 : wpAny (model X.prog X.w) X.A (call (.builtin "int.__rmul__") [.int 1 t, .ref l]) (fun v s' => v = .notImplemented ∧ s'.TypeIs (.ref l) "tuple" ∧ wpAny (model X.prog X.w) X.A (call (.builtin "tuple.__mul__") [.ref l, .int 1 t]) (EP X pins σ Q) X.xe s') X.xe s := by
    refine call_meets F.slot_int_rmul (typeIs_int s 1 t) F.entry_int_rmul (F.args_int_rmul_2 _ _) k2 ⟨ho, ?_⟩
    exact ⟨rfl, ⟨_, ho, rfl⟩, a1⟩
  exact wpAny_binaryOp_repeat_ref (T := "tuple") (U := "int") (by decide) ⟨_, ho, rfl⟩ (fun s' => typeIs_int s' 1 t) noFill_tuple_mul F.fills_int_mul F.slot_int_rmul repeat_tuple F.slot_int_index.lookup a2
/-- list * int, of any list -/
def rRepR : R2 := fun x y H Q => ∃ l k xs, x = .ref l ∧ y = .int k ∧ Rd H l (.lst xs) ∧ (-(2 ^ 63) ≤ k ∧ k < 2 ^ 63) ∧ xs.length * k.toNat ≤ sizeLine ∧ ∀ p, H p = none → Q (.ref p) (upd H p (.lst (List.replicate k.toNat xs).flatten))
theorem op_repR {X : Cx} : OpR X (binaryOp .Mult) rRepR := by
  rintro pins s σ H _ _ v u Q I rx ry ⟨l, k, xs, rfl, rfl, hl, ⟨k1, k2⟩, hz, q⟩
  cases rx
  obtain ⟨t, rfl⟩ := ry
  obtain ⟨-, its, n, r, e0, g⟩ := lst_rd I hl
  have m1 : its.toArray.size * k.toNat ≤ sizeLine := by
    rw [List.size_toArray, ← e0]
    exact hz
  have m2 : ¬ its.toArray.size * k.toNat > (2 ^ 63 - 1) / 8 := fun z => absurd (Nat.lt_of_lt_of_le z m1) (by decide)
  have m3 : ¬ (!Builtin.List.listFitsIndex k) = true := by simp [fitsIndex_both k1 k2]
  have m4 : ¬ Builtin.List.listTooLong (its.toArray.size * k.toNat) = true := by
    rw [notLongL m1]
    decide
  have m5 : List.foldl (fun x1 x2 => x1 ++ x2) #[] (List.replicate (if its.toArray.isEmpty = true then 0 else k.toNat) its.toArray) = (List.replicate k.toNat its).flatten.toArray := by
    by_cases hn : its = []
    · subst hn
      simp
    · have : its.toArray.isEmpty = false := by cases its with | nil => exact absurd rfl hn | cons _ _ => rfl
      rw [this]
      exact rep_arr its k.toNat
  have d1 := AutoListH.list___mul___list_int_3 l its.toArray n k t m3 m2 m4
  have d2 := int___rmul___int_list k t l its.toArray n
  have a1 : wpAny (model X.prog X.w) X.A (call (.builtin "list.__mul__") [.ref l, .int k t]) (EP X pins σ Q) X.xe s := by
    refine call_meets F.slot_list_mul ⟨_, g, rfl⟩ F.entry_list_mul (F.args_list_mul_2 _ _) d1 ⟨g, ?_⟩
    rw [m5]
    refine ⟨.ref _, _, Inv.lnew (t' := s.toks) I (r.rep k.toNat) ?_, rfl, q _ I.fresh⟩
    rw [PyProof.Rows.lm_len_rep_flat, Nat.mul_comm]
    exact hz
  have a2 : wpAny (model X.prog X.w) X.A (call (.builtin "int.__rmul__") [.int k t, .ref l]) (fun v s' => v = .notImplemented ∧ s'.TypeIs (.ref l) "list" ∧ wpAny (model X.prog X.w) X.A (call (.builtin "list.__mul__") [.ref l, .int k t]) (EP X pins σ Q) X.xe s') X.xe s := by
    refine call_meets F.slot_int_rmul (typeIs_int s k t) F.entry_int_rmul (F.args_int_rmul_2 _ _) d2 ⟨g, ?_⟩
    exact ⟨rfl, ⟨_, g, rfl⟩, a1⟩
  exact wpAny_binaryOp_repeat_ref (T := "list") (U := "int") (by decide) ⟨_, g, rfl⟩ (fun s' => typeIs_int s' k t) noFill_list_mul F.fills_int_mul F.slot_int_rmul repeat_list F.slot_int_index.lookup a2
def dMul : R2D := fun x y S Q => match x, y with
  | .int i, .int j => CMulW i j ∧ Q (.int (i * j)) S
  | .tup xs, .int k => (1 ≤ k ∧ k ≤ 1000 ∧ xs.length ≤ 1000 ∧ xs ≠ []) ∧ Q (.tup (List.replicate k.toNat xs).flatten) S
  | .lst xs, .int k => (-(2 ^ 63) ≤ k ∧ k < 2 ^ 63 ∧ xs.length * k.toNat ≤ sizeLine) ∧ Q (.lst (List.replicate k.toNat xs).flatten) S
  | _, _ => False
theorem od_mul {C : Cf} {X : Cx} : OpR X (binaryOp .Mult) (lift2 X.K C dMul) := by
  rintro pins s σ H x y v u Q I rx ry ⟨dx, dy, S, Qd, r1, r2, sr, h, c⟩
  cases dx <;> cases dy <;> first | exact False.elim h | skip
  · cases r1; cases r2
    exact op_mulW pins s σ H _ _ v u Q I rx ry ⟨_, _, rfl, rfl, h.1, c.now (.int _) sr h.2⟩
  · cases r1 with
    | tup a1 b1 z1 =>
      rename_i xs k a vs
      cases r2
      obtain ⟨⟨k1, k2, k3, k4⟩, h⟩ := h
      by_cases e : k = 1
      · subst e
        refine op_rep1 pins s σ H _ _ v u Q I rx ry ⟨_, _, rfl, rfl, a1, c.now (.tup a1 ?_ z1) sr h⟩
        show DRs X.K C H (List.replicate 1 xs).flatten vs
        simpa using b1
      · refine op_repT pins s σ H _ _ v u Q I rx ry ⟨_, _, vs, rfl, rfl, a1, fun z => ?_, by omega, k2, by rw [← b1.length]; exact k3, fun p hp => c.tup hp (b1.rep _) ?_ sr h⟩
        · subst z
          cases b1
          exact k4 rfl
        · rw [PyProof.Rows.lm_len_rep_flat, ← b1.length, sizeLine_eq]
          have a1 : k.toNat * xs.length ≤ 1000 * 1000 := Nat.mul_le_mul (by omega) k3
          omega
  · cases r1 with
    | lst a1 b1 z1 =>
      cases r2
      exact OpRfz op_repR pins s σ H _ _ v u Q I rx ry ⟨_, _, _, rfl, rfl, .inr ⟨_, a1⟩, ⟨h.1.1, h.1.2.1⟩, by rw [← b1.length]; exact h.1.2.2, fun p hp => c.newZ hp (b1.rep _) (by rw [PyProof.Rows.lm_len_rep_flat, Nat.mul_comm, ← b1.length]; exact h.1.2.2) sr h.2⟩
/-! ### == and != of contents -/
mutual
def toPy : D → PyData
  | .bl b => .bool b
  | .int i => .int i
  | .str x => .str x
  | .tup ds => .tuple (toPys ds)
  | .lst ds => .list (toPys ds)
  | _ => .none
def toPys : List D → List PyData
  | [] => []
  | d :: ds => toPy d :: toPys ds
end
mutual
/-- nothing but data: None, bools, ints, texts, tuples and lists of such -/
def pur : D → Bool
  | .non => true
  | .bl _ => true
  | .int _ => true
  | .str _ => true
  | .tup ds => purs ds
  | .lst ds => purs ds
  | _ => false
def purs : List D → Bool
  | [] => true
  | d :: ds => pur d && purs ds
end
section
variable {K : PySem.W.Frag} {C : Cf} {H : Hp}
mutual
theorem DR.dp : ∀ {d : D} {v : V}, pur d = true → DR K C H d v → Dp K H v (toPy d)
  | .non, _, _, r => by cases r; exact .non
  | .bl _, _, _, r => by cases r; exact .bl _
  | .int _, _, _, r => by cases r; exact .int _
  | .str _, _, _, r => by cases r; exact .str _
  | .tup ds, _, p, r => by
    cases r with
    | tup a b _ => exact .tup a (DRs.dp (by simpa [pur] using p) b)
  | .lst ds, _, p, r => by
    cases r with
    | lst a b _ => exact .lst (.inl (.inr ⟨_, a⟩)) (DRs.dp (by simpa [pur] using p) b)
  | .ty _, _, p, _ => by simp [pur] at p
  | .ref _, _, p, _ => by simp [pur] at p
  | .clk _ _, _, p, _ => by simp [pur] at p
  | .scr _, _, p, _ => by simp [pur] at p
  | .fn _ _ _ _, _, p, _ => by simp [pur] at p
  | .dct _ _, _, p, _ => by simp [pur] at p
theorem DRs.dp : ∀ {ds : List D} {vs : List V}, purs ds = true → DRs K C H ds vs → DpAll K H vs (toPys ds)
  | [], _, _, r => by cases r; exact .nil
  | d :: ds, _, p, r => by
    cases r with
    | cons a b =>
      rw [purs, Bool.and_eq_true] at p
      exact .cons (DR.dp p.1 a) (DRs.dp p.2 b)
end
end
/-- a live list by its content -/
def see (S : Sto) : D → D
  | .ref p => match lsOf (S p) with
    | some ds => .lst ds
    | none => .ref p
  | d => d
def okEq (d : D) : Bool := pur d && SeqAt.shaped (toPy d)
def eqD (x y : D) : Bool := PyData.eqv (toPy x) (toPy y)
def dEq : R2D := fun x y S Q => (okEq (see S x) = true ∧ okEq (see S y) = true) ∧ Q (.bl (eqD (see S x) (see S y))) S
def dNe : R2D := fun x y S Q => (okEq (see S x) = true ∧ okEq (see S y) = true) ∧ Q (.bl (!eqD (see S x) (see S y))) S
theorem see_dp {K : PySem.W.Frag} {C : Cf} {S : Sto} {H : Hp} {d : D} {v : V} (sr : SR K C S H) (r : DR K C H d v) (h : okEq (see S d) = true) : Dp K H v (toPy (see S d)) ∧ SeqAt.shaped (toPy (see S d)) = true := by
  have h2 : pur (see S d) = true ∧ SeqAt.shaped (toPy (see S d)) = true := by simpa [okEq] using h
  refine ⟨?_, h2.2⟩
  cases d with
  | ref p =>
    cases r
    cases e : S p with
    | none =>
      have : see S (.ref p) = .ref p := by simp [see, e, lsOf]
      rw [this] at h2
      simp [pur] at h2
    | some o =>
      cases o with
      | lst ds =>
        have z : see S (.ref p) = .lst ds := by simp [see, e, lsOf]
        rw [z] at h2 ⊢
        obtain ⟨xs, q1, q2, _⟩ := sr.ob p ds e
        exact .lst (.inl (.inl q1)) (q2.dp (by simpa [pur] using h2.1))
      | ins fs =>
        have z : see S (.ref p) = .ref p := by simp [see, e, lsOf]
        rw [z] at h2
        simp [pur] at h2
      | clk h1 h3 =>
        have z : see S (.ref p) = .ref p := by simp [see, e, lsOf]
        rw [z] at h2
        simp [pur] at h2
      | dic kvs =>
        have z : see S (.ref p) = .ref p := by simp [see, e, lsOf]
        rw [z] at h2
        simp [pur] at h2
      | nd kvs =>
        have z : see S (.ref p) = .ref p := by simp [see, e, lsOf]
        rw [z] at h2
        simp [pur] at h2
      | lev h1 h3 n =>
        have z : see S (.ref p) = .ref p := by simp [see, e, lsOf]
        rw [z] at h2
        simp [pur] at h2
  | _ => exact r.dp h2.1
section
variable {C : Cf} {X : Cx}
theorem od_eq (hu : X.A.units + 64 < cLine) : OpR X (compareOp .Eq) (lift2 X.K C dEq) := by
  rintro pins s σ H x y v u Q I rx ry ⟨dx, dy, S, Qd, r1, r2, sr, ⟨⟨o1, o2⟩, h⟩, c⟩
  obtain ⟨p1, q1⟩ := see_dp sr r1 o1
  obtain ⟨p2, q2⟩ := see_dp sr r2 o2
  exact op_eqD hu pins s σ H x y v u Q I rx ry ⟨_, _, p1, p2, q1, q2, c.now (.bl _) sr h⟩
theorem od_ne (hu : X.A.units + 64 < cLine) : OpR X (compareOp .NotEq) (lift2 X.K C dNe) := by
  rintro pins s σ H x y v u Q I rx ry ⟨dx, dy, S, Qd, r1, r2, sr, ⟨⟨o1, o2⟩, h⟩, c⟩
  obtain ⟨p1, q1⟩ := see_dp sr r1 o1
  obtain ⟨p2, q2⟩ := see_dp sr r2 o2
  exact op_neD hu pins s σ H x y v u Q I rx ry ⟨_, _, p1, p2, q1, q2, c.now (.bl _) sr h⟩
def isNon : D → Bool
  | .non => true
  | _ => false
theorem isNon_of {K : PySem.W.Frag} {H : Hp} {d : D} {v : V} (r : DR K C H d v) : decide (v = .non) = isNon d := by cases r <;> rfl
def dIs : R2D := fun x y S Q => match y with
  | .non => Q (.bl (isNon x)) S
  | _ => False
def dIsNot : R2D := fun x y S Q => match y with
  | .non => Q (.bl (!isNon x)) S
  | _ => False
theorem od_is : OpR X (compareOp .Is) (lift2 X.K C dIs) := by
  rintro pins s σ H x y v u Q I rx ry ⟨dx, dy, S, Qd, r1, r2, sr, h, c⟩
  cases dy <;> first | exact False.elim h | skip
  cases r2
  exact op_isN pins s σ H _ _ v u Q I rx ry ⟨rfl, by rw [isNon_of r1]; exact c.now (.bl _) sr h⟩
end
end RL
namespace RL
open PySem PySem.Spec PyProof.Rows L2
/-! ### statements by content -/
structure WEnds where
  nx : EV → Sto → Prop
  rt : KD
  bk : EV → Sto → Prop := fun _ _ => False
  ct : EV → Sto → Prop := fun _ _ => False
abbrev WS := WEnds → EV → Sto → Prop
abbrev WG := D → EV → Sto → (EV → Sto → Prop) → Prop
abbrev WI := EV → Sto → (List D → Option Addr → Sto → Prop) → Prop
/-- a wish behind a statement that starts at H -/
def ClS (K : PySem.W.Frag) (C : Cf) (H0 H : Hp) (Qd : EV → Sto → Prop) (Q : L2.St → Hp → Prop) : Prop := ∀ E S σ H', Ext C H H' → Stt K C H0 E S σ H' → Qd E S → Q σ H'
structure ClD (K : PySem.W.Frag) (C : Cf) (H0 H : Hp) (Dd : WEnds) (D : Ends) : Prop where
  nx : ClS K C H0 H Dd.nx D.nx
  rt : Cl K C H Dd.rt D.rt
  bk : ClS K C H0 H Dd.bk D.bk
  ct : ClS K C H0 H Dd.ct D.ct
theorem ClS.mono {K : PySem.W.Frag} {C : Cf} {H0 H H1 : Hp} {Qd : EV → Sto → Prop} {Q : L2.St → Hp → Prop} (c : ClS K C H0 H Qd Q) (e : Ext C H H1) : ClS K C H0 H1 Qd Q := fun E S σ H' e' st q => c E S σ H' (e.trans e') st q
theorem ClD.mono {K : PySem.W.Frag} {C : Cf} {H0 H H1 : Hp} {Dd : WEnds} {D : Ends} (c : ClD K C H0 H Dd D) (e : Ext C H H1) : ClD K C H0 H1 Dd D := ⟨c.nx.mono e, c.rt.mono e, c.bk.mono e, c.ct.mono e⟩
def liftS (K : PySem.W.Frag) (C : Cf) (H0 : Hp) (w : WS) : TS := fun D σ H => ∃ E S Dd, Stt K C H0 E S σ H ∧ w Dd E S ∧ ClD K C H0 H Dd D
structure DS (C : Cf) (B : Hp) (X : Cx) (st : Stmt) (w : WS) : Prop where
  ps : PS X st (liftS X.K C B w)
structure DSs (C : Cf) (B : Hp) (X : Cx) (sts : List Stmt) (w : WS) : Prop where
  pss : PSs X sts (liftS X.K C B w)
theorem PSimp {X : Cx} {st : Stmt} {t t' : TS} (p : PS X st t) (h : ∀ D σ H, t' D σ H → t D σ H) : PS X st t' := ⟨fun pins s σ H D I q => p.run pins s σ H D I (h D σ H q)⟩
theorem PSsimp {X : Cx} {st : List Stmt} {t t' : TS} (p : PSs X st t) (h : ∀ D σ H, t' D σ H → t D σ H) : PSs X st t' := ⟨fun pins s σ H D I q => p.run pins s σ H D I (h D σ H q)⟩
/-- a target; is: the slots that it may store to -/
def liftG (K : PySem.W.Frag) (C : Cf) (H0 : Hp) (is : List Nat) (w : WG) : TG := fun v σ H Q => ∃ d E S Qd, Stt K C H0 E S σ H ∧ DR K C H d v ∧ w d E S Qd ∧
  ∀ E' S' σ' H', Ext C H H' → Stt K C H0 E' S' σ' H' → (∀ vs : List Nat, (∀ i ∈ is, i ∈ vs) → wipe σ' vs = wipe σ vs) → Qd E' S' → Q σ' H'
structure DG (C : Cf) (B : Hp) (X : Cx) (tg : Expr) (is : List Nat) (w : WG) : Prop where
  pg : PG X tg (liftG X.K C B is w)
theorem PGimp {X : Cx} {e : Expr} {t t' : TG} (p : PG X e t) (h : ∀ v σ H Q, t' v σ H Q → t v σ H Q) : PG X e t' := ⟨fun pins s σ H v u Q I r q => p.run pins s σ H v u Q I r (h v σ H Q q)⟩
section
variable {C : Cf} {B : Hp} {X : Cx} {pos : Pos} {st : Stmt} {rest : List Stmt} {w u : WS} {e : Expr} {we : WE}
def wNext : WS := fun D E S => D.nx E S
def wSeq (t u : WS) : WS := fun D E S => t { D with nx := u D } E S
theorem dss_nil : DSs C B X [] wNext := ⟨PSsimp pss_nil fun D σ H ⟨E, S, Dd, st, h, c⟩ => c.nx _ _ _ _ (Ext.refl C H) st h⟩
theorem dss_cons (h1 : DS C B X st w) (h2 : DSs C B X rest u) : DSs C B X (st :: rest) (wSeq w u) :=
  ⟨PSsimp (pss_cons h1.ps h2.pss) fun D σ H ⟨E, S, Dd, st, h, c⟩ => ⟨E, S, _, st, h, ⟨fun E' S' σ' H' e' st' q => ⟨E', S', Dd, st', q, c.mono e'⟩, c.rt, c.bk, c.ct⟩⟩⟩
theorem dss_one (h1 : DS C B X st w) : DSs C B X [st] w := ⟨pss_one h1.ps⟩
def wDrop (w : WE) : WS := fun D E S => w E S fun _ S1 => D.nx E S1
theorem ds_expr (he : DE C B X e we) (hs : swapsWith e none pos.line X.env = pure false := by rfl) : DS C B X (.Expr e pos) (wDrop we) :=
  ⟨PSimp (ps_expr he.pe hs) fun D σ H ⟨E, S, Dd, st, h, c⟩ => ⟨E, S, _, st, h, fun d S1 v H1 e1 r1 s1 h1 => c.nx _ _ _ _ e1 (st.ext e1 s1) h1⟩⟩
def wRet (w : WE) : WS := fun D E S => w E S D.rt
theorem ds_ret (he : DE C B X e we) : DS C B X (.Return (some e) pos) (wRet we) :=
  ⟨PSimp (ps_ret he.pe) fun D σ H ⟨E, S, Dd, st, h, c⟩ => ⟨E, S, _, st, h, fun d S1 v H1 e1 r1 s1 h1 => c.rt _ _ _ _ e1 r1 s1 h1⟩⟩
def wRetN : WS := fun D _ S => D.rt .non S
def wIfS (t : WT) (a b : WS) : WS := fun D E S => t E S fun k S1 => if k = true then a D E S1 else b D E S1
theorem ds_if {c : Expr} {a b : List Stmt} {wc : WT} {wa wb : WS} (hc : DT C B X c wc) (ha : DSs C B X a wa) (hb : DSs C B X b wb) : DS C B X (.If c a b pos) (wIfS wc wa wb) :=
  ⟨PSimp (ps_if hc.pt ha.pss hb.pss) fun D σ H ⟨E, S, Dd, st, h, cl⟩ => ⟨E, S, _, st, h, fun k S1 H1 e1 s1 h1 => by
    cases k with
    | true =>
      have h1 : wa Dd E S1 := h1
      exact ⟨E, S1, Dd, st.ext e1 s1, h1, cl.mono e1⟩
    | false =>
      have h1 : wb Dd E S1 := h1
      exact ⟨E, S1, Dd, st.ext e1 s1, h1, cl.mono e1⟩⟩⟩
/-! targets -/
def gSet (i : Nat) : WG := fun d E S Q => Q (E.set i (some d)) S
theorem wipe_set {σ : L2.St} {i : Nat} {x : Option V} : ∀ {vs : List Nat}, i ∈ vs → wipe (σ.set i x) vs = wipe σ vs
  | [], h => by cases h
  | v :: vs, h => by
    by_cases hv : i ∈ vs
    · show (wipe (σ.set i x) vs).set v none = (wipe σ vs).set v none
      rw [wipe_set hv]
    · have e : i = v := by
        rcases List.mem_cons.mp h with e | h
        · exact e
        · exact absurd h hv
      subst e
      show (wipe (σ.set i x) vs).set i none = (wipe σ vs).set i none
      have out : ∀ {us : List Nat}, i ∉ us → wipe (σ.set i x) us = (wipe σ us).set i x := fun {us} => by
        induction us with
        | nil => intro _; rfl
        | cons u us ih =>
          intro hu
          have h1 : u ≠ i := fun z => hu (by rw [z]; exact List.mem_cons_self)
          show (wipe (σ.set i x) us).set u none = ((wipe σ us).set u none).set i x
          rw [ih fun z => hu (List.mem_cons_of_mem _ z), List.set_comm _ _ h1.symm]
      rw [out hv, List.set_set]
theorem dg_name (i : Nat) {x : Str} (hN : X.N.Nodup) (hi : X.N[i]? = some x := by rfl) (hx : Loc X.env.scope x := by first | exact Or.inl rfl | exact Or.inr rfl) (hf : X.fn x = true ∨ X.env.scope.names.lookup x = some .local := by first | exact .inl rfl | exact .inr rfl | assumption) : DG C B X (.Name x pos) [i] (gSet i) :=
  ⟨PGimp (pg_name hN hi hx hf) fun v σ H Q ⟨d, E, S, Qd, st, r, h, c⟩ => c _ _ _ _ (Ext.refl C H) (st.set r i) (fun vs hv => wipe_set (hv i List.mem_cons_self)) h⟩
abbrev WGs := List D → EV → Sto → (EV → Sto → Prop) → Prop
def gsNil : WGs := fun ds E S Q => match ds with
  | [] => Q E S
  | _ => False
def gsCons (t : WG) (u : WGs) : WGs := fun ds E S Q => match ds with
  | d :: ds => t d E S fun E1 S1 => u ds E1 S1 Q
  | [] => False
def liftGs (K : PySem.W.Frag) (C : Cf) (H0 : Hp) (is : List Nat) (w : WGs) : TGs := fun vs σ H Q => ∃ ds E S Qd, Stt K C H0 E S σ H ∧ DRs K C H ds vs ∧ w ds E S Qd ∧
  ∀ E' S' σ' H', Stt K C H0 E' S' σ' H' → Ext C H H' → (∀ vs : List Nat, (∀ i ∈ is, i ∈ vs) → wipe σ' vs = wipe σ vs) → Qd E' S' → Q σ' H'
structure DGs (C : Cf) (B : Hp) (X : Cx) (ts : List Expr) (is : List Nat) (w : WGs) : Prop where
  pgs : PGs X ts (liftGs X.K C B is w)
/-- a target that leaves the heap as it is: a name -/
structure DGn (C : Cf) (X : Cx) (tg : Expr) (i : Nat) : Prop where
  pg : PG X tg (gName i)
theorem dgn (i : Nat) {x : Str} (hN : X.N.Nodup) (hi : X.N[i]? = some x := by rfl) (hx : Loc X.env.scope x := by first | exact Or.inl rfl | exact Or.inr rfl) (hf : X.fn x = true ∨ X.env.scope.names.lookup x = some .local := by first | exact .inl rfl | exact .inr rfl | assumption) : DGn C X (.Name x pos) i :=
  ⟨pg_name hN hi hx hf⟩
theorem dgs_nil : DGs C B X [] [] gsNil := ⟨⟨fun pins s σ H vs us Q I r ⟨ds, E, S, Qd, st, rs, h, c⟩ => by
  cases ds with
  | cons => exact False.elim h
  | nil =>
    cases rs
    exact pgs_nil.run pins s σ H [] us Q I r ⟨rfl, c _ _ _ _ st (Ext.refl C H) (fun _ _ => rfl) h⟩⟩⟩
theorem dgs_cons {tg : Expr} {es : List Expr} {i : Nat} {is : List Nat} {wu : WGs} (h1 : DGn C X tg i) (h2 : DGs C B X es is wu)
    (hs : (assignEach (tg :: es) X.env).map (·.2) = assign tg X.env :: (assignEach es X.env).map (·.2) := by rfl) : DGs C B X (tg :: es) (i :: is) (gsCons (gSet i) wu) :=
  ⟨⟨fun pins s σ H vs us Q I r ⟨ds, E, S, Qd, st, rs, h, c⟩ => by
    cases ds with
    | nil => exact False.elim h
    | cons d ds =>
      cases rs with
      | cons r1 r2 =>
        refine (pgs_cons h1.pg h2.pgs hs).run pins s σ H _ us Q I r ⟨_, _, rfl, ds, E.set i (some d), S, Qd, st.set r1 i, r2, h, fun E' S' σ' H' st' e' hw q => c _ _ _ _ st' e' (fun vs hv => ?_) q⟩
        rw [hw vs fun j hj => hv j (List.mem_cons_of_mem _ hj), wipe_set (hv i List.mem_cons_self)]⟩⟩
def gTupD (t : WGs) : WG := fun d E S Q => match d with
  | .tup ds => t ds E S Q
  | _ => False
def lenIs (n : Nat) (t : WGs) : WGs := fun ds E S Q => ds.length = n ∧ t ds E S Q
theorem dg_tup {es : List Expr} {k n : Nat} {is : List Nat} {t : WGs} (hc : X.calm = true) (h : DGs C B X es is t)
    (hn : (assignEach es X.env).length = n := by rfl) (hst : (assignEach es X.env).findIdx? (·.1) = none := by rfl) : DG C B X (.Tuple es k pos) is (gTupD (lenIs n t)) :=
  ⟨PGimp (pg_tup hc h.pgs hn hst) fun v σ H Q ⟨d, E, S, Qd, st, r, h, c⟩ => by
    cases d <;> first | exact False.elim h | skip
    cases r with
    | tup a b _ => exact ⟨_, _, rfl, a, by rw [← b.length]; exact h.1, _, E, S, Qd, st, b, h.2, fun E' S' σ' H' st' e' hw q => c _ _ _ _ e' st' hw q⟩⟩
/-- xs[i] = .., xs a list that may change -/
def gSubD (wo wi : WE) : WG := fun d E S Q => wo E S fun o S1 => wi E S1 fun ix S2 => match o, ix with
  | .ref p, .int k => ∃ ds j, S2 p = some (.lst ds) ∧ ixN ds.length k = some j ∧ Q E (S2.put p (.lst (ds.set j d)))
  | _, _ => False
theorem dg_sub {o i : Expr} {wo wi : WE} (ho : DE C B X o wo) (hi : DE C B X i wi)
    (ha : ∀ v, assign (.Subscript o i pos) X.env v = (do
      let ov ← holding [v] (eval o X.env)
      let iv ← holding [v, ov] (eval i X.env)
      standAt pos
      holding [v, ov, iv] (setItem ov iv v)
      release [v, ov, iv] []) := by intro _; rfl) : DG C B X (.Subscript o i pos) [] (gSubD wo wi) :=
  ⟨PGimp (pg_sub ho.pe hi.pe set_list ha) fun v σ H Q ⟨d, E, S, Qd, st, r, h, c⟩ => ⟨E, S, _, st, h, fun o1 S1 v1 H1 e1 r1 s1 h1 => ⟨E, S1, _, st.ext e1 s1, h1, fun i1 S2 v2 H2 e2 r2 s2 h2 => by
    cases o1 <;> first | exact False.elim h2 | skip
    cases i1 <;> first | exact False.elim h2 | skip
    obtain ⟨ds, j, q1, q2, q3⟩ := h2
    cases r1
    cases r2
    obtain ⟨xs, p1, p2, p3⟩ := s2.ob _ _ q1
    have rr := (r.ext e1).ext e2
    have ex : Ext C H2 (upd H2 _ (.lst (xs.set j v))) := Ext.wr p1
    refine ⟨_, xs, _, j, rfl, rfl, p1, by rw [← p2.length]; exact q2, ?_⟩
    exact c _ _ _ _ ((e1.trans e2).trans ex) ((st.ext (e1.trans e2) s2).ext ex (s2.wr q1 (p2.set rr j) (by rw [List.length_set]; exact p3))) (fun _ _ => rfl) q3⟩⟩⟩
def wAsg (we : WE) (g : WG) : WS := fun D E S => we E S fun d S1 => g d E S1 D.nx
theorem lift_asg {is : List Nat} {g : WG} {D : Ends} {σ : L2.St} {H : Hp} (h : liftS X.K C B (wAsg we g) D σ H) : tAsg (liftE X.K C B we) (liftG X.K C B is g) D σ H := by
  obtain ⟨E, S, Dd, st, h, c⟩ := h
  exact ⟨E, S, _, st, h, fun d S1 v H1 e1 r1 s1 h1 => ⟨d, E, S1, _, st.ext e1 s1, r1, h1, fun E' S' σ' H' e' st' _ q => c.nx _ _ _ _ (e1.trans e') st' q⟩⟩
theorem ds_asg {tg : Expr} {is : List Nat} {g : WG} (he : DE C B X e we) (hg : DG C B X tg is g) (hs : swapsWithSole [tg] e pos.line X.env = pure false := by rfl) (hw : swappedStores [tg] e X.env = pure none := by rfl)
    (h1 : (assignEach [tg] X.env).map (·.2) = [assign tg X.env] := by rfl) : DS C B X (.Assign [tg] e pos) (wAsg we g) :=
  ⟨PSimp (ps_asg he.pe hg.pg hs hw h1) fun _ _ _ h => lift_asg h⟩
theorem ds_set (i : Nat) {x : Str} {pos' : Pos} (hN : X.N.Nodup) (he : DE C B X e we) (hi : X.N[i]? = some x := by rfl) (hx : Loc X.env.scope x := by first | exact Or.inl rfl | exact Or.inr rfl) (hs : swapsWith e (some (.Name x pos')) pos.line X.env = pure false := by rfl)
    (hf : X.fn x = true ∨ X.env.scope.names.lookup x = some .local := by first | exact .inl rfl | exact .inr rfl | assumption) : DS C B X (.Assign [.Name x pos'] e pos) (wAsg we (gSet i)) :=
  ⟨PSimp (ps_set hN hi hx he.pe hs hf) fun D σ H h => by
    obtain ⟨E, S, Dd, st, h, c⟩ := h
    exact ⟨E, S, _, st, h, fun d S1 v H1 e1 r1 s1 h1 => c.nx _ _ _ _ e1 ((st.ext e1 s1).set r1 i) h1⟩⟩
/-- a, b = x, y -/
def wPar (i j : Nat) (w : WA) : WS := fun D E S => w E S fun ds S1 => match ds with
  | [a, b] => D.nx ((E.set i (some a)).set j (some b)) S1
  | _ => False
theorem ds_par (i j : Nat) {x y : Str} {a b : Expr} {wa : WA} {px py pt : Pos} {kt k2 : Nat} {pt2 : Pos} (hc : X.calm = true) (hN : X.N.Nodup) (ha : DA C B X [a, b] wa) (hi : X.N[i]? = some x := by rfl) (hj : X.N[j]? = some y := by rfl) (hij : i ≠ j := by decide)
    (hx : X.env.scope.names.lookup x = some .local := by rfl) (hy : X.env.scope.names.lookup y = some .local := by rfl)
    (hw : swappedStores [.Tuple [.Name x px, .Name y py] kt pt] (.Tuple [a, b] k2 pt2) X.env = pure (some [x, y]) := by rfl)
    (hs : swapsWithSole [.Tuple [.Name x px, .Name y py] kt pt] (.Tuple [a, b] k2 pt2) pos.line X.env = pure false := by rfl) :
    DS C B X (.Assign [.Tuple [.Name x px, .Name y py] kt pt] (.Tuple [a, b] k2 pt2) pos) (wPar i j wa) :=
  ⟨PSimp (ps_par hc hN hi hj hij hx hy ha.pa hw hs) fun D σ H ⟨E, S, Dd, st, h, c⟩ => ⟨E, S, _, st, h, fun ds S1 vs H1 e1 r1 s1 h1 => by
    match ds, r1, h1 with
    | [a, b], .cons ra (.cons rb .nil), h1 => exact ⟨_, _, rfl, c.nx _ _ _ _ e1 (((st.ext e1 s1).set ra i).set rb j) h1⟩⟩⟩
/-- x op= e -/
def wAug (i : Nat) (r : R2D) (we : WE) : WS := fun D E S => match E[i]? with
  | some (some x) => we E S fun y S1 => r x y S1 fun z S2 => D.nx (E.set i (some z)) S2
  | _ => False
/-- ahead of a statement: the list in slot i is locked from here on -/
def wLock (i : Nat) (w : WS) : WS := fun D E S => match E[i]? with
  | some (some (.ref p)) => ∃ ds, S p = some (.lst ds) ∧ w D (E.set i (some (.lst ds))) (S.del p)
  | _ => False
theorem dss_lock (i : Nat) {sts : List Stmt} (h : DSs C B X sts w) : DSs C B X sts (wLock i w) := by
  refine ⟨⟨fun pins s σ H D I ⟨E, S, Dd, st, q, c⟩ => ?_⟩⟩
  unfold wLock at q
  split at q
  · rename_i p e
    obtain ⟨ds, q1, q2⟩ := q
    obtain ⟨xs, p1, p2, p3⟩ := st.sr.ob p ds q1
    obtain ⟨v, v1, v2⟩ := st.env i _ e
    cases v2
    obtain ⟨ob, I'⟩ := inv_fz I p1
    have ex : Ext C H (upd H p (.frz ob (.lst xs))) := Ext.fz p1
    have st' := (st.ext ex (st.sr.fzS (ob := ob) q1 p1)).set (d := .lst ds) (v := .ref p) (.lst upd_same (p2.ext ex) p3) i
    have e2 : σ.set i (some (V.ref p)) = σ := by
      obtain ⟨hl, hv⟩ := List.getElem?_eq_some_iff.mp v1
      rw [← hv]
      exact List.set_getElem_self hl
    rw [e2] at st'
    exact h.pss.run pins s σ _ D I' ⟨_, _, Dd, st', q2, c.mono ex⟩
  · exact q.elim
/-! while -/
def wWhile (t : WT) (tb : WS) : WS := fun D E S => ∃ W : Nat → EV → Sto → Prop, (∃ m, W m E S) ∧ ∀ m E S, W m E S →
  t E S fun b S1 => if b = true then tb { D with nx := fun E' S' => ∃ m', m' < m ∧ W m' E' S', ct := fun E' S' => ∃ m', m' < m ∧ W m' E' S', bk := D.nx } E S1 else D.nx E S1
theorem ds_while {c : Expr} {body : List Stmt} {wc : WT} {wb : WS} (hp : PassesOwn (model X.prog X.w) X.A X.env X.xe) (hc : DT C B X c wc) (hb : DSs C B X body wb) : DS C B X (.While c body [] pos) (wWhile wc wb) :=
  ⟨PSimp (ps_while hp hc.pt hb.pss) fun D σ H ⟨E, S, Dd, st, ⟨W, ⟨m, hm⟩, hW⟩, cl⟩ => by
    refine ⟨fun m σ H' => ∃ E S, Ext C H H' ∧ Stt X.K C B E S σ H' ∧ W m E S, ⟨m, E, S, Ext.refl C H, st, hm⟩, fun m σ H2 ⟨E, S, ex, st, hm⟩ => ⟨E, S, _, st, hW m E S hm, fun b S1 H1 e1 s1 h1 => ?_⟩⟩
    cases b with
    | false => exact cl.nx _ _ _ _ (ex.trans e1) (st.ext e1 s1) h1
    | true =>
      have h1 : wb { Dd with nx := fun E' S' => ∃ m', m' < m ∧ W m' E' S', ct := fun E' S' => ∃ m', m' < m ∧ W m' E' S', bk := Dd.nx } E S1 := h1
      have cm := cl.mono (ex.trans e1)
      refine ⟨fun σ' H' => ∃ E' S', Ext C H H' ∧ Stt X.K C B E' S' σ' H' ∧ ∃ m', m' < m ∧ W m' E' S', fun σ' H' ⟨E', S', ex', st', m', lm, q⟩ => ⟨m', lm, E', S', ex', st', q⟩, E, S1, _, st.ext e1 s1, h1, ⟨fun E' S' σ' H' e' st' q => ⟨E', S', (ex.trans e1).trans e', st', q⟩, cm.rt, cm.nx, fun E' S' σ' H' e' st' q => ⟨E', S', (ex.trans e1).trans e', st', q⟩⟩⟩⟩
end
/-! ### what a loop walks -/
/-- the iterator J gives the items ds, as long as the list at src (if it is one that may change) is as it was -/
def Feeds (K : PySem.W.Frag) (C : Cf) (J : It) (ds : List D) (src : Option Addr) (H0 : Hp) : Prop := ∀ S H, Ext C H0 H → SR K C S H → (∀ p, src = some p → S p = some (.lst ds)) →
  J.stop ds.length H ∧ ∀ (i : Nat) (d : D), ds[i]? = some d → J.go i H ∧ ∀ x H', J.yld i H x H' → Ext C H H' ∧ DR K C H' d x ∧ SR K C S H'
def liftI (K : PySem.W.Frag) (C : Cf) (H0 : Hp) (w : WI) : TI := fun σ H R => ∃ E S Rd, Stt K C H0 E S σ H ∧ w E S Rd ∧ ∀ ds src S' J H', Ext C H H' → SR K C S' H' → Feeds K C J ds src H' → Rd ds src S' → R J H'
structure DI (C : Cf) (B : Hp) (X : Cx) (tg iter : Expr) (w : WI) : Prop where
  pi : PI X tg iter (liftI X.K C B w)
def srcOk (src : Option Addr) (ds : List D) (S : Sto) : Prop := match src with
  | some p => S p = some (.lst ds)
  | none => True
theorem srcOk_iff {src : Option Addr} {ds : List D} {S : Sto} (h : srcOk src ds S) : ∀ p, src = some p → S p = some (.lst ds) := fun p e => by subst e; exact h
/-- the loop over the rest of all -/
def wForL (g : WG) (tb : WS) (src : Option Addr) (all : List D) (Z : WEnds) : List D → EV → Sto → Prop
  | [] => fun E S => srcOk src all S ∧ Z.nx E S
  | d :: ds => fun E S => srcOk src all S ∧ g d E S fun E1 S1 => tb { Z with nx := wForL g tb src all Z ds, ct := wForL g tb src all Z ds, bk := Z.nx } E1 S1
def wFor (wi : WI) (g : WG) (tb : WS) : WS := fun D E S => wi E S fun ds src S1 => wForL g tb src ds D ds E S1
section
variable {C : Cf} {B : Hp} {X : Cx} {pos : Pos}
theorem ds_for {tg iter : Expr} {body : List Stmt} {wi : WI} {is : List Nat} {g : WG} {wb : WS} (hp : PassesOwn (model X.prog X.w) X.A X.env X.xe) (hc : X.calm = true) (hi : DI C B X tg iter wi) (hg : DG C B X tg is g) (hb : DSs C B X body wb)
    (hs : ∀ x, foldedSetIterable iter X.env x = pure x := by intro _; rfl) : DS C B X (.For tg iter body [] pos) (wFor wi g wb) :=
  ⟨PSimp (ps_for hp hc hi.pi hg.pg hb.pss hs) fun D σ H ⟨E, S, Dd, st, h, cl⟩ => ⟨E, S, _, st, h, fun ds src S1 J H1 e1 s1 fd h1 => by
    refine ⟨fun i m σ H => ∃ E S, Stt X.K C B E S σ H ∧ Ext C H1 H ∧ i + m = ds.length ∧ wForL g wb src ds Dd (ds.drop i) E S, ⟨ds.length, E, S1, st.ext e1 s1, Ext.refl C H1, Nat.zero_add _, by rw [List.drop_zero]; exact h1⟩, fun i m σ H ⟨E, S, st, ex, em, hw⟩ => ?_⟩
    by_cases hi : i < ds.length
    · right
      have hd : ds[i]? = some ds[i] := List.getElem?_eq_getElem hi
      rw [List.drop_eq_getElem_cons hi] at hw
      obtain ⟨so, hw⟩ := hw
      obtain ⟨_, f2⟩ := fd S H ex st.sr (srcOk_iff so)
      obtain ⟨go, yl⟩ := f2 i _ hd
      refine ⟨go, fun σ' H' => ∃ E' S', Stt X.K C B E' S' σ' H' ∧ Ext C H1 H' ∧ wForL g wb src ds Dd (ds.drop (i + 1)) E' S', fun σ' H' ⟨E', S', st', ex', q⟩ => ⟨m - 1, by omega, E', S', st', ex', by omega, q⟩, fun x H' hy => ?_⟩
      obtain ⟨e2, r2, s2⟩ := yl x H' hy
      have cm := cl.mono (e1.trans (ex.trans e2))
      refine ⟨_, E, S, _, st.ext e2 s2, r2, hw, fun E' S' σ' H3 e3 st' _ q => ⟨E', S', _, st', q, ?_⟩⟩
      have cm' := cm.mono e3
      exact ⟨fun E' S' σ' H' e' st' q => ⟨E', S', st', ((ex.trans e2).trans e3).trans e', q⟩, cm'.rt, cm'.nx, fun E' S' σ' H' e' st' q => ⟨E', S', st', ((ex.trans e2).trans e3).trans e', q⟩⟩
    · left
      rw [List.drop_eq_nil_of_le (Nat.le_of_not_lt hi)] at hw
      obtain ⟨so, hw⟩ := hw
      obtain ⟨f1, _⟩ := fd S H ex st.sr (srcOk_iff so)
      have : i = ds.length := by omega
      subst this
      exact ⟨f1, cl.nx _ _ _ _ (e1.trans ex) st hw⟩⟩⟩
end
end RL
namespace RL
open PySem PySem.Spec PyProof.Rows L2
section
variable {C : Cf}
theorem one_of {K : PySem.W.Frag} {H : Hp} {ds : List D} {vs : List V} {d : D} (e : ds = [d]) (r : DRs K C H ds vs) : ∃ v, vs = [v] ∧ DR K C H d v := by
  subst e
  cases r with
  | cons r t => cases t; exact ⟨_, rfl, r⟩
theorem two_of {K : PySem.W.Frag} {H : Hp} {ds : List D} {vs : List V} {d d2 : D} (e : ds = [d, d2]) (r : DRs K C H ds vs) : ∃ v v2, vs = [v, v2] ∧ DR K C H d v ∧ DR K C H d2 v2 := by
  subst e
  cases r with
  | cons r t =>
    cases t with
    | cons r2 t => cases t; exact ⟨_, _, rfl, r, r2⟩
end
/-! ### what is walked -/
def rngD (lo : Int) (n : Nat) : List D := (List.range n).map fun (i : Nat) => D.int (lo + i)
theorem rngD_length (lo : Int) (n : Nat) : (rngD lo n).length = n := by unfold rngD; rw [List.length_map, List.length_range]
theorem rngD_get {lo : Int} {n i : Nat} {d : D} (h : (rngD lo n)[i]? = some d) : i < n ∧ d = .int (lo + i) := by
  unfold rngD at h
  rw [List.getElem?_map] at h
  by_cases hi : i < n
  · rw [List.getElem?_range hi] at h
    cases h
    exact ⟨hi, rfl⟩
  · rw [List.getElem?_eq_none (by rw [List.length_range]; omega)] at h
    cases h
section
variable {K : PySem.W.Frag} {C : Cf} {H0 : Hp}
theorem feeds_range (lo : Int) (n : Nat) : Feeds K C (Itr lo n) (rngD lo n) none H0 := fun S H ex sr _ => by
  refine ⟨by rw [rngD_length]; exact Nat.le_refl n, fun i d hd => ?_⟩
  obtain ⟨hi, rfl⟩ := rngD_get hd
  exact ⟨hi, fun x H' hy => by obtain ⟨rfl, rfl⟩ := hy; exact ⟨Ext.refl C _, .int _, sr⟩⟩
theorem feeds_tup {a : Addr} {xs : List V} {ds : List D} (h : SqT K H0 a xs) (r : DRs K C H0 ds xs) : Feeds K C (Itt K a) ds none H0 := fun S H ex sr _ => by
  have h1 := ex.sqT h
  have r1 := r.ext ex
  refine ⟨⟨xs, h1, by rw [r.length]; exact Nat.le_refl _⟩, fun i d hd => ?_⟩
  obtain ⟨v, hv, rv⟩ := r1.get hd
  refine ⟨⟨xs, v, h1, hv⟩, fun x H' hy => ?_⟩
  obtain ⟨e, hx⟩ := hy
  subst e
  have := hx xs h1
  rw [hv] at this
  cases this
  exact ⟨Ext.refl C _, rv, sr⟩
theorem feeds_lst {a : Addr} {ob : Obj} {xs : List V} {ds : List D} (h : H0 a = some (.frz ob (.lst xs))) (r : DRs K C H0 ds xs) : Feeds K C (Itl K a) ds none H0 := fun S H ex sr _ => by
  have h1 : SqL K H a xs := .inl (.inr ⟨ob, ex.frz _ _ _ h⟩)
  have r1 := r.ext ex
  refine ⟨⟨xs, h1, by rw [r.length]; exact Nat.le_refl _⟩, fun i d hd => ?_⟩
  obtain ⟨v, hv, rv⟩ := r1.get hd
  refine ⟨⟨xs, v, h1, hv⟩, fun x H' hy => ?_⟩
  obtain ⟨e, hx⟩ := hy
  subst e
  have := hx xs h1
  rw [hv] at this
  cases this
  exact ⟨Ext.refl C _, rv, sr⟩
theorem feeds_live {a : Addr} {ds : List D} : Feeds K C (Itl K a) ds (some a) H0 := fun S H ex sr so => by
  obtain ⟨xs, p, r1, _⟩ := sr.ob a ds (so a rfl)
  have h1 : SqL K H a xs := .inl (.inl p)
  refine ⟨⟨xs, h1, by rw [r1.length]; exact Nat.le_refl _⟩, fun i d hd => ?_⟩
  obtain ⟨v, hv, rv⟩ := r1.get hd
  refine ⟨⟨xs, v, h1, hv⟩, fun x H' hy => ?_⟩
  obtain ⟨e, hx⟩ := hy
  subst e
  have := hx xs h1
  rw [hv] at this
  cases this
  exact ⟨Ext.refl C _, rv, sr⟩
def zipD : List D → List D → List D
  | x :: xs, y :: ys => .tup [x, y] :: zipD xs ys
  | _, _ => []
theorem zipD_length : ∀ (xs ys : List D), (zipD xs ys).length = min xs.length ys.length
  | [], ys => by rw [List.length_nil, Nat.zero_min]; rfl
  | x :: xs, [] => rfl
  | x :: xs, y :: ys => by
    show (zipD xs ys).length + 1 = min (xs.length + 1) (ys.length + 1)
    rw [zipD_length xs ys]
    omega
theorem zipD_get : ∀ {xs ys : List D} {i : Nat} {d : D}, (zipD xs ys)[i]? = some d → ∃ x y, xs[i]? = some x ∧ ys[i]? = some y ∧ d = .tup [x, y]
  | [], ys, i, d, h => by simp [zipD] at h
  | x :: xs, [], i, d, h => by simp [zipD] at h
  | x :: xs, y :: ys, 0, d, h => by simp [zipD] at h; exact ⟨x, y, rfl, rfl, h.symm⟩
  | x :: xs, y :: ys, i + 1, d, h => by
    have h' : (zipD xs ys)[i]? = some d := by simpa [zipD] using h
    obtain ⟨a, b, h1, h2, h3⟩ := zipD_get h'
    exact ⟨a, b, by simpa using h1, by simpa using h2, h3⟩
theorem feeds_zip {J : It} {xs ys : List D} (hs : ∀ H, Ext C H0 H → J.stop (min xs.length ys.length) H)
    (hg : ∀ (i : Nat) x y, xs[i]? = some x → ys[i]? = some y → ∃ vx vy, DR K C H0 x vx ∧ DR K C H0 y vy ∧ ∀ H, Ext C H0 H → J.go i H ∧ ∀ v H', J.yld i H v H' → ∃ T, v = .ref T ∧ H T = none ∧ H' = upd H T (.tup [vx, vy])) : Feeds K C J (zipD xs ys) none H0 := fun S H ex sr _ => by
  refine ⟨by rw [zipD_length]; exact hs H ex, fun i d hd => ?_⟩
  obtain ⟨x, y, h1, h2, rfl⟩ := zipD_get hd
  obtain ⟨vx, vy, rx, ry, hh⟩ := hg i x y h1 h2
  obtain ⟨go, yl⟩ := hh H ex
  refine ⟨go, fun v H' hy => ?_⟩
  obtain ⟨T, rfl, hT, rfl⟩ := yl v H' hy
  have e2 : Ext C H (upd H T (.tup [vx, vy])) := Ext.new hT
  exact ⟨e2, .tup (.inl (.inl upd_same)) (.cons ((rx.ext ex).ext e2) (.cons ((ry.ext ex).ext e2) .nil)) (by show 2 ≤ sizeLine; decide), sr.new hT trivial⟩
end
section
variable {C : Cf} {B : Hp} {X : Cx} {tg : Expr} {pos p : Pos}
def wRng1 (wa : WA) : WI := fun E S R => wa E S fun ds S1 => match ds with
  | [.int j] => (-(2 ^ 62) ≤ j ∧ j < 2 ^ 62) ∧ R (rngD 0 j.toNat) none S1
  | _ => False
def wRng2 (wa : WA) : WI := fun E S R => wa E S fun ds S1 => match ds with
  | [.int i, .int j] => (-(2 ^ 62) ≤ i ∧ i < 2 ^ 62 ∧ -(2 ^ 62) ≤ j ∧ j < 2 ^ 62) ∧ R (rngD i (j - i).toNat) none S1
  | _ => False
theorem PIimp {tg iter : Expr} {t t' : TI} (p : PI X tg iter t) (h : ∀ σ H R, t' σ H R → t σ H R) : PI X tg iter t' := ⟨fun pins s σ H R I q => p.run pins s σ H R I (h σ H R q)⟩
theorem di_range1 {a : Expr} {wa : WA} (hm : X.mg "range" = none) (ha : DA C B X [a] wa) (hg : Gl X "range" := by rfl) (hs : starEach [a] X.env = [(false, eval a X.env)] := by rfl) : DI C B X tg (.Call (.Name "range" p) [a] [] pos) (wRng1 wa) :=
  ⟨PIimp (pi_range1 hg hm ha.pa hs) fun σ H R ⟨E, S, Rd, st, h, c⟩ => ⟨E, S, _, st, h, fun ds S1 vs H1 e1 r1 s1 h1 => by
    rcases ds with _ | ⟨d, _ | ⟨d2, ds⟩⟩
    · exact False.elim h1
    · obtain ⟨v, rfl, ra⟩ := one_of rfl r1
      cases d <;> first | exact False.elim h1 | skip
      rename_i j
      cases ra
      exact ⟨j, rfl, h1.1.1, h1.1.2, c _ _ _ _ _ e1 s1 (feeds_range _ _) h1.2⟩
    · cases d <;> exact False.elim h1⟩⟩
theorem di_range2 {a b : Expr} {wa : WA} (hm : X.mg "range" = none) (ha : DA C B X [a, b] wa) (hg : Gl X "range" := by rfl) (hs : starEach [a, b] X.env = [(false, eval a X.env), (false, eval b X.env)] := by rfl) (hs2 : starEach [b] X.env = [(false, eval b X.env)] := by rfl) : DI C B X tg (.Call (.Name "range" p) [a, b] [] pos) (wRng2 wa) :=
  ⟨PIimp (pi_range2 hg hm ha.pa hs hs2) fun σ H R ⟨E, S, Rd, st, h, c⟩ => ⟨E, S, _, st, h, fun ds S1 vs H1 e1 r1 s1 h1 => by
    rcases ds with _ | ⟨d, _ | ⟨d2, _ | ⟨d3, ds⟩⟩⟩
    · exact False.elim h1
    · cases d <;> exact False.elim h1
    · obtain ⟨v, v2, rfl, ra, rb⟩ := two_of rfl r1
      cases d <;> first | exact False.elim h1 | skip
      rename_i i
      cases d2 <;> first | exact False.elim h1 | skip
      rename_i j
      cases ra
      cases rb
      exact ⟨i, j, rfl, h1.1, c _ _ _ _ _ e1 s1 (feeds_range _ _) h1.2⟩
    · cases d <;> first | exact False.elim h1 | skip
      cases d2 <;> exact False.elim h1⟩⟩
/-- a list or a tuple -/
def wSeqI (w : WE) : WI := fun E S R => w E S fun d S1 => match d with
  | .tup ds => ds.length ≤ sizeLine → R ds none S1
  | .lst ds => ds.length ≤ sizeLine → R ds none S1
  | .ref q => ∃ ds, S1 q = some (.lst ds) ∧ (ds.length ≤ sizeLine → R ds (some q) S1)
  | _ => False
theorem iter_list {pins : List (Addr × Obj)} {s : Shared} {σ : L2.St} {H : Hp} {R : It → Hp → Prop} {E : Value → Shared → Prop} {a : Addr} {xs : List V} (I : Inv X pins σ H s) (h : SqL X.K H a xs) (q : R (Itl X.K a) H) : wpAny (model X.prog X.w) X.A (pyIter (.ref a)) (PIE X pins σ tg R) E s := by
  rcases I.list h with ⟨its, rv, pl, -⟩
  have hf := I.hok.fresh (Nat.le_refl s.heap.objs.size)
  refine wpAny_pyIter_list pl.isList ⟨s.heap.objs.size, [s.heap.objs.size], _, _, H, rfl, I.kept (t' := s.toks) (fun _ _ => Heap.get?_push_of_some _), turn_list a _, ⟨_, Heap.get?_push_size _ rfl, rfl, rfl⟩, ?_, q⟩
  intro b hb
  rw [List.mem_singleton.mp hb]
  exact I.fpOk (Nat.le_refl _) hf
theorem iter_tup {pins : List (Addr × Obj)} {s : Shared} {σ : L2.St} {H : Hp} {R : It → Hp → Prop} {E : Value → Shared → Prop} {a : Addr} {xs : List V} (I : Inv X pins σ H s) (h : SqT X.K H a xs) (q : R (Itt X.K a) H) : wpAny (model X.prog X.w) X.A (pyIter (.ref a)) (PIE X pins σ tg R) E s := by
  rcases I.tuple h with ⟨its, rv, pl, -⟩
  have hf := I.hok.fresh (Nat.le_refl s.heap.objs.size)
  refine wpAny_pyIter_tuple (show s.heap.IsTuple a its.toArray from pl) ⟨s.heap.objs.size, [s.heap.objs.size], _, _, H, rfl, I.kept (t' := s.toks) (fun _ _ => Heap.get?_push_of_some _), turn_tuple a _, ⟨_, Heap.get?_push_size _ rfl, rfl, rfl⟩, ?_, q⟩
  intro b hb
  rw [List.mem_singleton.mp hb]
  exact I.fpOk (Nat.le_refl _) hf
theorem di_seq {e : Expr} {w : WE} (he : DE C B X e w) : DI C B X tg e (wSeqI w) := by
  refine ⟨⟨fun pins s σ H R I ⟨E, S, Rd, st, h, c⟩ => ?_⟩⟩
  refine thn (he.pe.run pins s σ H (fun v H1 => ∃ d S1, Ext C H H1 ∧ DR X.K C H1 d v ∧ SR X.K C S1 H1 ∧ (match d with
    | .tup ds => ds.length ≤ sizeLine → Rd ds none S1
    | .lst ds => ds.length ≤ sizeLine → Rd ds none S1
    | .ref q => ∃ ds, S1 q = some (.lst ds) ∧ (ds.length ≤ sizeLine → Rd ds (some q) S1)
    | _ => False)) I ⟨E, S, _, st, h, fun d S1 v H1 e1 r1 s1 h1 => ⟨d, S1, e1, r1, s1, h1⟩⟩) ?_
  rintro u s1 ⟨v, H1, I1, rv, d, S1, e1, r1, s1', h1⟩
  cases d <;> first | exact False.elim h1 | skip
  · obtain ⟨ds, q1, q2⟩ := h1
    cases r1
    cases rv
    obtain ⟨xs, p1, p2, p3⟩ := s1'.ob _ _ q1
    exact iter_list I1 (.inl (.inl p1)) (c _ _ _ _ _ e1 s1' feeds_live (q2 (by rw [p2.length]; exact p3)))
  · cases r1 with
    | tup a b z =>
      cases rv
      exact iter_tup I1 a (c _ _ _ _ _ e1 s1' (feeds_tup a b) (h1 (by rw [b.length]; exact z)))
  · cases r1 with
    | lst a b z =>
      cases rv
      exact iter_list I1 (.inl (.inr ⟨_, a⟩)) (c _ _ _ _ _ e1 s1' (feeds_lst a b) (h1 (by rw [b.length]; exact z)))
/-- zip of two lists, of two tuples -/
def wZip (wa : WA) : WI := fun E S R => wa E S fun ds S1 => match ds with
  | [.tup xs, .tup ys] => xs.length ≤ sizeLine ∧ ys.length ≤ sizeLine → R (zipD xs ys) none S1
  | [.lst xs, .lst ys] => xs.length ≤ sizeLine ∧ ys.length ≤ sizeLine → R (zipD xs ys) none S1
  | _ => False
theorem di_zip {a b : Expr} {wa : WA} {tpos : Pos} {elts : List Expr} {kk : Nat} (hm : X.mg "zip" = none) (ha : DA C B X [a, b] wa) (hg : Gl X "zip" := by rfl)
    (hs : starEach [a, b] X.env = (false, eval a X.env) :: starEach [b] X.env := by rfl) (hpl : (backTo pos (starEach [b] X.env)).any (·.1) = false := by rfl) : DI C B X (.Tuple elts kk tpos) (.Call (.Name "zip" p) [a, b] [] pos) (wZip wa) :=
  ⟨PIimp (RZ.pi_zipA hg hm ha.pa hs hpl) fun σ H R ⟨E, S, Rd, st, h, c⟩ => ⟨E, S, _, st, h, fun ds S1 vs H1 e1 r1 s1 h1 => by
    rcases ds with _ | ⟨d, _ | ⟨d2, _ | ⟨d3, ds⟩⟩⟩
    · exact False.elim h1
    · cases d <;> exact False.elim h1
    · obtain ⟨v, v2, rfl, ra, rb⟩ := two_of rfl r1
      cases d <;> first | exact False.elim h1 | skip
      · rename_i xs
        cases d2 <;> first | exact False.elim h1 | skip
        rename_i ys
        cases ra with
        | tup a1 b1 k1 =>
          cases rb with
          | tup a2 b2 k2 =>
            refine ⟨_, _, _, _, rfl, .inr ⟨a1, a2, c _ _ _ _ _ e1 s1 (feeds_zip (fun H2 e2 => ?_) fun i x y hx hy => ?_) (h1 ⟨by rw [b1.length]; exact k1, by rw [b2.length]; exact k2⟩)⟩⟩
            · refine ⟨_, _, e2.sqT a1, e2.sqT a2, ?_⟩
              rw [← b1.length, ← b2.length]
              omega
            · obtain ⟨vx, q1, q2⟩ := b1.get hx
              obtain ⟨vy, q3, q4⟩ := b2.get hy
              refine ⟨vx, vy, q2, q4, fun H2 e2 => ⟨⟨_, _, vx, vy, e2.sqT a1, e2.sqT a2, q1, q3⟩, fun v H' ⟨T, x', y', z1, z2, z3, z4, z5⟩ => ?_⟩⟩
              have w1 := z4 _ (e2.sqT a1)
              have w2 := z5 _ (e2.sqT a2)
              rw [q1] at w1
              rw [q3] at w2
              cases w1
              cases w2
              exact ⟨T, z1, z2, z3⟩
      · rename_i xs
        cases d2 <;> first | exact False.elim h1 | skip
        rename_i ys
        cases ra with
        | lst a1 b1 k1 =>
          cases rb with
          | lst a2 b2 k2 =>
            have f1 : ∀ {H2}, Ext C H1 H2 → SqL X.K H2 _ _ := fun e2 => .inl (.inr ⟨_, e2.frz _ _ _ a1⟩)
            have f2 : ∀ {H2}, Ext C H1 H2 → SqL X.K H2 _ _ := fun e2 => .inl (.inr ⟨_, e2.frz _ _ _ a2⟩)
            refine ⟨_, _, _, _, rfl, .inl ⟨f1 (Ext.refl C H1), f2 (Ext.refl C H1), c _ _ _ _ _ e1 s1 (feeds_zip (fun H2 e2 => ?_) fun i x y hx hy => ?_) (h1 ⟨by rw [b1.length]; exact k1, by rw [b2.length]; exact k2⟩)⟩⟩
            · refine ⟨_, _, f1 e2, f2 e2, ?_⟩
              rw [← b1.length, ← b2.length]
              omega
            · obtain ⟨vx, q1, q2⟩ := b1.get hx
              obtain ⟨vy, q3, q4⟩ := b2.get hy
              refine ⟨vx, vy, q2, q4, fun H2 e2 => ⟨⟨_, _, vx, vy, f1 e2, f2 e2, q1, q3⟩, fun v H' ⟨T, x', y', z1, z2, z3, z4, z5⟩ => ?_⟩⟩
              have w1 := z4 _ (f1 e2)
              have w2 := z5 _ (f2 e2)
              rw [q1] at w1
              rw [q3] at w2
              cases w1
              cases w2
              exact ⟨T, z1, z2, z3⟩
    · cases d <;> first | exact False.elim h1 | skip
      all_goals (cases d2 <;> exact False.elim h1)⟩⟩
end
/-! ### list comprehensions -/
def wipeD (E : EV) : List Nat → EV
  | [] => E
  | v :: vs => (wipeD E vs).set v none
theorem wipeD_length (E : EV) : ∀ vs : List Nat, (wipeD E vs).length = E.length
  | [] => rfl
  | v :: vs => by unfold wipeD; rw [List.length_set, wipeD_length E vs]
theorem Stt.none {K : PySem.W.Frag} {C : Cf} {H0 : Hp} {E : EV} {S : Sto} {σ : L2.St} {H : Hp} (st : Stt K C H0 E S σ H) (i : Nat) : Stt K C H0 (E.set i none) S (σ.set i none) H := by
  refine ⟨st.base, by rw [List.length_set, List.length_set]; exact st.len, fun j e q => ?_, st.sr⟩
  by_cases hj : i = j
  · subst hj
    by_cases hl : i < E.length
    · rw [List.getElem?_set_self hl] at q
      cases q
    · rw [List.getElem?_eq_none (by rw [List.length_set]; omega)] at q
      cases q
  · rw [List.getElem?_set_ne hj] at q
    rw [List.getElem?_set_ne hj]
    exact st.env j e q
theorem Stt.wipe {K : PySem.W.Frag} {C : Cf} {H0 : Hp} {E : EV} {S : Sto} {σ : L2.St} {H : Hp} (st : Stt K C H0 E S σ H) : ∀ vs : List Nat, Stt K C H0 (wipeD E vs) S (L2.wipe σ vs) H
  | [] => st
  | v :: vs => (Stt.wipe st vs).none v
theorem Stt.rebase {K : PySem.W.Frag} {C : Cf} {H0 H1 : Hp} {E : EV} {S : Sto} {σ : L2.St} {H : Hp} (st : Stt K C H0 E S σ H) (e : Ext C H1 H) : Stt K C H1 E S σ H := ⟨e, st.len, st.env, st.sr⟩
/-- Z: the new list, which the store knows while it grows -/
def wLcL (g : WG) (tt : WT) (te : WE) (E : EV) (src : Option Addr) (all : List D) (Z : Addr) (Q : Sto → Prop) : List D → List D → Sto → Prop
  | [], acc, S => srcOk src all S ∧ S Z = some (.lst acc) ∧ Q S
  | d :: ds, acc, S => srcOk src all S ∧ g d E S fun E2 S2 => tt E2 S2 fun b S3 => if b = true then te E2 S3 fun y S4 => S4 Z = some (.lst acc) ∧ acc.length < sizeLine ∧ wLcL g tt te E src all Z Q ds (acc ++ [y]) (S4.put Z (.lst (acc ++ [y]))) else wLcL g tt te E src all Z Q ds acc S3
/-- the list of a comprehension: locked, or one that may change -/
def asF (Z : Addr) (S : Sto) (Q : KD) : Prop := ∀ acc, S Z = some (.lst acc) → Q (.lst acc) (S.del Z)
def asL (Z : Addr) (S : Sto) (Q : KD) : Prop := Q (.ref Z) S
def wLc (fz : Bool) (wi : WI) (g : WG) (tt : WT) (te : WE) (vs : List Nat) : WE := fun E S Qd => wi E S fun ds src S1 => ∀ Z, S1 Z = none → wLcL g tt te (wipeD E vs) src ds Z (fun S2 => if fz = true then asF Z S2 Qd else asL Z S2 Qd) ds [] (S1.put Z (.lst []))
theorem tLc_mono {wi : TI} {g : TG} {tt : TT} {te : TE} {vs : List Nat} {σ : L2.St} {H : Hp} {Q Q' : VK} (h : tLc wi g tt te vs σ H Q) (hq : ∀ x H1, Q x H1 → Q' x H1) (hm : ∀ R R' : It → Hp → Prop, (∀ J H, R J H → R' J H) → wi σ H R → wi σ H R') : tLc wi g tt te vs σ H Q' :=
  hm _ _ (fun J H1 h D hD => by
    obtain ⟨W, h0, hW⟩ := h D hD
    refine ⟨W, h0, fun i m H hw => ?_⟩
    rcases hW i m H hw with ⟨a, b⟩ | r
    · exact .inl ⟨a, hq _ _ b⟩
    · exact .inr r) h
theorem liftI_mono {K : PySem.W.Frag} {C : Cf} {B : Hp} {w : WI} {σ : L2.St} {H : Hp} {R R' : It → Hp → Prop} (h : ∀ J H, R J H → R' J H) (q : liftI K C B w σ H R) : liftI K C B w σ H R' := by
  obtain ⟨E, S, Rd, st, hw, c⟩ := q
  exact ⟨E, S, Rd, st, hw, fun ds src S' J H' a b d e => h J H' (c ds src S' J H' a b d e)⟩
structure DTs (C : Cf) (B : Hp) (X : Cx) (ifs : List Expr) (w : WT) : Prop where
  pts : PTs X ifs (liftT X.K C B w)
def wYes : WT := fun _ S Q => Q true S
section
variable {C : Cf} {B : Hp} {X : Cx} {pos : Pos}
theorem dts_nil : DTs C B X [] wYes := ⟨⟨fun pins s σ H Q I ⟨E, S, Qd, st, h, c⟩ => pts_nil.run pins s σ H Q I (c _ _ _ (Ext.refl C H) st.sr h)⟩⟩
theorem wipe_idem (σ : L2.St) (vs : List Nat) : L2.wipe (L2.wipe σ vs) vs = L2.wipe σ vs := by
  have key : ∀ us : List Nat, (∀ u ∈ us, u ∈ vs) → L2.wipe (L2.wipe σ vs) us = L2.wipe σ vs := by
    intro us
    induction us with
    | nil => intro _; rfl
    | cons u us ih =>
      intro hu
      show (L2.wipe (L2.wipe σ vs) us).set u none = _
      rw [ih fun w hw => hu w (List.mem_cons_of_mem _ hw)]
      have hm := hu u List.mem_cons_self
      apply List.ext_getElem?
      intro j
      by_cases hj : u = j
      · subst hj
        by_cases hl : u < (L2.wipe σ vs).length
        · rw [List.getElem?_set_self hl]
          cases q : (L2.wipe σ vs)[u]? with
          | none => rw [List.getElem?_eq_none_iff] at q; omega
          | some o =>
            cases o with
            | none => rfl
            | some x => exact absurd hm (wipe_some q).2
        · rw [List.getElem?_eq_none (by rw [List.length_set]; omega), List.getElem?_eq_none (by omega)]
      · rw [List.getElem?_set_ne hj]
  exact key vs fun _ h => h
/-- the reading of the hand layer from that by content -/
theorem lift_lc {is vs : List Nat} {wi : WI} {g : WG} {tt : WT} {te : WE} {fz : Bool} {σ : L2.St} {H : Hp} {Q : VK} (his : ∀ i ∈ is, i ∈ vs) (h : liftE X.K C B (wLc fz wi g tt te vs) σ H Q) :
    tLc (liftI X.K C B wi) (fun v σ1 H1 Q1 => liftG X.K C H1 is g v σ1 H1 Q1) (fun σ1 H1 Q1 => liftT X.K C H1 tt σ1 H1 Q1) (fun σ1 H1 Q1 => liftE X.K C H1 te σ1 H1 Q1) vs σ H (if fz = true then fzK Q else Q) := by
  obtain ⟨E, S, Qd, st, h, c⟩ := h
  refine ⟨E, S, _, st, h, fun ds src S1 J H1 e1 s1 fd h1 Z hZ => ?_⟩
  have h1 := h1 Z (s1.none hZ)
  refine ⟨fun i m H' => ∃ acc S', Ext C H1 H' ∧ SR X.K C S' H' ∧ i + m = ds.length ∧ wLcL g tt te (wipeD E vs) src ds Z (fun S2 => if fz = true then asF Z S2 Qd else asL Z S2 Qd) (ds.drop i) acc S', ?_, ?_⟩
  · exact ⟨ds.length, [], _, Ext.new hZ, s1.newL hZ .nil (Nat.zero_le _), Nat.zero_add _, by rw [List.drop_zero]; exact h1⟩
  · rintro i m H' ⟨acc, S', ex, sr, em, hw⟩
    by_cases hi : i < ds.length
    · right
      have hd : ds[i]? = some ds[i] := List.getElem?_eq_getElem hi
      rw [List.drop_eq_getElem_cons hi] at hw
      obtain ⟨so, hw⟩ := hw
      obtain ⟨_, f2⟩ := fd S' H' ex sr (srcOk_iff so)
      obtain ⟨go, yl⟩ := f2 i _ hd
      refine ⟨go, fun H3 => ∃ acc S3, Ext C H1 H3 ∧ SR X.K C S3 H3 ∧ wLcL g tt te (wipeD E vs) src ds Z (fun S2 => if fz = true then asF Z S2 Qd else asL Z S2 Qd) (ds.drop (i + 1)) acc S3,
        fun H3 ⟨acc3, S3, q1, q2, q4⟩ => ⟨m - 1, by omega, acc3, S3, q1, q2, by omega, q4⟩, fun x H2 hy => ?_⟩
      obtain ⟨e2, r2, s2⟩ := yl x H2 hy
      have stw : Stt X.K C H2 (wipeD E vs) S' (L2.wipe σ vs) H2 := ((((st.ext e1 s1).ext (ex.trans e2) s2).wipe vs).rebase (Ext.refl C H2))
      refine ⟨_, _, S', _, stw, r2, hw, fun E3 S3 σ3 H3 e3 st3 hwp q3 => ⟨?_, ?_⟩⟩
      · rw [hwp vs his]
        have ww : ∀ us : List Nat, L2.wipe (L2.wipe σ vs) us = L2.wipe (L2.wipe σ vs) us := fun _ => rfl
        exact wipe_idem σ vs
      · refine ⟨E3, S3, _, st3.rebase (Ext.refl C H3), q3, fun b S4 H4 e4 s4 q4 => ?_⟩
        have ex4 : Ext C H1 H4 := ((ex.trans e2).trans e3).trans e4
        cases b with
        | false =>
          exact ⟨acc, S4, ex4, s4, q4⟩
        | true =>
          refine ⟨E3, S4, _, ((st3.ext e4 s4).rebase (Ext.refl C H4)), q4, fun y S5 v5 H5 e5 r5 s5 q5 => ?_⟩
          obtain ⟨z1, z2, z3⟩ := q5
          obtain ⟨xs, p1, p2, p3⟩ := s5.ob Z _ z1
          exact ⟨xs, p1, by rw [← p2.length]; exact z2, _, _, (ex4.trans e5).trans (Ext.wr p1), s5.wr z1 (p2.app (.cons r5 .nil)) (by rw [List.length_append, ← p2.length]; exact z2), z3⟩
    · left
      rw [List.drop_eq_nil_of_le (Nat.le_of_not_lt hi)] at hw
      obtain ⟨so, hz, hw⟩ := hw
      obtain ⟨f1, _⟩ := fd S' H' ex sr (srcOk_iff so)
      have : i = ds.length := by omega
      subst this
      refine ⟨f1, ?_⟩
      obtain ⟨xs, p1, p2, p3⟩ := sr.ob Z _ hz
      cases fz with
      | true =>
        refine ⟨Z, xs, rfl, p1, fun ob => ?_⟩
        have e9 : Ext C H' (upd H' Z (.frz ob (.lst xs))) := Ext.fz p1
        exact c _ _ _ _ ((e1.trans ex).trans e9) (.lst upd_same (p2.ext e9) p3) (sr.fzS hz p1) (hw _ hz)
      | false => exact c _ _ _ _ (e1.trans ex) (.ref Z) sr hw
theorem PGbase {X : Cx} {C : Cf} {tg : Expr} {is : List Nat} {g : WG} (h : ∀ B, DG C B X tg is g) : PG X tg (fun v σ1 H1 Q1 => liftG X.K C H1 is g v σ1 H1 Q1) := ⟨fun pins s σ H v u Q I r q => (h H).pg.run pins s σ H v u Q I r q⟩
theorem PTsbase {X : Cx} {C : Cf} {ifs : List Expr} {w : WT} (h : ∀ B, DTs C B X ifs w) : PTs X ifs (fun σ1 H1 Q1 => liftT X.K C H1 w σ1 H1 Q1) := ⟨fun pins s σ H Q I q => (h H).pts.run pins s σ H Q I q⟩
theorem PEbase {X : Cx} {C : Cf} {e : Expr} {w : WE} (h : ∀ B, DE C B X e w) : PE X e (fun σ1 H1 Q1 => liftE X.K C H1 w σ1 H1 Q1) := ⟨fun pins s σ H Q I q => (h H).pe.run pins s σ H Q I q⟩
/-- [elt for tg in iter if ..] -/
theorem de_lc (fz : Bool) {elt tg iter : Expr} {ifs : List Expr} {scope : Scope} (own : List (Str × Nat)) {wi : WI} {is : List Nat} {g : WG} {tt : WT} {te : WE} (hc : X.calm = true) (hN : X.N.Nodup) (ok : BlkOk X.N X.env.scope scope own) (hi : DI C B X tg iter wi)
    (hg : ∀ (s : Shared) (H : Hp) (L : Addr) (cl : List (Str × Addr)) (fp : List Addr) (B : Hp), DG C B (X.blk s H scope (compEnvC scope cl L X.env) fp) tg is g) (ht : ∀ (s : Shared) (H : Hp) (L : Addr) (cl : List (Str × Addr)) (fp : List Addr) (B : Hp), DTs C B (X.blk s H scope (compEnvC scope cl L X.env) fp) ifs tt)
    (he : ∀ (s : Shared) (H : Hp) (L : Addr) (cl : List (Str × Addr)) (fp : List Addr) (B : Hp), DE C B (X.blk s H scope (compEnvC scope cl L X.env) fp) elt te) (his : ∀ i ∈ is, i ∈ own.map (·.2) := by decide) (hs : ∀ x, foldedSetIterable iter X.env x = pure x := by intro _; rfl) :
    DE C B X (.ListComp elt [⟨tg, iter, ifs, 0⟩] scope pos) (wLc fz wi g tt te (own.map (·.2))) := by
  have p := pe_lc (pos := pos) (g := fun v σ1 H1 Q1 => liftG X.K C H1 is g v σ1 H1 Q1) (tt := fun σ1 H1 Q1 => liftT X.K C H1 tt σ1 H1 Q1) (te := fun σ1 H1 Q1 => liftE X.K C H1 te σ1 H1 Q1) hc hN hi.pi ok (fun s H L cl fp => PGbase (hg s H L cl fp)) (fun s H L cl fp => PTsbase (ht s H L cl fp)) (fun s H L cl fp => PEbase (he s H L cl fp)) hs
  cases fz with
  | true => exact ⟨PEimp (PEfz p) fun σ H Q h => lift_lc his h⟩
  | false => exact ⟨PEimp p fun σ H Q h => lift_lc his h⟩
/-- y = [..] on one line, y a local -/
theorem ds_setLc (i : Nat) (fz : Bool) {y : Str} {py spos : Pos} {elt tg iter : Expr} {ifs : List Expr} {scope : Scope} (own : List (Str × Nat)) {wi : WI} {is : List Nat} {g : WG} {tt : WT} {te : WE} (hc : X.calm = true) (hN : X.N.Nodup) (ok : BlkOk X.N X.env.scope scope own) (hi : DI C B X tg iter wi)
    (hg : ∀ (s : Shared) (H : Hp) (L : Addr) (cl : List (Str × Addr)) (fp : List Addr) (B : Hp), DG C B (X.blk s H scope (compEnvC scope cl L X.env) fp) tg is g) (ht : ∀ (s : Shared) (H : Hp) (L : Addr) (cl : List (Str × Addr)) (fp : List Addr) (B : Hp), DTs C B (X.blk s H scope (compEnvC scope cl L X.env) fp) ifs tt)
    (he : ∀ (s : Shared) (H : Hp) (L : Addr) (cl : List (Str × Addr)) (fp : List Addr) (B : Hp), DE C B (X.blk s H scope (compEnvC scope cl L X.env) fp) elt te) (hsw : swapsWith (.ListComp elt [⟨tg, iter, ifs, 0⟩] scope pos) (some (.Name y py)) spos.line X.env = pure true) (hy : X.N[i]? = some y := by rfl) (hyl : X.env.scope.names.lookup y = some .local := by rfl)
    (his : ∀ i ∈ is, i ∈ own.map (·.2) := by decide) (hs : ∀ x, foldedSetIterable iter X.env x = pure x := by intro _; rfl) :
    DS C B X (.Assign [.Name y py] (.ListComp elt [⟨tg, iter, ifs, 0⟩] scope pos) spos) (wAsg (wLc fz wi g tt te (own.map (·.2))) (gSet i)) := by
  have p := ps_setLc (pos := pos) (g := fun v σ1 H1 Q1 => liftG X.K C H1 is g v σ1 H1 Q1) (tt := fun σ1 H1 Q1 => liftT X.K C H1 tt σ1 H1 Q1) (te := fun σ1 H1 Q1 => liftE X.K C H1 te σ1 H1 Q1) hc hN hy hyl hsw hi.pi ok (fun s H L cl fp => PGbase (hg s H L cl fp)) (fun s H L cl fp => PTsbase (ht s H L cl fp)) (fun s H L cl fp => PEbase (he s H L cl fp)) hs
  cases fz with
  | false => exact ⟨PSimp p fun D σ H ⟨E, S, Dd, st, h, c⟩ => lift_lc (fz := false) his ⟨E, S, _, st, h, fun d S1 v H1 e1 r1 s1 h1 => c.nx _ _ _ _ e1 ((st.ext e1 s1).set r1 i) h1⟩⟩
  | true =>
    refine ⟨⟨fun pins s σ H D I ⟨E, S, Dd, st, h, c⟩ => ?_⟩⟩
    have q := lift_lc (fz := true) (Q := fun x H1 => gName i x σ H1 D.nx) his ⟨E, S, _, st, h, fun d S1 v H1 e1 r1 s1 h1 => c.nx _ _ _ _ e1 ((st.ext e1 s1).set r1 i) h1⟩
    refine thn (p.run pins s σ H { D with nx := fun σ' H' => ∃ ZA xs, σ' = σ.set i (some (.ref ZA)) ∧ H' ZA = some (.lst xs) ∧ ∀ ob, D.nx σ' (upd H' ZA (.frz ob (.lst xs))) } I ?_) fun fl s' hq => ?_
    · refine tLc_mono q (fun x H1 hx => ?_) fun R R' hR => liftI_mono hR
      obtain ⟨ZA, xs, rfl, hz, hq⟩ := hx
      exact ⟨ZA, xs, rfl, hz, hq⟩
    · cases fl with
      | next =>
        obtain ⟨σ', H', I', ZA, xs, e, hz, hq⟩ := hq
        obtain ⟨ob, I2⟩ := inv_fz I' hz
        exact ⟨σ', _, I2, hq ob⟩
      | brk => exact hq
      | cont => exact hq
      | ret u => exact hq
end
end RL
namespace RL
open PySem PySem.Spec PyProof.Rows
open L2 hiding WE
/-! ### calls of built-ins -/
abbrev RCD := List D → Sto → KD → Prop
def wCB (r : RCD) (w : WA) : WE := fun E S Q => w E S fun ds S1 => r ds S1 Q
section
variable {C : Cf} {B : Hp} {X : Cx} {x : Str} {p pos : Pos} {e : Expr} {es : List Expr} {wa : WA} {r : RCD}
theorem lift_cb {σ : L2.St} {H : Hp} {Q : VK} (h : liftE X.K C B (wCB r wa) σ H Q) : tCB (liftC X.K C r) (liftA X.K C B wa) σ H Q := by
  obtain ⟨E, S, Qd, st, h, c⟩ := h
  exact ⟨E, S, _, st, h, fun ds S1 vs H1 e1 r1 s1 h1 => ⟨ds, S1, Qd, r1, s1, h1, c.mono e1⟩⟩
theorem de_callB {id : String} (hc : CallR X (.builtin id) (liftC X.K C r)) (hm : X.mg x = none) (hv : bootBuiltins x = some (.builtin id)) (ha : DA C B X (e :: es) wa) (hg : Gl X x := by rfl) (hn : x ≠ "__name__" := by decide) (hdb : (x == ("__debug__" : Str)) = false := by decide)
    (he : starEach (e :: es) X.env = (false, eval e X.env) :: starEach es X.env := by rfl) (hpl : (backTo pos (starEach es X.env)).any (·.1) = false := by rfl) : DE C B X (.Call (.Name x p) (e :: es) [] pos) (wCB r wa) :=
  ⟨PEimp (pe_callB hc hg hm hv ha.pa hn hdb he hpl) fun _ _ _ h => lift_cb h⟩
theorem de_callTy {T : String} (hc : CallR X (.type T) (liftC X.K C r)) (hm : X.mg x = none) (hv : bootBuiltins x = some (.type T)) (ha : DA C B X (e :: es) wa) (hg : Gl X x := by rfl) (hn : x ≠ "__name__" := by decide) (hdb : (x == ("__debug__" : Str)) = false := by decide)
    (he : starEach (e :: es) X.env = (false, eval e X.env) :: starEach es X.env := by rfl) (hpl : (backTo pos (starEach es X.env)).any (·.1) = false := by rfl) : DE C B X (.Call (.Name x p) (e :: es) [] pos) (wCB r wa) :=
  ⟨PEimp (pe_callTy hc hg hm hv ha.pa hn hdb he hpl) fun _ _ _ h => lift_cb h⟩
end
def dLen : RCD := fun ds S Q => match ds with
  | [.tup xs] => xs.length ≤ sizeLine → Q (.int xs.length) S
  | [.lst xs] => xs.length ≤ sizeLine → Q (.int xs.length) S
  | [.str z] => z.length ≤ sizeLine ∧ Q (.int z.length) S
  | [.ref p] => ∃ xs, S p = some (.lst xs) ∧ (xs.length ≤ sizeLine → Q (.int xs.length) S)
  | _ => False
def dList : RCD := fun ds S Q => match ds with
  | [.tup xs] => Q (.lst xs) S
  | [.lst xs] => Q (.lst xs) S
  | [.ref p] => ∃ xs, S p = some (.lst xs) ∧ Q (.lst xs) S
  | _ => False
def dListL : RCD := fun ds S Q => match ds with
  | [.tup xs] => ∀ q, S q = none → Q (.ref q) (S.put q (.lst xs))
  | [.lst xs] => ∀ q, S q = none → Q (.ref q) (S.put q (.lst xs))
  | [.ref p] => ∃ xs, S p = some (.lst xs) ∧ ∀ q, S q = none → Q (.ref q) (S.put q (.lst xs))
  | _ => False
def dTuple : RCD := fun ds S Q => match ds with
  | [.tup xs] => Q (.tup xs) S
  | [.lst xs] => Q (.tup xs) S
  | [.ref p] => ∃ xs, S p = some (.lst xs) ∧ Q (.tup xs) S
  | _ => False
def dSum : RCD := fun ds S Q => match ds with
  | [.lst xs] => ∃ ns : List Int, xs = ns.map D.int ∧ Q (.int ns.sum) S
  | [.ref p] => ∃ ns : List Int, S p = some (.lst (ns.map D.int)) ∧ Q (.int ns.sum) S
  | _ => False
def dAll : RCD := fun ds S Q => match ds with
  | [.lst xs] => ∃ bs : List Bool, xs = bs.map D.bl ∧ Q (.bl (bs.all id)) S
  | _ => False
def dAny : RCD := fun ds S Q => match ds with
  | [.lst xs] => ∃ bs : List Bool, xs = bs.map D.bl ∧ Q (.bl (bs.any id)) S
  | _ => False
def dMax2 : RCD := fun ds S Q => match ds with
  | [.int i, .int j] => Q (.int (if j > i then j else i)) S
  | _ => False
def dMin2 : RCD := fun ds S Q => match ds with
  | [.int i, .int j] => Q (.int (if j < i then j else i)) S
  | _ => False
def dAbs : RCD := fun ds S Q => match ds with
  | [.int i] => Q (.int (if i < 0 then -i else i)) S
  | _ => False
def dInt : RCD := fun ds S Q => match ds with
  | [.int i] => Q (.int i) S
  | [.bl k] => Q (.int (if k then 1 else 0)) S
  | _ => False
section
variable {C : Cf} {X : Cx}
theorem cd_len : CallR X (.builtin "len") (liftC X.K C dLen) := by
  rintro pins s σ H vs us Q I rv ⟨ds, S, Qd, rs, sr, h, c⟩
  rcases ds with _ | ⟨d, _ | ⟨d2, ds⟩⟩
  · exact False.elim h
  · obtain ⟨v, rfl, r⟩ := one_of rfl rs
    cases d <;> first | exact False.elim h | skip
    · cases r
      exact call_len_str pins s σ H _ us Q I rv ⟨_, rfl, h.1, c.now (.int _) sr h.2⟩
    · cases r
      obtain ⟨xs, h1, h2⟩ := h
      obtain ⟨ys, q1, q2, q3⟩ := sr.ob _ _ h1
      exact call_len_seq pins s σ H _ us Q I rv ⟨_, _, rfl, .inl (.inl (.inl q1)), by rw [← q2.length]; exact c.now (.int _) sr (h2 (by rw [q2.length]; exact q3))⟩
    · cases r with
      | tup a b z => exact call_len_seq pins s σ H _ us Q I rv ⟨_, _, rfl, .inr a, by rw [← b.length]; exact c.now (.int _) sr (h (by rw [b.length]; exact z))⟩
    · cases r with
      | lst a b z => exact call_len_seq pins s σ H _ us Q I rv ⟨_, _, rfl, .inl (.inl (.inr ⟨_, a⟩)), by rw [← b.length]; exact c.now (.int _) sr (h (by rw [b.length]; exact z))⟩
  · cases d <;> exact False.elim h
theorem cd_list : CallR X (.type "list") (liftC X.K C dList) := by
  rintro pins s σ H vs us Q I rv ⟨ds, S, Qd, rs, sr, h, c⟩
  rcases ds with _ | ⟨d, _ | ⟨d2, ds⟩⟩
  · exact False.elim h
  · obtain ⟨v, rfl, r⟩ := one_of rfl rs
    cases d <;> first | exact False.elim h | skip
    · cases r
      obtain ⟨xs, h1, h2⟩ := h
      obtain ⟨ys, q1, q2, q3⟩ := sr.ob _ _ h1
      exact CallRfz call_list_of pins s σ H _ us Q I rv ⟨_, _, rfl, .inl (.inl (.inl q1)), fun l hl => c.newZ hl q2 q3 sr h2⟩
    · cases r with
      | tup a b z => exact CallRfz call_list_of pins s σ H _ us Q I rv ⟨_, _, rfl, .inr a, fun l hl => c.newZ hl b z sr h⟩
    · cases r with
      | lst a b z => exact CallRfz call_list_of pins s σ H _ us Q I rv ⟨_, _, rfl, .inl (.inl (.inr ⟨_, a⟩)), fun l hl => c.newZ hl b z sr h⟩
  · cases d <;> exact False.elim h
theorem cd_listL : CallR X (.type "list") (liftC X.K C dListL) := by
  rintro pins s σ H vs us Q I rv ⟨ds, S, Qd, rs, sr, h, c⟩
  rcases ds with _ | ⟨d, _ | ⟨d2, ds⟩⟩
  · exact False.elim h
  · obtain ⟨v, rfl, r⟩ := one_of rfl rs
    cases d <;> first | exact False.elim h | skip
    · cases r
      obtain ⟨xs, h1, h2⟩ := h
      obtain ⟨ys, q1, q2, q3⟩ := sr.ob _ _ h1
      exact call_list_of pins s σ H _ us Q I rv ⟨_, _, rfl, .inl (.inl (.inl q1)), fun l hl => c.newL hl q2 q3 sr (h2 l (sr.none hl))⟩
    · cases r with
      | tup a b z => exact call_list_of pins s σ H _ us Q I rv ⟨_, _, rfl, .inr a, fun l hl => c.newL hl b z sr (h l (sr.none hl))⟩
    · cases r with
      | lst a b z => exact call_list_of pins s σ H _ us Q I rv ⟨_, _, rfl, .inl (.inl (.inr ⟨_, a⟩)), fun l hl => c.newL hl b z sr (h l (sr.none hl))⟩
  · cases d <;> exact False.elim h
theorem cd_tuple : CallR X (.type "tuple") (liftC X.K C dTuple) := by
  rintro pins s σ H vs us Q I rv ⟨ds, S, Qd, rs, sr, h, c⟩
  rcases ds with _ | ⟨d, _ | ⟨d2, ds⟩⟩
  · exact False.elim h
  · obtain ⟨v, rfl, r⟩ := one_of rfl rs
    cases d <;> first | exact False.elim h | skip
    · cases r
      obtain ⟨xs, h1, h2⟩ := h
      obtain ⟨ys, q1, q2, q3⟩ := sr.ob _ _ h1
      exact call_tuple_of pins s σ H _ us Q I rv ⟨_, _, rfl, .inl ⟨.inl (.inl q1), fun l hl => c.tup hl q2 q3 sr h2⟩⟩
    · cases r with
      | tup a b z => exact call_tuple_of pins s σ H _ us Q I rv ⟨_, _, rfl, .inr ⟨a, c.now (.tup a b z) sr h⟩⟩
    · cases r with
      | lst a b z => exact call_tuple_of pins s σ H _ us Q I rv ⟨_, _, rfl, .inl ⟨.inl (.inr ⟨_, a⟩), fun l hl => c.tup hl b z sr h⟩⟩
  · cases d <;> exact False.elim h
theorem cd_all (hc : X.calm = true) : CallR X (.builtin "all") (liftC X.K C dAll) := by
  rintro pins s σ H vs us Q I rv ⟨ds, S, Qd, rs, sr, h, c⟩
  rcases ds with _ | ⟨d, _ | ⟨d2, ds⟩⟩
  · exact False.elim h
  · obtain ⟨v, rfl, r⟩ := one_of rfl rs
    cases d <;> first | exact False.elim h | skip
    cases r with
    | lst a b z =>
      obtain ⟨ns, e, h⟩ := h
      subst e
      have e2 := b.bls
      subst e2
      exact cr_all hc pins s σ H _ us Q I rv ⟨_, ns, rfl, .inl (.inr ⟨_, a⟩), c.now (.bl _) sr h⟩
  · cases d <;> exact False.elim h
theorem cd_any (hc : X.calm = true) : CallR X (.builtin "any") (liftC X.K C dAny) := by
  rintro pins s σ H vs us Q I rv ⟨ds, S, Qd, rs, sr, h, c⟩
  rcases ds with _ | ⟨d, _ | ⟨d2, ds⟩⟩
  · exact False.elim h
  · obtain ⟨v, rfl, r⟩ := one_of rfl rs
    cases d <;> first | exact False.elim h | skip
    cases r with
    | lst a b z =>
      obtain ⟨ns, e, h⟩ := h
      subst e
      have e2 := b.bls
      subst e2
      exact cr_any hc pins s σ H _ us Q I rv ⟨_, ns, rfl, .inl (.inr ⟨_, a⟩), c.now (.bl _) sr h⟩
  · cases d <;> exact False.elim h
end
/-! isinstance of data and built-in classes -/
def tyN : D → String
  | .non => "NoneType"
  | .bl _ => "bool"
  | .int _ => "int"
  | .str _ => "str"
  | .tup _ => "tuple"
  | .lst _ => "list"
  | _ => ""
def isT (d : D) (n : String) : Bool := tyN d == n || (n == "int" && tyN d == "bool")
def isData : D → Bool
  | .ty _ => false
  | .ref _ => false
  | .clk _ _ => false
  | .scr _ => false
  | .fn _ _ _ _ => false
  | .dct _ _ => false
  | _ => true
/-- the names of built-in classes -/
def tyNs : List D → Option (List String)
  | [] => some []
  | .ty n :: ds => (tyNs ds).map (n :: ·)
  | _ => none
def okT (n : String) : Bool := n == "list" || n == "tuple" || n == "int" || n == "bool" || n == "str"
def dIsi : RCD := fun ds S Q => match ds with
  | [d, c] => match c with
    | .ty n => (isData d = true ∧ okT n = true) ∧ Q (.bl (isT d n)) S
    | .tup cs => ∃ ns, (isData d = true ∧ tyNs cs = some ns ∧ ns.all okT = true) ∧ Q (.bl (ns.any (isT d))) S
    | _ => False
  | _ => False
theorem tyX_of {K : PySem.W.Frag} {C : Cf} {H : Hp} {d : D} {v : V} (h : isData d = true) (r : DR K C H d v) : TyX K H v (.type (tyN d)) := by
  cases r with
  | non => exact .base .non
  | bl b => exact .base (.bl b)
  | int i => exact .base (.int i)
  | str x => exact .base (.str x)
  | tup a b z =>
    rcases a with (a | ⟨o, a⟩) | ⟨o, its, n, k1, k2, _⟩
    · exact .base (.tup a)
    · exact .fTuple a
    · exact .kTuple k1 k2
  | lst a b z => exact .base (.frz a)
  | _ => cases h
theorem kit_isT {K : PySem.W.Frag} {d : D} {n : String} (h : isData d = true) (hn : okT n = true) : PySem.W.kitOne K (.type (tyN d)) (.type n) = some (isT d n) := by
  have key : kitB (tyN d) n = some (isT d n) := by
    have hn' : n = "list" ∨ n = "tuple" ∨ n = "int" ∨ n = "bool" ∨ n = "str" := by simpa [okT, or_assoc] using hn
    have k1 : ∀ m, m = "NoneType" ∨ m = "bool" ∨ m = "int" ∨ m = "str" ∨ m = "tuple" ∨ m = "list" → kitB m n = some (m == n || (n == "int" && m == "bool")) := by
      intro m hm
      rcases hm with rfl | rfl | rfl | rfl | rfl | rfl <;> rcases hn' with rfl | rfl | rfl | rfl | rfl <;> decide +kernel
    refine k1 (tyN d) ?_
    cases d <;> first | (cases h; done) | simp [tyN]
  exact kit_ty key
theorem kitAny_isT {K : PySem.W.Frag} {d : D} (h : isData d = true) : ∀ {ns : List String}, ns.all okT = true → PySem.W.kitAny K (.type (tyN d)) (ns.map Value.type) = some (ns.any (isT d))
  | [], _ => kitAny_nil
  | n :: ns, hn => by
    rw [List.all_cons, Bool.and_eq_true] at hn
    rw [List.map_cons, List.any_cons]
    refine kitAny_cons (kit_isT h hn.1) (fun e => ?_) fun e => by rw [e, Bool.true_or]
    rw [e, Bool.false_or]
    exact kitAny_isT h hn.2
theorem tyNs_vals {K : PySem.W.Frag} {C : Cf} {H : Hp} : ∀ {cs : List D} {vs : List V} {ns : List String}, tyNs cs = some ns → DRs K C H cs vs → vs = ns.map V.ty
  | [], vs, ns, e, r => by
    cases r
    cases e
    rfl
  | c :: cs, vs, ns, e, r => by
    cases c <;> first | (cases e; done) | skip
    rename_i n
    cases e2 : tyNs cs with
    | none => simp [tyNs, e2] at e
    | some ms =>
      have : ns = n :: ms := by simpa [tyNs, e2] using e.symm
      subst this
      cases r with
      | cons r t =>
        cases r
        rw [tyNs_vals e2 t]
        rfl
theorem vals_tys : ∀ {ns : List String} {us : List Value}, Vals (ns.map V.ty) us → us = ns.map Value.type
  | [], us, h => by cases h; rfl
  | n :: ns, us, h => by
    cases h with
    | cons r t =>
      rw [vals_tys t]
      cases r
      rfl
theorem cd_isi {C : Cf} {X : Cx} : CallR X (.builtin "isinstance") (liftC X.K C dIsi) := by
  rintro pins s σ H vs us Q I rv ⟨ds, S, Qd, rs, sr, h, c⟩
  rcases ds with _ | ⟨d, _ | ⟨d2, _ | ⟨d3, ds⟩⟩⟩
  · exact False.elim h
  · exact False.elim h
  · obtain ⟨v, v2, rfl, r, r2⟩ := two_of rfl rs
    cases d2 <;> first | exact False.elim h | skip
    · cases r2
      exact call_isi pins s σ H _ us Q I rv ⟨_, _, _, _, _, rfl, .ty _, tyX_of h.1.1 r, kit_isT h.1.1 h.1.2, c.now (.bl _) sr h.2⟩
    · obtain ⟨ns, ⟨h1, h2, h3⟩, h⟩ := h
      cases r2 with
      | tup a b z =>
        have e := tyNs_vals h2 b
        subst e
        obtain ⟨u1, u2, rfl, q1, q2⟩ := vals2 rv
        cases (show u2 = Value.ref _ from q2)
        obtain ⟨P, Z, hP, hx⟩ := kit_of I q1 (tyX_of h1 r)
        obtain ⟨its, vv, ⟨⟨oc, od, dt, sl⟩, g1, g2, n, g3⟩, _⟩ := I.tuple a
        simp only at g2 g3
        subst g2 g3
        have e := vals_tys vv
        subst e
        exact PySem.W.kia_tup Z I.kIn hP g1 (kitAny_isT h1 h3) hx fun tk => ⟨.bl _, H, I.tok tk, rfl, c.now (.bl _) sr h⟩
  · exact False.elim h
/-! ### subscripts -/
def dIx : R2D := fun x y S Q => match x, y with
  | .tup ds, .int i => ∃ d, atI ds i = some d ∧ Q d S
  | .lst ds, .int i => ∃ d, atI ds i = some d ∧ Q d S
  | .ref p, .int i => ∃ ds, S p = some (.lst ds) ∧ ∃ d, atI ds i = some d ∧ Q d S
  | .str z, .int i => z.length ≤ sizeLine ∧ ∃ c, atI z.cps.toList i = some c ∧ Q (.str ⟨#[c]⟩) S
  | _, _ => False
theorem DRs.atI {K : PySem.W.Frag} {C : Cf} {H : Hp} {ds : List D} {vs : List V} {i : Int} {d : D} (r : DRs K C H ds vs) (h : L2.atI ds i = some d) : ∃ v, L2.atI vs i = some v ∧ DR K C H d v := by
  unfold L2.atI at h ⊢
  rw [r.length] at h
  cases e : ixN vs.length i with
  | none => rw [e] at h; cases h
  | some j =>
    rw [e] at h
    exact r.get h
section
variable {C : Cf} {B : Hp} {X : Cx} {pos : Pos} {a b : Expr} {wa wb : RL.WE}
theorem xd_ix : IxR X (lift2 X.K C dIx) := by
  rintro value slice pins s σ H x y v u Q I rx ry ⟨dx, dy, S, Qd, r1, r2, sr, h, c⟩ hp
  cases dx <;> cases dy <;> first | exact False.elim h | skip
  · cases r1; cases r2
    obtain ⟨h1, ch, h2, h3⟩ := h
    exact ix_str value slice pins s σ H _ _ v u Q I rx ry ⟨_, _, ch, rfl, rfl, h1, h2, c.now (.str _) sr h3⟩ hp
  · cases r1; cases r2
    obtain ⟨ds, h1, d, h2, h3⟩ := h
    obtain ⟨xs, q1, q2, q3⟩ := sr.ob _ _ h1
    obtain ⟨w, w1, w2⟩ := q2.atI h2
    exact ix_list value slice pins s σ H _ _ v u Q I rx ry ⟨_, _, _, w, rfl, rfl, .inl (.inl q1), w1, c.now w2 sr h3⟩ hp
  · cases r2
    cases r1 with
    | tup a b z =>
      obtain ⟨d, h2, h3⟩ := h
      obtain ⟨w, w1, w2⟩ := b.atI h2
      exact ix_tup value slice pins s σ H _ _ v u Q I rx ry ⟨_, _, _, w, rfl, rfl, a, w1, c.now w2 sr h3⟩ hp
  · cases r2
    cases r1 with
    | lst a b z =>
      obtain ⟨d, h2, h3⟩ := h
      obtain ⟨w, w1, w2⟩ := b.atI h2
      exact ix_list value slice pins s σ H _ _ v u Q I rx ry ⟨_, _, _, w, rfl, rfl, .inl (.inr ⟨_, a⟩), w1, c.now w2 sr h3⟩ hp
theorem de_ix (ha : DE C B X a wa) (hb : DE C B X b wb) (hs : PlainIx b := by exact fun _ _ => rfl) : DE C B X (.Subscript a b pos) (wBin dIx wa wb) :=
  ⟨PEimp (pe_ix xd_ix ha.pe hb.pe hs) fun _ _ _ h => lift_bin h⟩
end
/-! ### slices -/
abbrev WO := EV → Sto → (Option Int → Sto → Prop) → Prop
def liftO (K : PySem.W.Frag) (C : Cf) (B : Hp) (w : WO) : TO := fun σ H Q => ∃ E S Qd, Stt K C B E S σ H ∧ w E S Qd ∧ ∀ o S' H', Ext C H H' → SR K C S' H' → Qd o S' → Q o H'
structure DOp (C : Cf) (B : Hp) (X : Cx) (e : Option Expr) (w : WO) : Prop where
  po : PO X e (liftO X.K C B w)
def wNoPart : WO := fun _ S Q => Q none S
def wPart (w : RL.WE) : WO := fun E S Q => w E S fun d S1 => match d with
  | .int i => Q (some i) S1
  | _ => False
def cutD (ds : List D) (lo hi : Option Int) : List D := (ds.drop (HT.sIx ds.length 0 lo)).take (HT.sIx ds.length ds.length hi - HT.sIx ds.length 0 lo)
theorem DRs.cut {K : PySem.W.Frag} {C : Cf} {H : Hp} {ds : List D} {vs : List V} (r : DRs K C H ds vs) (lo hi : Option Int) : DRs K C H (cutD ds lo hi) (cutV vs lo hi) := by
  unfold cutD cutV
  rw [r.length]
  exact (r.drop _).take _
def dSl : D → Option Int → Option Int → Sto → KD → Prop := fun x lo hi S Q => match x with
  | .tup ds => Q (.tup (cutD ds lo hi)) S
  | .lst ds => Q (.lst (cutD ds lo hi)) S
  | .ref p => ∃ ds, S p = some (.lst ds) ∧ Q (.lst (cutD ds lo hi)) S
  | .str z => z.length ≤ sizeLine ∧ Q (.str (cutS z lo hi)) S
  | .scr ds => Q (.lst (cutD ds lo hi)) S
  | _ => False
def liftSl (K : PySem.W.Frag) (C : Cf) (r : D → Option Int → Option Int → Sto → KD → Prop) : V → Option Int → Option Int → Hp → VK → Prop := fun x lo hi H Q => ∃ dx S Qd, DR K C H dx x ∧ SR K C S H ∧ r dx lo hi S Qd ∧ Cl K C H Qd Q
theorem SlRfz {X : Cx} {r : V → Option Int → Option Int → Hp → VK → Prop} (p : SlR X r) : SlR X (fun x lo hi H Q => r x lo hi H (fzK Q)) := fun pins s σ H x v vl vu lo hi sl Q I a b c d q => by
  obtain ⟨T, id, h1, h2, h3⟩ := p pins s σ H x v vl vu lo hi sl _ I a b c d q
  exact ⟨T, id, h1, h2, thn h3 fun _ _ => ep_fz⟩
section
variable {C : Cf} {B : Hp} {X : Cx} {pos p2 : Pos} {e : Expr} {we : RL.WE} {lo hi : Option Expr} {wl wh : WO}
theorem do_none : DOp C B X none wNoPart := ⟨⟨fun pins s σ H Q I ⟨E, S, Qd, st, h, c⟩ => po_none.run pins s σ H Q I (c _ _ _ (Ext.refl C H) st.sr h)⟩⟩
theorem do_some (h : DE C B X e we) : DOp C B X (some e) (wPart we) := ⟨⟨fun pins s σ H Q I ⟨E, S, Qd, st, q, c⟩ => (po_some h.pe).run pins s σ H Q I ⟨E, S, _, st, q, fun d S1 v H1 e1 r1 s1 h1 => by
  cases d <;> first | exact False.elim h1 | skip
  cases r1
  exact ⟨_, rfl, c _ _ _ e1 s1 h1⟩⟩⟩⟩
theorem sd_sl : SlR X (liftSl X.K C dSl) := by
  rintro pins s σ H x v vl vu lo hi sl Q I rx i1 i2 i3 ⟨dx, S, Qd, r1, sr, h, c⟩
  cases dx <;> first | exact False.elim h | skip
  · cases r1
    exact sl_str pins s σ H _ v vl vu lo hi sl Q I rx i1 i2 i3 ⟨_, rfl, h.1, c.now (.str _) sr h.2⟩
  · cases r1
    obtain ⟨ds, h1, h2⟩ := h
    obtain ⟨xs, q1, q2, q3⟩ := sr.ob _ _ h1
    exact SlRfz sl_list pins s σ H _ v vl vu lo hi sl Q I rx i1 i2 i3 ⟨_, xs, rfl, .inl (.inl q1), fun p hp => c.newZ hp (q2.cut lo hi) (Nat.le_trans (cutV_length _ _ _) q3) sr h2⟩
  · cases r1 with
    | tup a b z =>
      rename_i ds ad xs
      refine sl_tupA pins s σ H _ v vl vu lo hi sl Q I rx i1 i2 i3 ⟨_, xs, rfl, a, fun e => ?_, fun _ p hp => c.tup hp (b.cut lo hi) (Nat.le_trans (cutV_length _ _ _) z) sr h⟩
      have : cutD ds lo hi = ds := by
        unfold cutD
        rw [b.length, e.1, e.2, List.drop_zero, Nat.sub_zero, List.take_of_length_le (by rw [b.length]; exact Nat.le_refl _)]
      have h : Qd (.tup (cutD ds lo hi)) S := h
      rw [this] at h
      exact c.now (.tup a b z) sr h
  · cases r1 with
    | lst a b z => exact SlRfz sl_list pins s σ H _ v vl vu lo hi sl Q I rx i1 i2 i3 ⟨_, _, rfl, .inl (.inr ⟨_, a⟩), fun p hp => c.newZ hp (b.cut lo hi) (Nat.le_trans (cutV_length _ _ _) z) sr h⟩
  · cases r1 with
    | scr a b =>
      obtain ⟨_, _, _, z⟩ := I.list a.sq
      exact SlRfz sl_list pins s σ H _ v vl vu lo hi sl Q I rx i1 i2 i3 ⟨_, _, rfl, a.sq, fun p hp => c.newZ hp (b.cut lo hi) (Nat.le_trans (cutV_length _ _ _) z) sr h⟩
def wSl (a : RL.WE) (l u : WO) : RL.WE := fun E S Q => a E S fun x S1 => l E S1 fun lo S2 => u E S2 fun hi S3 => dSl x lo hi S3 Q
theorem de_slice (he : DE C B X e we) (hl : DOp C B X lo wl) (hu : DOp C B X hi wh) : DE C B X (.Subscript e (.Slice lo hi none p2) pos) (wSl we wl wh) :=
  ⟨PEimp (pe_slice sd_sl he.pe hl.po hu.po) fun σ H Q ⟨E, S, Qd, st, h, c⟩ => ⟨E, S, _, st, h, fun x S1 v H1 e1 r1 s1 h1 => ⟨E, S1, _, st.ext e1 s1, h1, fun l S2 H2 e2 s2 h2 => ⟨E, S2, _, st.ext (e1.trans e2) s2, h2, fun u S3 H3 e3 s3 h3 => ⟨x, S3, Qd, (r1.ext e2).ext e3, s3, h3, ((c.mono e1).mono e2).mono e3⟩⟩⟩⟩⟩
/-- xs[::-1] of a list -/
def wRev (a : RL.WE) : RL.WE := fun E S Q => a E S fun x S1 => match x with
  | .lst ds => Q (.lst ds.reverse) S1
  | .ref p => ∃ ds, S1 p = some (.lst ds) ∧ Q (.lst ds.reverse) S1
  | _ => False
end
/-! ### defs and their promises by content -/
/-- an exception: its class, its fields -/
structure Xn where
  cls : Addr
  fs : List (Str × D)
abbrev DSp := List D → Sto → KD → (Xn → Sto → Prop) → Prop
def XR (K : PySem.W.Frag) (C : Cf) (H : Hp) (xn : Xn) (dd : Addr) : Prop := ∃ vs, H dd = some (.xd vs) ∧ RelF K C H xn.fs vs
def liftSp (K : PySem.W.Frag) (C : Cf) (sp : DSp) : Sp := fun vs H Q Ex => ∃ ds S Qd Xd, DRs K C H ds vs ∧ SR K C S H ∧ sp ds S Qd Xd ∧ Cl K C H Qd Q ∧
  ∀ xn S' dd H', Ext C H H' → SR K C S' H' → XR K C H' xn dd → Xd xn S' → Ex (.ref xn.cls) (some dd) H'
abbrev DOk (P : Program) (w : World) (K : PySem.W.Frag) (mg : Str → Option Value) (base : Heap) (C : Cf) (k : Nat) (f : Addr) (fd : FuncData) (ps : List Str) (sp : DSp) : Prop := FnOk P w K mg base (L2N.CX P w) k f fd ps (liftSp K C sp)
/-- what is wanted, in a context, of an exception that leaves an expression -/
structure DX (C : Cf) (B : Hp) (X : Cx) (Xd : Xn → EV → Sto → Prop) : Prop where
  ex : ∃ W : WX, L2N.Takes X W ∧ ∀ xn E S σ H dd, Stt X.K C B E S σ H → XR X.K C H xn dd → Xd xn E S → W (.ref xn.cls) (some dd) σ H
def noX : Xn → EV → Sto → Prop := fun _ _ _ => False
theorem takes0N {X : Cx} : L2N.Takes X (fun _ _ _ _ => False) := fun _ _ x => by
  obtain ⟨_, _, _, _, _, _, _, _, _, _, _, _, _, _, _, _, z⟩ := x
  exact z.elim
theorem dx0 {C : Cf} {B : Hp} {X : Cx} : DX C B X noX := ⟨_, takes0N, fun _ _ _ _ _ _ _ _ h => h⟩
section
variable {C : Cf} {B : Hp} {X : Cx} {k : Nat} {f : Addr} {fd : FuncData} {ps : List Str} {sp : DSp} {dvs : List D} {vvs : List V} {dus : List Value} {x : Str} {p pos : Pos} {e : Expr} {es : List Expr} {wa : WA} {Xd : Xn → EV → Sto → Prop}
def wCall (sp : DSp) (dvs : List D) (Xd : Xn → EV → Sto → Prop) (w : WA) : RL.WE := fun E S Q => w E S fun ds S1 => sp (ds ++ dvs) S1 Q fun xn S2 => Xd xn E S2
theorem de_call (F : DOk X.prog X.w X.K X.mg X.base C k f fd ps sp) (hr : Room k X.A) (hm : X.mg x = some (.ref f)) (hk : PySem.W.keepIn X.K (.ref f) = true) (hb : Binds X.K fd ps dus) (hd : Vals vvs dus) (hv : ∀ H, DRs X.K C H dvs vvs) (dx : DX C B X Xd) (ha : DA C B X (e :: es) wa) (hg : Gl X x := by rfl)
    (hdb : (x == ("__debug__" : Str)) = false := by decide) (he : starEach (e :: es) X.env = (false, eval e X.env) :: starEach es X.env := by rfl) (hpl : (backTo pos (starEach es X.env)).any (·.1) = false := by rfl) :
    DE C B X (.Call (.Name x p) (e :: es) [] pos) (wCall sp dvs Xd wa) := by
  obtain ⟨W, tk, hW⟩ := dx.ex
  refine ⟨PEimp (pe_callSD (E := L2.WE W) F hr hg hm hk hb hd (fun σ => L2N.passAt tk σ) ha.pa hdb he hpl) fun σ H Q ⟨E, S, Qd, st, h, c⟩ => ⟨E, S, _, st, h, fun ds S1 vs H1 e1 r1 s1 h1 => ?_⟩⟩
  refine ⟨ds ++ dvs, S1, Qd, _, r1.app (hv H1), s1, h1, c.mono e1, fun xn S' dd H' e2 s2 x2 q2 => ?_⟩
  exact hW xn E S' σ H' dd (st.ext (e1.trans e2) s2) x2 q2
end
/-- the store knows no less -/
def Sto.Le (S S' : Sto) : Prop := ∀ b o, S b = some o → S' b = some o
theorem Sto.Le.refl (S : Sto) : S.Le S := fun _ _ h => h
theorem Sto.Le.trans {S S1 S2 : Sto} (a : S.Le S1) (b : S1.Le S2) : S.Le S2 := fun p o h => b p o (a p o h)
theorem Sto.le_put {S : Sto} {p : Addr} {o : DO} (h : S p = none) : S.Le (S.put p o) := fun b u q => by
  rw [Sto.put_ne (fun z => by rw [z, h] at q; cases q)]
  exact q
/-- a wish that holds of a store that knows no more -/
def UpK (Q : KD) : KD := fun d S' => ∃ S, S.Le S' ∧ Q d S
def UpX (Q : Xn → Sto → Prop) : Xn → Sto → Prop := fun d S' => ∃ S, S.Le S' ∧ Q d S
theorem UpK.now {Q : KD} {d : D} {S : Sto} (h : Q d S) : UpK Q d S := ⟨S, Sto.Le.refl S, h⟩
theorem UpK.of {Q : KD} {d : D} {S S' : Sto} (l : S.Le S') (h : Q d S) : UpK Q d S' := ⟨S, l, h⟩
theorem Cl.up {K : PySem.W.Frag} {C : Cf} {H : Hp} {Qd : KD} {Q : VK} (c : Cl K C H Qd Q) : Cl K C H (UpK Qd) Q := fun d S' v H' e r sr ⟨S, l, q⟩ => c d S v H' e r (sr.sub l) q
def startD (n : Nat) (ds : List D) : EV := ds.map some ++ List.replicate (n - ds.length) none
theorem start_rel {K : PySem.W.Frag} {C : Cf} {S : Sto} {H : Hp} {N : List Str} {ds : List D} {vs : List V} (r : DRs K C H ds vs) (sr : SR K C S H) : Stt K C H (startD N.length ds) S (L2.start N vs) H := by
  refine ⟨Ext.refl C H, ?_, fun i d h => ?_, sr⟩
  · unfold startD L2.start
    rw [List.length_append, List.length_append, List.length_map, List.length_map, List.length_replicate, List.length_replicate, r.length]
  · unfold startD at h
    unfold L2.start
    by_cases hi : i < ds.length
    · rw [List.getElem?_append_left (by rw [List.length_map]; exact hi), List.getElem?_map] at h
      rw [List.getElem?_append_left (by rw [List.length_map, ← r.length]; exact hi), List.getElem?_map]
      cases e : ds[i]? with
      | none => rw [e] at h; cases h
      | some d' =>
        rw [e] at h
        have e3 : d' = d := by simpa using h
        subst e3
        obtain ⟨v, h1, h2⟩ := r.get e
        exact ⟨v, by rw [h1]; rfl, h2⟩
    · rw [List.getElem?_append_right (by rw [List.length_map]; omega)] at h
      rw [List.getElem?_replicate] at h
      split at h <;> cases h
theorem okXN {P : Program} {w : World} {K : PySem.W.Frag} {mg : Str → Option Value} {base : Heap} {x qual : Str} {st : Stmt} {f : Addr} {fd : FuncData} {N ps : List Str} {k : Nat} {sp : Sp} (F : Fun K x qual st f fd) (S : FnScope N ps (defScope st)) (len : ∀ vs H Q E, sp vs H Q E → vs.length = ps.length)
    (hbody : ∀ (cdv : Value) (A : Around) (outer : List Env) (s : Shared) (H : Hp) (vs : List V) (Q : VK) (E : XK), Room k (A.deeper (envOfC qual (defScope st) s.heap.objs.size f cdv)) → sp vs H Q E →
      ∃ t, PSs (cxOf (L2N.CX P w) P w K mg base N qual (defScope st) f cdv A outer s H E) (defBody st) t ∧ t { nx := fun _ H' => Q .non H', rt := Q } (L2.start N vs) H) : FnOk P w K mg base (L2N.CX P w) (k + 1) f fd ps sp := by
  obtain ⟨oc, od, kV, doc, pm, an, cdv, ct, osl, rfl, lk, hcd⟩ := F.ex
  exact fn_of lk hcd S len fun A outer s H vs Q E hr hsp => hbody cdv A outer s H vs Q E hr hsp
/-- THE RULE for a def, by content -/
theorem dok_of {P : Program} {w : World} {K : PySem.W.Frag} {mg : Str → Option Value} {base : Heap} {C : Cf} {x qual : Str} {st : Stmt} {f : Addr} {fd : FuncData} {N ps : List Str} {k : Nat} {sp : DSp} (F : Fun K x qual st f fd) (S : FnScope N ps (defScope st)) (len : ∀ ds S Q Xd, sp ds S Q Xd → ds.length = ps.length)
    (hbody : ∀ (cdv : Value) (A : Around) (outer : List Env) (s : Shared) (B : Hp) (Ex : XK) (ds : List D) (S : Sto) (Q : KD) (Xd : Xn → Sto → Prop), Room k (A.deeper (envOfC qual (defScope st) s.heap.objs.size f cdv)) →
      DX C B (cxOf (L2N.CX P w) P w K mg base N qual (defScope st) f cdv A outer s B Ex) (fun xn _ S' => UpX Xd xn S') → sp ds S Q Xd →
      ∃ t, DSs C B (cxOf (L2N.CX P w) P w K mg base N qual (defScope st) f cdv A outer s B Ex) (defBody st) t ∧ t { nx := fun _ S' => UpK Q .non S', rt := UpK Q } (startD N.length ds) S) : DOk P w K mg base C (k + 1) f fd ps sp := by
  refine okXN F S (fun vs H Q E h => ?_) (fun cdv A outer s H vs Q Ex hr h => ?_)
  · obtain ⟨ds, S', Qd, Xd, r, sr, h, _⟩ := h
    rw [← r.length]
    exact len _ _ _ _ h
  · obtain ⟨ds, S', Qd, Xd, r, sr, h, c, cx⟩ := h
    have dx : DX C H (cxOf (L2N.CX P w) P w K mg base N qual (defScope st) f cdv A outer s H Ex) (fun xn _ S' => UpX Xd xn S') :=
      ⟨_, L2N.takes_of rfl rfl rfl rfl, fun xn E S2 σ H2 dd st2 xr ⟨S3, l, q⟩ => cx xn S3 dd H2 st2.base (st2.sr.sub l) xr q⟩
    obtain ⟨t, ht, hq⟩ := hbody cdv A outer s H Ex ds S' Qd Xd hr dx h
    refine ⟨_, ht.pss, _, S', _, start_rel r sr, hq, ⟨fun E S2 σ H2 e2 st2 q => c.up _ _ _ _ e2 .non st2.sr q, c.up, fun _ _ _ _ _ _ q => q, fun _ _ _ _ _ _ q => q⟩⟩
/-- a def as its callers want it -/
structure Df (P : Program) (w : World) (K : PySem.W.Frag) (mg : Str → Option Value) (base : Heap) (C : Cf) (x : Str) (k : Nat) (ps : List Str) (sp : DSp) : Prop where
  ex : ∃ (f : Addr) (fd : FuncData), DOk P w K mg base C k f fd ps sp ∧ mg x = some (.ref f) ∧ PySem.W.keepIn K (.ref f) = true ∧ Binds K fd ps []
theorem de_callD {C : Cf} {B : Hp} {X : Cx} {k : Nat} {ps : List Str} {sp : DSp} {x : Str} {p pos : Pos} {e : Expr} {es : List Expr} {wa : WA} {Xd : Xn → EV → Sto → Prop} (d : Df X.prog X.w X.K X.mg X.base C x k ps sp) (hr : Room k X.A) (dx : DX C B X Xd) (ha : DA C B X (e :: es) wa) (hg : Gl X x := by rfl)
    (hdb : (x == ("__debug__" : Str)) = false := by decide) (he : starEach (e :: es) X.env = (false, eval e X.env) :: starEach es X.env := by rfl) (hpl : (backTo pos (starEach es X.env)).any (·.1) = false := by rfl) :
    DE C B X (.Call (.Name x p) (e :: es) [] pos) (wCall sp [] Xd wa) := by
  obtain ⟨f, fd, F, hm, hk, hb⟩ := d.ex
  exact de_call F hr hm hk hb (vvs := []) .nil (fun _ => .nil) dx ha hg hdb he hpl
end RL
namespace RL
open PySem PySem.Spec PyProof.Rows
open L2 hiding WE
/-! ### equality of plain contents -/
mutual
/-- plain: None, ints, texts, tuples and lists of such (no True, no False: these are equal to ints) -/
def nb : D → Bool
  | .non => true
  | .int _ => true
  | .str _ => true
  | .tup ds => nbs ds
  | .lst ds => nbs ds
  | _ => false
def nbs : List D → Bool
  | [] => true
  | d :: ds => nb d && nbs ds
end
mutual
theorem pur_of_nb : ∀ d : D, nb d = true → pur d = true
  | .non, _ => rfl
  | .int _, _ => rfl
  | .str _, _ => rfl
  | .tup ds, h => by rw [pur]; exact purs_of_nbs ds (by simpa [nb] using h)
  | .lst ds, h => by rw [pur]; exact purs_of_nbs ds (by simpa [nb] using h)
  | .bl _, h => by simp [nb] at h
  | .ty _, h => by simp [nb] at h
  | .ref _, h => by simp [nb] at h
  | .clk _ _, h => by simp [nb] at h
  | .scr _, h => by simp [nb] at h
  | .fn _ _ _ _, h => by simp [nb] at h
  | .dct _ _, h => by simp [nb] at h
theorem purs_of_nbs : ∀ ds : List D, nbs ds = true → purs ds = true
  | [], _ => rfl
  | d :: ds, h => by
    rw [nbs, Bool.and_eq_true] at h
    rw [purs, Bool.and_eq_true]
    exact ⟨pur_of_nb d h.1, purs_of_nbs ds h.2⟩
end
mutual
theorem eqv_refl : ∀ d : D, nb d = true → PyData.eqv (toPy d) (toPy d) = true
  | .non, _ => rfl
  | .int _, _ => by simp [toPy, PyData.eqv]
  | .str _, _ => by simp [toPy, PyData.eqv]
  | .tup ds, h => by rw [toPy, PyData.eqv]; exact eqvs_refl ds (by simpa [nb] using h)
  | .lst ds, h => by rw [toPy, PyData.eqv]; exact eqvs_refl ds (by simpa [nb] using h)
  | .bl _, h => by simp [nb] at h
  | .ty _, h => by simp [nb] at h
  | .ref _, h => by simp [nb] at h
  | .clk _ _, h => by simp [nb] at h
  | .scr _, h => by simp [nb] at h
  | .fn _ _ _ _, h => by simp [nb] at h
  | .dct _ _, h => by simp [nb] at h
theorem eqvs_refl : ∀ ds : List D, nbs ds = true → PyData.eqvAll (toPys ds) (toPys ds) = true
  | [], _ => rfl
  | d :: ds, h => by
    rw [nbs, Bool.and_eq_true] at h
    rw [toPys, PyData.eqvAll, Bool.and_eq_true]
    exact ⟨eqv_refl d h.1, eqvs_refl ds h.2⟩
end
mutual
theorem eqv_eq : ∀ d e : D, nb d = true → nb e = true → PyData.eqv (toPy d) (toPy e) = true → d = e
  | .non, e, _, h2, h => by
    cases e <;> first | rfl | (simp [nb] at h2; done) | (simp [toPy, PyData.eqv] at h; done)
  | .int _, e, _, h2, h => by
    cases e <;> first | (simp [nb] at h2; done) | (simp [toPy, PyData.eqv] at h; done) | skip
    simp [toPy, PyData.eqv] at h
    rw [h]
  | .str _, e, _, h2, h => by
    cases e <;> first | (simp [nb] at h2; done) | (simp [toPy, PyData.eqv] at h; done) | skip
    simp [toPy, PyData.eqv] at h
    rw [h]
  | .tup ds, e, h1, h2, h => by
    cases e <;> first | (simp [nb] at h2; done) | (simp [toPy, PyData.eqv] at h; done) | skip
    rename_i es
    rw [toPy, toPy, PyData.eqv] at h
    rw [eqvs_eq ds es (by simpa [nb] using h1) (by simpa [nb] using h2) h]
  | .lst ds, e, h1, h2, h => by
    cases e <;> first | (simp [nb] at h2; done) | (simp [toPy, PyData.eqv] at h; done) | skip
    rename_i es
    rw [toPy, toPy, PyData.eqv] at h
    rw [eqvs_eq ds es (by simpa [nb] using h1) (by simpa [nb] using h2) h]
  | .bl _, _, h, _, _ => by simp [nb] at h
  | .ty _, _, h, _, _ => by simp [nb] at h
  | .ref _, _, h, _, _ => by simp [nb] at h
  | .clk _ _, _, h, _, _ => by simp [nb] at h
  | .scr _, _, h, _, _ => by simp [nb] at h
  | .fn _ _ _ _, _, h, _, _ => by simp [nb] at h
  | .dct _ _, _, h, _, _ => by simp [nb] at h
theorem eqvs_eq : ∀ ds es : List D, nbs ds = true → nbs es = true → PyData.eqvAll (toPys ds) (toPys es) = true → ds = es
  | [], [], _, _, _ => rfl
  | [], e :: es, _, _, h => by simp [toPys, PyData.eqvAll] at h
  | d :: ds, [], _, _, h => by simp [toPys, PyData.eqvAll] at h
  | d :: ds, e :: es, h1, h2, h => by
    rw [nbs, Bool.and_eq_true] at h1 h2
    rw [toPys, toPys, PyData.eqvAll, Bool.and_eq_true] at h
    rw [eqv_eq d e h1.1 h2.1 h.1, eqvs_eq ds es h1.2 h2.2 h.2]
end
/-- plain, and not deeper than n -/
structure Ok (n : Nat) (d : D) : Prop where
  nb : nb d = true
  lay : (toPy d).canLay0 = true
  dep : (toPy d).depth ≤ n
theorem Ok.mono {m n : Nat} {d : D} (h : Ok m d) (l : m ≤ n) : Ok n d := ⟨h.nb, h.lay, Nat.le_trans h.dep l⟩
theorem Ok.int {n : Nat} (i : Int) : Ok n (.int i) := ⟨rfl, rfl, Nat.zero_le _⟩
theorem Ok.non {n : Nat} : Ok n .non := ⟨rfl, rfl, Nat.zero_le _⟩
theorem Ok.str {n : Nat} {x : Str} (h : PyData.strOk x = true) : Ok n (.str x) := ⟨rfl, h, Nat.zero_le _⟩
theorem ok_list {n : Nat} : ∀ {ds : List D}, (∀ d ∈ ds, Ok n d) → nbs ds = true ∧ PyData.canLayAll0 (toPys ds) = true ∧ PyData.depthAll (toPys ds) ≤ n
  | [], _ => ⟨rfl, rfl, Nat.zero_le _⟩
  | d :: ds, h => by
    obtain ⟨a, b, c⟩ := ok_list (n := n) (ds := ds) fun e he => h e (List.mem_cons_of_mem _ he)
    have z := h d List.mem_cons_self
    refine ⟨?_, ?_, ?_⟩
    · rw [nbs, z.nb, a]
      rfl
    · rw [toPys, PyData.canLayAll0, z.lay, b]
      rfl
    · rw [toPys, PyData.depthAll]
      exact Nat.max_le.mpr ⟨z.dep, c⟩
theorem Ok.tup {n : Nat} {ds : List D} (h : ∀ d ∈ ds, Ok n d) : Ok (n + 1) (.tup ds) := by
  obtain ⟨a, b, c⟩ := ok_list h
  exact ⟨by rw [RL.nb]; exact a, by rw [toPy, PyData.canLay0]; exact b, by rw [toPy, PyData.depth]; omega⟩
theorem Ok.lst {n : Nat} {ds : List D} (h : ∀ d ∈ ds, Ok n d) : Ok (n + 1) (.lst ds) := by
  obtain ⟨a, b, c⟩ := ok_list h
  exact ⟨by rw [RL.nb]; exact a, by rw [toPy, PyData.canLay0]; exact b, by rw [toPy, PyData.depth]; omega⟩
theorem Ok.okEq {n : Nat} {d : D} (h : Ok n d) (hn : n ≤ 64 := by decide) : okEq d = true := by
  unfold RL.okEq SeqAt.shaped
  rw [pur_of_nb d h.nb, h.lay, decide_eq_true (Nat.le_trans h.dep hn)]
  rfl
theorem eqD_self {n : Nat} {d : D} (h : Ok n d) : eqD d d = true := eqv_refl d h.nb
theorem eqD_ne {m n : Nat} {d e : D} (h : Ok m d) (h' : Ok n e) (ne : d ≠ e) : eqD d e = false := by
  cases q : eqD d e with
  | false => rfl
  | true => exact absurd (eqv_eq d e h.nb h'.nb q) ne
theorem see_data {S : Sto} {d : D} (h : nb d = true) : see S d = d := by cases d <;> first | rfl | (simp [nb] at h)
/-- == of plain contents -/
theorem dEq_of {m n : Nat} {x y : D} {S : Sto} {Q : KD} (hx : Ok m x) (hy : Ok n y) (h1 : x = y → Q (.bl true) S) (h2 : x ≠ y → Q (.bl false) S) (hm : m ≤ 64 := by decide) (hn : n ≤ 64 := by decide) : dEq x y S Q := by
  unfold dEq
  rw [see_data hx.nb, see_data hy.nb]
  refine ⟨⟨hx.okEq hm, hy.okEq hn⟩, ?_⟩
  by_cases e : x = y
  · subst e
    rw [eqD_self hx]
    exact h1 rfl
  · rw [eqD_ne hx hy e]
    exact h2 e
theorem dEq_int {i j : Int} {S : Sto} {Q : KD} (h1 : i = j → Q (.bl true) S) (h2 : i ≠ j → Q (.bl false) S) : dEq (.int i) (.int j) S Q :=
  dEq_of (m := 0) (n := 0) (.int i) (.int j) (fun e => h1 (by cases e; rfl)) fun e => h2 fun z => e (by rw [z])
theorem if_true_bl {A B : Prop} : (if true = true then A else B) = A := if_pos rfl
theorem if_false_bl {A B : Prop} : (if false = true then A else B) = B := if_neg Bool.false_ne_true
/-! ### one step at a time: what an operation is on contents that are known -/
section
variable {S : Sto} {Q : KD} {i j : Int} {x y : Str} {xs ys ds : List D} {p : Addr} {d : D}
theorem dII_int {P : Int → Int → Prop} {g : Int → Int → D} : dII P g (.int i) (.int j) S Q = (P i j ∧ Q (g i j) S) := rfl
theorem dII0_int {g : Int → Int → D} : dII0 g (.int i) (.int j) S Q = Q (g i j) S := rfl
theorem dAdd_int : dAdd (.int i) (.int j) S Q = Q (.int (i + j)) S := rfl
theorem dAdd_str : dAdd (.str x) (.str y) S Q = (x.length + y.length ≤ sizeLine ∧ Q (.str (x ++ y)) S) := rfl
theorem dAdd_tup : dAdd (.tup xs) (.tup ys) S Q = (xs.length + ys.length ≤ sizeLine ∧ Q (.tup (xs ++ ys)) S) := rfl
theorem dAdd_lst : dAdd (.lst xs) (.lst ys) S Q = (xs.length + ys.length ≤ sizeLine ∧ Q (.lst (xs ++ ys)) S) := rfl
theorem dMul_int : dMul (.int i) (.int j) S Q = (CMulW i j ∧ Q (.int (i * j)) S) := rfl
theorem dMul_tup : dMul (.tup xs) (.int j) S Q = ((1 ≤ j ∧ j ≤ 1000 ∧ xs.length ≤ 1000 ∧ xs ≠ []) ∧ Q (.tup (List.replicate j.toNat xs).flatten) S) := rfl
theorem dMul_lst : dMul (.lst xs) (.int j) S Q = ((-(2 ^ 63) ≤ j ∧ j < 2 ^ 63 ∧ xs.length * j.toNat ≤ sizeLine) ∧ Q (.lst (List.replicate j.toNat xs).flatten) S) := rfl
theorem dNeg_int : dNeg (.int i) S Q = Q (.int (-i)) S := rfl
theorem dIs_non : dIs d .non S Q = Q (.bl (isNon d)) S := rfl
theorem dIsNot_non : dIsNot d .non S Q = Q (.bl (!isNon d)) S := rfl
theorem dLen_tup : dLen [.tup xs] S Q = (xs.length ≤ sizeLine → Q (.int xs.length) S) := rfl
theorem dLen_lst : dLen [.lst xs] S Q = (xs.length ≤ sizeLine → Q (.int xs.length) S) := rfl
theorem dLen_ref : dLen [.ref p] S Q = ∃ xs, S p = some (.lst xs) ∧ (xs.length ≤ sizeLine → Q (.int xs.length) S) := rfl
theorem dList_tup : dList [.tup xs] S Q = Q (.lst xs) S := rfl
theorem dList_lst : dList [.lst xs] S Q = Q (.lst xs) S := rfl
theorem dList_ref : dList [.ref p] S Q = ∃ xs, S p = some (.lst xs) ∧ Q (.lst xs) S := rfl
theorem dListL_tup : dListL [.tup xs] S Q = ∀ q, S q = none → Q (.ref q) (S.put q (.lst xs)) := rfl
theorem dListL_lst : dListL [.lst xs] S Q = ∀ q, S q = none → Q (.ref q) (S.put q (.lst xs)) := rfl
theorem dTuple_tup : dTuple [.tup xs] S Q = Q (.tup xs) S := rfl
theorem dTuple_lst : dTuple [.lst xs] S Q = Q (.tup xs) S := rfl
theorem dTuple_ref : dTuple [.ref p] S Q = ∃ xs, S p = some (.lst xs) ∧ Q (.tup xs) S := rfl
theorem dIx_tup : dIx (.tup ds) (.int i) S Q = ∃ d, atI ds i = some d ∧ Q d S := rfl
theorem dIx_lst : dIx (.lst ds) (.int i) S Q = ∃ d, atI ds i = some d ∧ Q d S := rfl
theorem dIx_ref : dIx (.ref p) (.int i) S Q = ∃ ds, S p = some (.lst ds) ∧ ∃ d, atI ds i = some d ∧ Q d S := rfl
theorem dSl_tup {lo hi : Option Int} : dSl (.tup ds) lo hi S Q = Q (.tup (cutD ds lo hi)) S := rfl
theorem dSl_lst {lo hi : Option Int} : dSl (.lst ds) lo hi S Q = Q (.lst (cutD ds lo hi)) S := rfl
theorem dSl_scr {lo hi : Option Int} : dSl (.scr ds) lo hi S Q = Q (.lst (cutD ds lo hi)) S := rfl
theorem dSl_ref {lo hi : Option Int} : dSl (.ref p) lo hi S Q = ∃ ds, S p = some (.lst ds) ∧ Q (.lst (cutD ds lo hi)) S := rfl
def subD : D → D → D → EV → Sto → (EV → Sto → Prop) → Prop := fun o ix d E S Q => match o, ix with
  | .ref p, .int k => ∃ ds j, S p = some (.lst ds) ∧ ixN ds.length k = some j ∧ Q E (S.put p (.lst (ds.set j d)))
  | _, _ => False
theorem gSub_eq {wo wi : RL.WE} {E : EV} {R : EV → Sto → Prop} : gSubD wo wi d E S R = wo E S fun o S1 => wi E S1 fun ix S2 => subD o ix d E S2 R := rfl
theorem subD_ref {E : EV} {R : EV → Sto → Prop} : subD (.ref p) (.int i) d E S R = ∃ ds j, S p = some (.lst ds) ∧ ixN ds.length i = some j ∧ R E (S.put p (.lst (ds.set j d))) := rfl
theorem dSum_lst : dSum [.lst xs] S Q = ∃ ns : List Int, xs = ns.map D.int ∧ Q (.int ns.sum) S := rfl
theorem dAll_lst : dAll [.lst xs] S Q = ∃ bs : List Bool, xs = bs.map D.bl ∧ Q (.bl (bs.all id)) S := rfl
theorem dAny_lst : dAny [.lst xs] S Q = ∃ bs : List Bool, xs = bs.map D.bl ∧ Q (.bl (bs.any id)) S := rfl
theorem dMax2_int : dMax2 [.int i, .int j] S Q = Q (.int (if j > i then j else i)) S := rfl
theorem dMin2_int : dMin2 [.int i, .int j] S Q = Q (.int (if j < i then j else i)) S := rfl
theorem dAbs_int : dAbs [.int i] S Q = Q (.int (if i < 0 then -i else i)) S := rfl
theorem dInt_int : dInt [.int i] S Q = Q (.int i) S := rfl
theorem dInt_bl {k : Bool} : dInt [.bl k] S Q = Q (.int (if k then 1 else 0)) S := rfl
def tstD : D → Sto → (Bool → Sto → Prop) → Prop := fun x S Q => match x with
  | .bl k => Q k S
  | _ => False
theorem wTest_eq {w : RL.WE} {E : EV} {R : Bool → Sto → Prop} : wTest w E S R = w E S fun x S1 => tstD x S1 R := rfl
theorem tstD_bl {k : Bool} {R : Bool → Sto → Prop} : tstD (.bl k) S R = R k S := rfl
def chnD (r : R2D) (y : D) (c : RL.WE) (E : EV) (z : D) (S : Sto) (Q : KD) : Prop := match z with
  | .bl k => if k = true then c E S fun w S4 => r y w S4 Q else Q (.bl false) S
  | _ => False
theorem wChain_eq {r r' : R2D} {a b c : RL.WE} {E : EV} : wChain r r' a b c E S Q = a E S fun x S1 => b E S1 fun y S2 => r x y S2 fun z S3 => chnD r' y c E z S3 Q := rfl
theorem chnD_bl {r : R2D} {c : RL.WE} {E : EV} {k : Bool} : chnD r d c E (.bl k) S Q = if k = true then c E S fun w S4 => r d w S4 Q else Q (.bl false) S := rfl
def andD (b : RL.WE) (E : EV) (x : D) (S : Sto) (Q : KD) : Prop := match x with
  | .bl k => if k = true then b E S Q else Q (.bl false) S
  | _ => False
def orD (b : RL.WE) (E : EV) (x : D) (S : Sto) (Q : KD) : Prop := match x with
  | .bl k => if k = true then Q (.bl true) S else b E S Q
  | _ => False
theorem wAndV_eq {a b : RL.WE} {E : EV} : wAndV a b E S Q = a E S fun x S1 => andD b E x S1 Q := rfl
theorem wOrV_eq {a b : RL.WE} {E : EV} : wOrV a b E S Q = a E S fun x S1 => orD b E x S1 Q := rfl
theorem andD_bl {b : RL.WE} {E : EV} {k : Bool} : andD b E (.bl k) S Q = if k = true then b E S Q else Q (.bl false) S := rfl
theorem orD_bl {b : RL.WE} {E : EV} {k : Bool} : orD b E (.bl k) S Q = if k = true then Q (.bl true) S else b E S Q := rfl
def notD (x : D) (S : Sto) (Q : KD) : Prop := match x with
  | .bl k => Q (.bl (!k)) S
  | _ => False
theorem wNotV_eq {a : RL.WE} {E : EV} : wNotV a E S Q = a E S fun x S1 => notD x S1 Q := rfl
theorem notD_bl {k : Bool} : notD (.bl k) S Q = Q (.bl (!k)) S := rfl
def parD (i j : Nat) (ds : List D) (E : EV) (S : Sto) (R : EV → Sto → Prop) : Prop := match ds with
  | [a, b] => R ((E.set i (some a)).set j (some b)) S
  | _ => False
theorem wPar_eq {i j : Nat} {w : WA} {Z : WEnds} {E : EV} : wPar i j w Z E S = w E S fun ds S1 => parD i j ds E S1 Z.nx := rfl
theorem parD_2 {i j : Nat} {a b : D} {E : EV} {R : EV → Sto → Prop} : parD i j [a, b] E S R = R ((E.set i (some a)).set j (some b)) S := rfl
def prtD (d : D) (S : Sto) (Q : Option Int → Sto → Prop) : Prop := match d with
  | .int i => Q (some i) S
  | _ => False
theorem wPart_eq {w : RL.WE} {E : EV} {R : Option Int → Sto → Prop} : wPart w E S R = w E S fun d S1 => prtD d S1 R := rfl
theorem prtD_int {R : Option Int → Sto → Prop} : prtD (.int i) S R = R (some i) S := rfl
theorem gTup_tup {t : WGs} {E : EV} {R : EV → Sto → Prop} : gTupD t (.tup ds) E S R = t ds E S R := rfl
theorem lenIs_eq {n : Nat} {t : WGs} {E : EV} {R : EV → Sto → Prop} : lenIs n t ds E S R = (ds.length = n ∧ t ds E S R) := rfl
theorem gsCons_cons {t : WG} {u : WGs} {E : EV} {R : EV → Sto → Prop} : gsCons t u (d :: ds) E S R = t d E S fun E1 S1 => u ds E1 S1 R := rfl
theorem gsNil_nil {E : EV} {R : EV → Sto → Prop} : gsNil [] E S R = R E S := rfl
def rg1D (ds : List D) (S : Sto) (R : List D → Option Addr → Sto → Prop) : Prop := match ds with
  | [.int j] => (-(2 ^ 62) ≤ j ∧ j < 2 ^ 62) ∧ R (rngD 0 j.toNat) none S
  | _ => False
def rg2D (ds : List D) (S : Sto) (R : List D → Option Addr → Sto → Prop) : Prop := match ds with
  | [.int i, .int j] => (-(2 ^ 62) ≤ i ∧ i < 2 ^ 62 ∧ -(2 ^ 62) ≤ j ∧ j < 2 ^ 62) ∧ R (rngD i (j - i).toNat) none S
  | _ => False
theorem wRng1_eq {w : WA} {E : EV} {R : List D → Option Addr → Sto → Prop} : wRng1 w E S R = w E S fun ds S1 => rg1D ds S1 R := rfl
theorem wRng2_eq {w : WA} {E : EV} {R : List D → Option Addr → Sto → Prop} : wRng2 w E S R = w E S fun ds S1 => rg2D ds S1 R := rfl
theorem rg1D_int {R : List D → Option Addr → Sto → Prop} : rg1D [.int j] S R = ((-(2 ^ 62) ≤ j ∧ j < 2 ^ 62) ∧ R (rngD 0 j.toNat) none S) := rfl
theorem rg2D_int {R : List D → Option Addr → Sto → Prop} : rg2D [.int i, .int j] S R = ((-(2 ^ 62) ≤ i ∧ i < 2 ^ 62 ∧ -(2 ^ 62) ≤ j ∧ j < 2 ^ 62) ∧ R (rngD i (j - i).toNat) none S) := rfl
def sqiD (d : D) (S : Sto) (R : List D → Option Addr → Sto → Prop) : Prop := match d with
  | .tup ds => ds.length ≤ sizeLine → R ds none S
  | .lst ds => ds.length ≤ sizeLine → R ds none S
  | .ref q => ∃ ds, S q = some (.lst ds) ∧ (ds.length ≤ sizeLine → R ds (some q) S)
  | _ => False
theorem wSeqI_eq {w : RL.WE} {E : EV} {R : List D → Option Addr → Sto → Prop} : wSeqI w E S R = w E S fun d S1 => sqiD d S1 R := rfl
theorem sqiD_tup {R : List D → Option Addr → Sto → Prop} : sqiD (.tup ds) S R = (ds.length ≤ sizeLine → R ds none S) := rfl
theorem sqiD_lst {R : List D → Option Addr → Sto → Prop} : sqiD (.lst ds) S R = (ds.length ≤ sizeLine → R ds none S) := rfl
theorem sqiD_ref {R : List D → Option Addr → Sto → Prop} : sqiD (.ref p) S R = ∃ ds, S p = some (.lst ds) ∧ (ds.length ≤ sizeLine → R ds (some p) S) := rfl
def zpD (ds : List D) (S : Sto) (R : List D → Option Addr → Sto → Prop) : Prop := match ds with
  | [.tup xs, .tup ys] => xs.length ≤ sizeLine ∧ ys.length ≤ sizeLine → R (zipD xs ys) none S
  | [.lst xs, .lst ys] => xs.length ≤ sizeLine ∧ ys.length ≤ sizeLine → R (zipD xs ys) none S
  | _ => False
theorem wZip_eq {w : WA} {E : EV} {R : List D → Option Addr → Sto → Prop} : wZip w E S R = w E S fun ds S1 => zpD ds S1 R := rfl
theorem zpD_tup {R : List D → Option Addr → Sto → Prop} : zpD [.tup xs, .tup ys] S R = (xs.length ≤ sizeLine ∧ ys.length ≤ sizeLine → R (zipD xs ys) none S) := rfl
theorem zpD_lst {R : List D → Option Addr → Sto → Prop} : zpD [.lst xs, .lst ys] S R = (xs.length ≤ sizeLine ∧ ys.length ≤ sizeLine → R (zipD xs ys) none S) := rfl
def rvD (x : D) (S : Sto) (Q : KD) : Prop := match x with
  | .lst ds => Q (.lst ds.reverse) S
  | .ref p => ∃ ds, S p = some (.lst ds) ∧ Q (.lst ds.reverse) S
  | _ => False
theorem wRev_eq {a : RL.WE} {E : EV} : wRev a E S Q = a E S fun x S1 => rvD x S1 Q := rfl
theorem rvD_lst : rvD (.lst ds) S Q = Q (.lst ds.reverse) S := rfl
theorem rvD_ref : rvD (.ref p) S Q = ∃ ds, S p = some (.lst ds) ∧ Q (.lst ds.reverse) S := rfl
end
theorem pow10 (k : Nat) (h : k ≤ 1000000 := by decide) : CPow 10 (k : Int) := ⟨Int.natCast_nonneg _, by omega, by decide⟩
/-- xs[:k] -/
theorem cutD_to (ds : List D) (k : Nat) : cutD ds none (some (k : Int)) = ds.take k := by
  unfold cutD
  rw [HT.sIx_none, HT.sIx_nat, List.drop_zero, Nat.sub_zero]
  by_cases h : k ≤ ds.length
  · rw [Nat.min_eq_left h]
  · rw [Nat.min_eq_right (by omega), List.take_of_length_le (Nat.le_refl _), List.take_of_length_le (by omega)]
/-- xs[k:] -/
theorem cutD_from (ds : List D) (k : Nat) : cutD ds (some (k : Int)) none = ds.drop k := by
  unfold cutD
  rw [HT.sIx_none, HT.sIx_nat]
  by_cases h : k ≤ ds.length
  · rw [Nat.min_eq_left h, List.take_of_length_le (by rw [List.length_drop]; exact Nat.le_refl _)]
  · rw [Nat.min_eq_right (by omega), List.drop_eq_nil_of_le (Nat.le_refl _), List.drop_eq_nil_of_le (by omega), List.take_nil]
theorem zipD_self : ∀ xs : List D, zipD xs xs = xs.map fun x => .tup [x, x]
  | [] => rfl
  | x :: xs => by
    show D.tup [x, x] :: zipD xs xs = _
    rw [zipD_self xs]
    rfl
mutual
theorem eqv_refl' : ∀ d : D, pur d = true → PyData.eqv (toPy d) (toPy d) = true
  | .non, _ => rfl
  | .bl _, _ => by simp [toPy, PyData.eqv]
  | .int _, _ => by simp [toPy, PyData.eqv]
  | .str _, _ => by simp [toPy, PyData.eqv]
  | .tup ds, h => by rw [toPy, PyData.eqv]; exact eqvs_refl' ds (by simpa [pur] using h)
  | .lst ds, h => by rw [toPy, PyData.eqv]; exact eqvs_refl' ds (by simpa [pur] using h)
  | .ty _, h => by simp [pur] at h
  | .ref _, h => by simp [pur] at h
  | .clk _ _, h => by simp [pur] at h
  | .scr _, h => by simp [pur] at h
  | .fn _ _ _ _, h => by simp [pur] at h
  | .dct _ _, h => by simp [pur] at h
theorem eqvs_refl' : ∀ ds : List D, purs ds = true → PyData.eqvAll (toPys ds) (toPys ds) = true
  | [], _ => rfl
  | d :: ds, h => by
    rw [purs, Bool.and_eq_true] at h
    rw [toPys, PyData.eqvAll, Bool.and_eq_true]
    exact ⟨eqv_refl' d h.1, eqvs_refl' ds h.2⟩
end
/-- data of a depth below n (True and False too) -/
structure Dat (n : Nat) (d : D) : Prop where
  pur : pur d = true
  lay : (toPy d).canLay0 = true
  dep : (toPy d).depth < n
theorem Ok.dat {n : Nat} {d : D} (h : Ok n d) : Dat (n + 1) d := ⟨pur_of_nb d h.nb, h.lay, Nat.lt_succ_of_le h.dep⟩
theorem Dat.okEq {n : Nat} {d : D} (h : Dat n d) (hn : n ≤ 65 := by omega) : okEq d = true := by
  unfold RL.okEq SeqAt.shaped
  rw [h.pur, h.lay, decide_eq_true (by have := h.dep; omega)]
  rfl
theorem see_pur {S : Sto} {d : D} (h : pur d = true) : see S d = d := by cases d <;> first | rfl | (simp [pur] at h)
theorem dEq_self {n : Nat} {d : D} {S : Sto} {Q : KD} (h : Dat n d) (q : Q (.bl true) S) (hn : n ≤ 65 := by omega) : dEq d d S Q := by
  unfold dEq
  rw [see_pur h.pur]
  refine ⟨⟨h.okEq hn, h.okEq hn⟩, ?_⟩
  rw [show eqD d d = true from eqv_refl' d h.pur]
  exact q
theorem dNe_self {n : Nat} {d : D} {S : Sto} {Q : KD} (h : Dat n d) (q : Q (.bl false) S) (hn : n ≤ 65 := by omega) : dNe d d S Q := by
  unfold dNe
  rw [see_pur h.pur]
  refine ⟨⟨h.okEq hn, h.okEq hn⟩, ?_⟩
  rw [show eqD d d = true from eqv_refl' d h.pur]
  exact q
theorem Dat.bl {n : Nat} (b : Bool) : Dat (n + 1) (.bl b) := ⟨rfl, rfl, Nat.succ_pos n⟩
theorem dat_list {n : Nat} : ∀ {ds : List D}, purs ds = true → PyData.canLayAll0 (toPys ds) = true → PyData.depthAll (toPys ds) < n → ∀ d ∈ ds, Dat n d
  | [], _, _, _ => fun d h => by cases h
  | e :: es, h1, h2, h3 => fun d hd => by
    rw [purs, Bool.and_eq_true] at h1
    rw [toPys, PyData.canLayAll0, Bool.and_eq_true] at h2
    rw [toPys, PyData.depthAll] at h3
    have a := Nat.max_lt.mp h3
    rcases List.mem_cons.mp hd with rfl | hd
    · exact ⟨h1.1, h2.1, a.1⟩
    · exact dat_list h1.2 h2.2 a.2 d hd
theorem Dat.tups {n : Nat} {ds : List D} (h : Dat (n + 1) (.tup ds)) : ∀ d ∈ ds, Dat n d := by
  have h1 := h.pur
  have h2 := h.lay
  have h3 := h.dep
  rw [RL.pur] at h1
  rw [toPy, PyData.canLay0] at h2
  rw [toPy, PyData.depth] at h3
  exact dat_list h1 h2 (by omega)
theorem Dat.lsts {n : Nat} {ds : List D} (h : Dat (n + 1) (.lst ds)) : ∀ d ∈ ds, Dat n d := by
  have h1 := h.pur
  have h2 := h.lay
  have h3 := h.dep
  rw [RL.pur] at h1
  rw [toPy, PyData.canLay0] at h2
  rw [toPy, PyData.depth] at h3
  exact dat_list h1 h2 (by omega)
theorem DRs.small {K : PySem.W.Frag} {C : Cf} {H : Hp} {ds : List D} {vs : List V} (r : DRs K C H ds vs) (h : vs.length ≤ sizeLine) : ds.length ≤ sizeLine := by rw [r.length]; exact h
/-! isinstance, case by case -/
theorem isT_non_list  : isT .non "list" = false := by simp [isT, tyN]
theorem isT_non_tuple  : isT .non "tuple" = false := by simp [isT, tyN]
theorem isT_non_int  : isT .non "int" = false := by simp [isT, tyN]
theorem isT_non_bool  : isT .non "bool" = false := by simp [isT, tyN]
theorem isT_non_str  : isT .non "str" = false := by simp [isT, tyN]
theorem isData_non  : isData .non = true := rfl
theorem isT_bl_list {b : Bool} : isT (.bl b) "list" = false := by simp [isT, tyN]
theorem isT_bl_tuple {b : Bool} : isT (.bl b) "tuple" = false := by simp [isT, tyN]
theorem isT_bl_int {b : Bool} : isT (.bl b) "int" = true := by simp [isT, tyN]
theorem isT_bl_bool {b : Bool} : isT (.bl b) "bool" = true := by simp [isT, tyN]
theorem isT_bl_str {b : Bool} : isT (.bl b) "str" = false := by simp [isT, tyN]
theorem isData_bl {b : Bool} : isData (.bl b) = true := rfl
theorem isT_int_list {i : Int} : isT (.int i) "list" = false := by simp [isT, tyN]
theorem isT_int_tuple {i : Int} : isT (.int i) "tuple" = false := by simp [isT, tyN]
theorem isT_int_int {i : Int} : isT (.int i) "int" = true := by simp [isT, tyN]
theorem isT_int_bool {i : Int} : isT (.int i) "bool" = false := by simp [isT, tyN]
theorem isT_int_str {i : Int} : isT (.int i) "str" = false := by simp [isT, tyN]
theorem isData_int {i : Int} : isData (.int i) = true := rfl
theorem isT_str_list {x : Str} : isT (.str x) "list" = false := by simp [isT, tyN]
theorem isT_str_tuple {x : Str} : isT (.str x) "tuple" = false := by simp [isT, tyN]
theorem isT_str_int {x : Str} : isT (.str x) "int" = false := by simp [isT, tyN]
theorem isT_str_bool {x : Str} : isT (.str x) "bool" = false := by simp [isT, tyN]
theorem isT_str_str {x : Str} : isT (.str x) "str" = true := by simp [isT, tyN]
theorem isData_str {x : Str} : isData (.str x) = true := rfl
theorem isT_tup_list {ds : List D} : isT (.tup ds) "list" = false := by simp [isT, tyN]
theorem isT_tup_tuple {ds : List D} : isT (.tup ds) "tuple" = true := by simp [isT, tyN]
theorem isT_tup_int {ds : List D} : isT (.tup ds) "int" = false := by simp [isT, tyN]
theorem isT_tup_bool {ds : List D} : isT (.tup ds) "bool" = false := by simp [isT, tyN]
theorem isT_tup_str {ds : List D} : isT (.tup ds) "str" = false := by simp [isT, tyN]
theorem isData_tup {ds : List D} : isData (.tup ds) = true := rfl
theorem isT_lst_list {ds : List D} : isT (.lst ds) "list" = true := by simp [isT, tyN]
theorem isT_lst_tuple {ds : List D} : isT (.lst ds) "tuple" = false := by simp [isT, tyN]
theorem isT_lst_int {ds : List D} : isT (.lst ds) "int" = false := by simp [isT, tyN]
theorem isT_lst_bool {ds : List D} : isT (.lst ds) "bool" = false := by simp [isT, tyN]
theorem isT_lst_str {ds : List D} : isT (.lst ds) "str" = false := by simp [isT, tyN]
theorem isData_lst {ds : List D} : isData (.lst ds) = true := rfl
theorem isNon_non  : isNon .non = true := rfl
theorem isNon_bl {b : Bool} : isNon (.bl b) = false := rfl
theorem isNon_int {i : Int} : isNon (.int i) = false := rfl
theorem isNon_str {x : Str} : isNon (.str x) = false := rfl
theorem isNon_tup {ds : List D} : isNon (.tup ds) = false := rfl
theorem isNon_lst {ds : List D} : isNon (.lst ds) = false := rfl
theorem isNon_ref {a : Addr} : isNon (.ref a) = false := rfl
theorem isNon_clk {h c : List D} : isNon (.clk h c) = false := rfl
theorem okT_list : okT "list" = true := by simp [okT]
theorem okT_tuple : okT "tuple" = true := by simp [okT]
theorem okT_int : okT "int" = true := by simp [okT]
theorem okT_bool : okT "bool" = true := by simp [okT]
theorem okT_str : okT "str" = true := by simp [okT]
theorem dIsi_ty {d : D} {n : String} {S : Sto} {Q : KD} : dIsi [d, .ty n] S Q = ((isData d = true ∧ okT n = true) ∧ Q (.bl (isT d n)) S) := rfl
theorem dIsi_2 {d : D} {m n : String} {S : Sto} {Q : KD} : dIsi [d, .tup [.ty m, .ty n]] S Q = ((isData d = true ∧ okT m = true ∧ okT n = true) ∧ Q (.bl (isT d m || isT d n)) S) := by
  refine propext ⟨fun ⟨ns, ⟨h1, h2, h3⟩, q⟩ => ?_, fun ⟨⟨h1, h2, h3⟩, q⟩ => ⟨[m, n], ⟨h1, rfl, by simp [h2, h3]⟩, ?_⟩⟩
  · have e : ns = [m, n] := by simpa [tyNs] using h2.symm
    subst e
    simp only [List.all_cons, List.all_nil, Bool.and_true, Bool.and_eq_true] at h3
    refine ⟨⟨h1, h3.1, h3.2⟩, ?_⟩
    simpa using q
  · simpa using q
/-! ### ranges and loops -/
theorem rngD_cons (lo : Int) (n : Nat) : rngD lo (n + 1) = .int lo :: rngD (lo + 1) n := by
  unfold rngD
  rw [List.range_succ_eq_map, List.map_cons, List.map_map]
  congr 1
  · simp
  · apply List.map_congr_left
    intro i _
    simp only [Function.comp]
    congr 1
    omega
/-- a comprehension whose element leaves the store as it is -/
theorem lc_pure {g : WG} {tt : WT} {te : RL.WE} {E : EV} {all : List D} {Z : Addr} {Q : Sto → Prop} (f : D → D) (keep : D → Bool) :
    ∀ (ds acc : List D) (S : Sto), acc.length + ds.length ≤ sizeLine →
      (∀ d ∈ ds, ∀ (S : Sto) (K1 : KD) (K0 : Sto → Prop), (keep d = true → K1 (f d) S) → (keep d = false → K0 S) → g d E S fun E2 S2 => tt E2 S2 fun b S3 => if b = true then te E2 S3 K1 else K0 S3) →
      Q (S.put Z (.lst (acc ++ (ds.filter keep).map f))) → wLcL g tt te E none all Z Q ds acc (S.put Z (.lst acc))
  | [], acc, S, _, _, h => ⟨trivial, Sto.put_same, by simpa using h⟩
  | d :: ds, acc, S, hl, hs, h => by
    refine ⟨trivial, hs d List.mem_cons_self _ _ _ (fun hk => ?_) fun hk => ?_⟩
    · refine ⟨Sto.put_same, by simp only [List.length_cons] at hl; omega, ?_⟩
      rw [Sto.put_put]
      refine lc_pure f keep ds _ S (by rw [List.length_append]; simp only [List.length_cons, List.length_nil] at hl ⊢; omega) (fun e he => hs e (List.mem_cons_of_mem _ he)) ?_
      rw [List.filter_cons_of_pos hk, List.map_cons] at h
      rw [List.append_assoc]
      exact h
    · refine lc_pure f keep ds _ S (by simp only [List.length_cons] at hl; omega) (fun e he => hs e (List.mem_cons_of_mem _ he)) ?_
      rwa [List.filter_cons_of_neg (by rw [hk]; decide)] at h
/-- [f(d) for d in ds], locked -/
theorem lc_map {g : WG} {te : RL.WE} {E : EV} {all : List D} {Q : KD} {S : Sto} (f : D → D) {ds : List D} (hl : ds.length ≤ sizeLine) (hs : ∀ d ∈ ds, ∀ (S : Sto) (K1 : KD), K1 (f d) S → g d E S fun E2 S2 => te E2 S2 K1) (h : Q (.lst (ds.map f)) S) :
    ∀ Z, S Z = none → wLcL g wYes te E none all Z (fun S2 => asF Z S2 Q) ds [] (S.put Z (.lst [])) := fun Z hZ => by
  refine lc_pure f (fun _ => true) ds [] S (by simpa using hl) (fun d hd S K1 K0 h1 _ => ?_) ?_
  · exact hs d hd S K1 (h1 rfl)
  · intro acc ha
    rw [Sto.put_same] at ha
    cases ha
    rw [Sto.del_put hZ, List.nil_append, List.filter_eq_self.mpr fun _ _ => rfl]
    exact h
/-- a comprehension with a state: P by the turn, what is made so far, and the store without the new list -/
theorem lc_inv {g : WG} {te : RL.WE} {E : EV} {all : List D} {Q : KD} (P : List D → Sto → Prop) : ∀ {ds : List D} {acc : List D} {S : Sto} {Z : Addr}, acc.length + ds.length ≤ sizeLine → S Z = none → P acc S →
    (∀ (d : D) (acc : List D) (S : Sto), d ∈ ds → P acc S → ∀ (o : DO) (K1 : KD), S Z = none → (∀ y S', S' Z = none → P (acc ++ [y]) S' → K1 y (S'.put Z o)) → g d E (S.put Z o) fun E2 S2 => te E2 S2 K1) →
    (∀ acc' S', acc'.length = acc.length + ds.length → P acc' S' → Q (.lst acc') S') → wLcL g wYes te E none all Z (fun S2 => asF Z S2 Q) ds acc (S.put Z (.lst acc))
  | [], acc, S, Z, _, hZ, hP, _, h => ⟨trivial, Sto.put_same, fun a ha => by
    rw [Sto.put_same] at ha
    cases ha
    rw [Sto.del_put hZ]
    exact h acc S rfl hP⟩
  | d :: ds, acc, S, Z, hl, hZ, hP, hs, h => by
    refine ⟨trivial, hs d acc S List.mem_cons_self hP (.lst acc) _ hZ fun y S' hZ' hP' => ⟨Sto.put_same, by simp only [List.length_cons] at hl; omega, ?_⟩⟩
    rw [Sto.put_put]
    refine lc_inv P (by rw [List.length_append]; simp only [List.length_cons, List.length_nil] at hl ⊢; omega) hZ' hP' (fun d' acc' S'' hd => hs d' acc' S'' (List.mem_cons_of_mem _ hd)) fun a2 S2 hl2 hP2 => h a2 S2 (by rw [hl2, List.length_append]; simp only [List.length_cons, List.length_nil]; omega) hP2
/-- a loop by what holds ahead of the rest of its items -/
theorem forL_rule {g : WG} {tb : WS} {src : Option Addr} {all : List D} {Z : WEnds} (P : List D → EV → Sto → Prop)
    (hs : ∀ d rest E S, P (d :: rest) E S → srcOk src all S ∧ ∀ nx : EV → Sto → Prop, (∀ E S, P rest E S → nx E S) → g d E S fun E1 S1 => tb { Z with nx := nx, ct := nx, bk := Z.nx } E1 S1)
    (h0 : ∀ E S, P [] E S → srcOk src all S ∧ Z.nx E S) : ∀ ds E S, P ds E S → wForL g tb src all Z ds E S
  | [], E, S, h => h0 E S h
  | d :: ds, E, S, h => ⟨(hs d ds E S h).1, (hs d ds E S h).2 _ fun E' S' h' => forL_rule P hs h0 ds E' S' h'⟩
theorem forL_range {g : WG} {tb : WS} {all : List D} {Z : WEnds} (P : Int → EV → Sto → Prop) : ∀ (n : Nat) (lo : Int)
    (hs : ∀ i E S, lo ≤ i → i < lo + n → P i E S → ∀ nx : EV → Sto → Prop, (∀ E S, P (i + 1) E S → nx E S) → g (.int i) E S fun E1 S1 => tb { Z with nx := nx, ct := nx, bk := Z.nx } E1 S1)
    (h0 : ∀ E S, P (lo + n) E S → Z.nx E S) (E : EV) (S : Sto), P lo E S → wForL g tb none all Z (rngD lo n) E S
  | 0, lo, _, h0, E, S, h => ⟨trivial, h0 E S (by simpa using h)⟩
  | n + 1, lo, hs, h0, E, S, h => by
    rw [rngD_cons]
    refine ⟨trivial, hs lo E S (Int.le_refl _) (by omega) h _ fun E' S' h' => ?_⟩
    refine forL_range P n (lo + 1) (fun i E S h1 h2 => hs i E S (by omega) (by omega)) (fun E S hp => h0 E S ?_) E' S' h'
    have e : lo + 1 + (n : Int) = lo + ((n + 1 : Nat) : Int) := by omega
    rw [← e]
    exact hp
/-! ### the end of a law -/
/-- no clock's heights are open -/
def NoLevS (S : Sto) : Prop := ∀ p h c n, S p ≠ some (.lev h c n)
/-- the promise that every law's def keeps -/
def spTop (n : Nat) : DSp := fun ds S Q _ => ∃ ns : List Int, ds = [.scr (ns.map D.int)] ∧ ns.length ≤ n ∧ NoLevS S ∧ ∀ S', Q (.bl true) S'
def cfOf (clk : Addr) (T : List (Addr × Str)) (H : Hp) : Cf := ⟨clk, T, fun b => H b ≠ none⟩
theorem sr_start {K : PySem.W.Frag} {clk : Addr} {T : List (Addr × Str)} {H : Hp} (t : LamX.Tabs T H) : SR K (cfOf clk T H) (fun _ => none) H := by
  have no : ∀ {a dx fs}, H a = some (.ins clk dx fs) → ¬ (cfOf clk T H).old a → False := fun {a dx fs} h n => n (show H a ≠ none by rw [h]; simp)
  exact ⟨fun p o h => (by cases h), fun a dx v1 v2 l h n => (no h n).elim, fun a dx v1 v2 b dx' w1 w2 l h _ n => (no h n).elim, fun b hb => hb, t, fun p h c n e => (by cases e)⟩
theorem top_start {K : PySem.W.Frag} {clk : Addr} {T : List (Addr × Str)} {n : Nat} {H : Hp} {a : Addr} {ns : List Int} (hl : ns.length ≤ n) (t : LamX.Tabs T H) (h : FzL K H a (ns.map V.int)) : liftSp K (cfOf clk T H) (spTop n) [.ref a] H (fun v _ => v = .bl true) fun _ _ _ => False :=
  ⟨[.scr (ns.map D.int)], fun _ => none, fun d _ => d = .bl true, fun _ _ => False, .cons (.scr h (DRs.ofInts ns)) .nil, sr_start t, ⟨ns, rfl, hl, (fun p h c n e => by cases e), fun _ => rfl⟩,
    fun d S' v H' _ r _ e => by subst e; cases r; rfl, fun _ _ _ _ _ _ _ h => h⟩
theorem cx_end {P : Program} {w : World} {os : List Env} {H : Hp} {s : Shared} {e : Value} {s' : Shared} (h : L2N.CX P w os H s (fun _ _ _ => False) e s') : False := by
  obtain ⟨_, _, _, _, _, _, _, _, _, _, _, _, z⟩ := h
  exact z
/-- a law's promise at any abstract heap: its argument is the script, the tables are those of T -/
def spLaw (K : PySem.W.Frag) (T : List (Addr × Str)) (n : Nat) : Sp := fun vs H Q _ => ∃ (a : Addr) (ns : List Int), vs = [.ref a] ∧ ns.length ≤ n ∧ SqL K H a (ns.map V.int) ∧ LamX.Tabs T H ∧ ∀ H', Q (.bl true) H'
theorem hok_fz {P : Program} {w : World} {H : Hp} {h : Heap} {p : Addr} {xs : List V} (x : HOk P w H h) (hp : H p = some (.lst xs)) : ∃ ob, HOk P w (upd H p (.frz ob (.lst xs))) h := by
  obtain ⟨hz, its, n, rv, e⟩ := x p _ hp
  refine ⟨{ cls := .type "list", data := .seq its.toArray n }, fun b u q => ?_⟩
  by_cases hb : b = p
  · rw [hb, upd_same] at q
    cases q
    rw [hb]
    exact ⟨e, hz, its, n, rv, e⟩
  · rw [upd_ne hb] at q
    refine (x b u q).stay (fun c v _ r => r) (fun c r => ?_) fun c zs r => ?_
    · rw [upd_ne (ne_of r hp (by intro z; cases z))]
      exact r
    · rw [upd_ne (ne_of r hp (by intro z; cases z))]
      exact r
theorem fn_law {P : Program} {w : World} {K : PySem.W.Frag} {mg : Str → Option Value} {base : Heap} {clk : Addr} {T : List (Addr × Str)} {n k : Nat} {f : Addr} {fd : FuncData} {x : Str} (F : ∀ C : Cf, C.clk = clk → C.T = T → DOk P w K mg base C k f fd [x] (spTop n)) :
    FnOk P w K mg base (L2N.CX P w) k f fd [x] (spLaw K T n) := by
  refine ⟨fun vs H Q E h => ?_, fun A outer s H args us vs Q E hr e0 hb hv h => ?_⟩
  · obtain ⟨a, ns, rfl, _⟩ := h
    rfl
  · obtain ⟨a, ns, rfl, hl, hS, t, q⟩ := h
    have fin : ∀ r s', CR (L2N.CX P w) outer P w H s (fun v _ => v = .bl true) (fun _ _ _ => False) r s' → CR (L2N.CX P w) outer P w H s Q E r s' := fun r s' h => by
      cases r with
      | error e => exact (cx_end h).elim
      | ok fl =>
        cases fl with
        | ret u =>
          obtain ⟨v, H', h1, h2, h3, h4, h5, rfl⟩ := h
          exact ⟨_, H', h1, h2, h3, h4, h5, q H'⟩
        | next => exact h
        | brk => exact h
        | cont => exact h
    by_cases hz : FzL K H a (ns.map V.int)
    · exact codeAny_mono ((F (cfOf clk T H) rfl rfl).run A outer s H args us _ _ _ hr e0 hb hv (top_start hl t hz)) fin
    · have hp : H a = some (.lst (ns.map V.int)) := by
        rcases hS with (z | z) | z
        · exact z
        · exact absurd (.inl z) hz
        · exact absurd (.inr z) hz
      obtain ⟨ob, hok⟩ := hok_fz e0.hok hp
      have nn : ∀ {b}, H b = none → upd H a (.frz ob (.lst (ns.map V.int))) b = none := fun {b} z => by
        rw [upd_ne fun y => by rw [y, hp] at z; cases z]
        exact z
      have e1 : Env0 P w K mg base A outer s (upd H a (.frz ob (.lst (ns.map V.int)))) :=
        ⟨e0.frames, e0.mod, fun b o e => ⟨(e0.bs b o e).1, nn (e0.bs b o e).2⟩, e0.bsz, e0.funs, fun b hb => nn (e0.frf b hb), hok, e0.bare⟩
      have t1 : LamX.Tabs T (upd H a (.frz ob (.lst (ns.map V.int)))) := tabs_upd t fun u hu => by
        rw [hp] at hu
        cases hu
        exact loose_tab (u := .lst (ns.map V.int)) trivial
      refine codeAny_mono ((F (cfOf clk T _) rfl rfl).run A outer s _ args us _ _ _ hr e1 hb hv (top_start hl t1 (.inl ⟨ob, upd_same⟩))) fun r s' h => fin r s' ?_
      cases r with
      | error e => exact (cx_end h).elim
      | ok fl =>
        cases fl with
        | ret u =>
          obtain ⟨v, H', h1, h2, un, h4, h5, h6⟩ := h
          refine ⟨v, H', h1, h2, ⟨fun b o e n => un.keep b o e (nn n), fun b o e n => un.slot b o e (nn n), fun b o e n => un.free b o e (nn n), un.there, fun b xs e => ?_, fun b o u e => ?_, fun b ps e => ?_⟩, h4, h5, h6⟩
          · exact un.tups b xs (by rw [upd_ne (ne_of e hp (by intro z; cases z))]; exact e)
          · exact un.frzs b o u (by rw [upd_ne (ne_of e hp (by intro z; cases z))]; exact e)
          · exact un.tbls b ps (by rw [upd_ne (ne_of e hp (by intro z; cases z))]; exact e)
        | next => exact h
        | brk => exact h
        | cont => exact h
/-- what the head tells of a table of code objects -/
theorem hd_of {K : PySem.W.Frag} {h : Heap} {c P : Addr} {dd : Option Addr} {vs : Array Value} {sl : Array (Option Value)} (X : K.In h) (lc : K.lookup c = some ⟨.type "code", dd, .fields vs, sl⟩) (v : vs[11]? = some (.ref P))
    (v18 : ∃ f t, vs.getD 18 .none = .str f t) (v7 : ∃ f t, vs.getD 7 .none = .int f t) (v9 : ∃ f, vs.getD 9 .none = .bool f) (v10 : ∃ f t, vs.getD 10 .none = .int f t) (ne : c ≠ P) : PySem.W.CodeHd h c P := by
  obtain ⟨f1, t1, e1⟩ := v18
  obtain ⟨f2, t2, e2⟩ := v7
  obtain ⟨f3, e3⟩ := v9
  obtain ⟨f4, t4, e4⟩ := v10
  exact ⟨_, _, _, _, _, _, _, _, _, X _ _ lc, rfl, rfl, v, by rw [Array.getD_eq_getD_getElem?, v]; rfl, e1, e2, e3, e4, ne⟩
theorem tabs_nil {T : List (Addr × Str)} {H : Hp} (h : ∀ p ∈ T, H p.1 = some (.tbl #[])) : LamX.Tabs T H := fun p hp => LamX.TabS.nil (h p hp)
end RL
namespace RL
open PySem PySem.Spec PyProof.Rows
open L2 hiding WE
/-! ### raise of an own class with one field -/
def spXI (C : Addr) (f w : Str) : Sp := fun vs H Q _ => ∃ (a : Addr) (d : V), vs = [.ref a, d] ∧ H a = some (exo a C none) ∧
  ∀ dx, H dx = none → dx ≠ a → Q .non (upd (upd (upd H dx (exd dx [(f, d)])) a (exo a C (some dx))) dx (exd dx [("word", .str w), (f, d)]))
theorem xinit_ok {P : Program} {w : World} {K : PySem.W.Frag} {mg : Str → Option Value} {base : Heap} {qual fn wd : Str} {st : Stmt} {f C : Addr} {fd : FuncData} {p1 p2 p3 p4 p5 p6 q1 q2 : Pos} {j : Nat} (F : Fun K "__init__" qual st f fd) (S : FnScope ["self", fn] ["self", fn] (defScope st))
    (hb : defBody st = [.Assign [.Attribute (.Name "self" p1) fn p2] (.Name fn p3) q1, .Assign [.Attribute (.Name "self" p4) "word" p5] (.Constant (.str wd) j p6) q2]) (T : OexC K C) (n1 : PySem.W.findIn K (.ref C) fn = some none) (n2 : PySem.W.findIn K (.ref C) "word" = some none)
    (v1 : Vis (defScope st) "self") (v2 : Vis (defScope st) fn) (hd : (fn == ("__debug__" : Str)) = false) (hcd : (fn == ("__classdict__" : Str)) = false)
    (hs : ∀ env : Env, swapsWith (.Name fn p3) (some (.Attribute (.Name "self" p1) fn p2)) q1.line env = pure false) : FnOk P w K mg base (L2N.CX P w) 1 f fd ["self", fn] (spXI C fn wd) := by
  refine okXN F S (fun vs H Q E h => ?_) fun cdv A outer s H vs Q E hr h => ?_
  · obtain ⟨a, d, rfl, _⟩ := h
    rfl
  · rw [hb]
    obtain ⟨a, d, rfl, ha, q⟩ := h
    refine ⟨_, pss_cons (ps_ost (pe_var (i := 0) rfl v1) (pe_var (i := 1) rfl v2 hd hcd) (hs _)) (pss_one (ps_ost (pe_var (i := 0) rfl v1) pe_str)), ?_⟩
    refine ⟨d, rfl, .ref a, rfl, a, C, rfl, T, n1, .inl ⟨ha, fun dx n ne => ?_⟩⟩
    exact ⟨.ref a, rfl, a, C, rfl, T, n2, .inr ⟨dx, [(fn, d)], upd_same, by rw [upd_ne ne, upd_same], by show 1 ≤ 900; decide, q dx n ne⟩⟩
/-- an own exception class of one field, as the raising def wants it -/
structure Xc1 (P : Program) (w : World) (K : PySem.W.Frag) (mg : Str → Option Value) (base : Heap) (x fn wd : Str) (C : Addr) : Prop where
  T : OexC K C
  at_ : mg x = some (.ref C)
  ex : ∃ (f : Addr) (fd : FuncData), PySem.W.findIn K (.ref C) "__init__" = some (some (.ref f)) ∧ PySem.W.typeIn K (.ref f) = some (.type "function") ∧ FnOk P w K mg base (L2N.CX P w) 1 f fd ["self", fn] (spXI C fn wd) ∧ Binds K fd ["self", fn] []
def wRaise1 (C : Addr) (fn wd : Str) (Xd : Xn → EV → Sto → Prop) (we : RL.WE) : WS := fun _ E S => we E S fun d S1 => Xd ⟨C, [("word", .str wd), (fn, d)]⟩ E S1
theorem made_heap {H : Hp} {a d : Addr} {o1 o2 : HO} {u1 u2 u3 : HO} {y : HO} (ha : H a = none) (ne : d ≠ a) : upd (L2.del (upd (upd (upd (upd H a o1) d u1) a o2) d u2) a) d y = upd H d y := by
  funext b
  by_cases e : b = d
  · rw [e, upd_same, upd_same]
  · rw [upd_ne e, upd_ne e]
    by_cases e2 : b = a
    · rw [e2, del_same, ha]
    · rw [del_ne e2, upd_ne e, upd_ne e2, upd_ne e, upd_ne e2]
/-- C(e, ..) of an own class with __init__, its context None -/
theorem mk_oexN {X : Cx} {CX : CXT} {x : Str} {e : Expr} {es : List Expr} {ta : TA} {p pos : Pos} {Cc fI : Addr} {k : Nat} {fd : FuncData} {ps : List Str} {sp : Sp} (T : OexC X.K Cc) (iC : PySem.W.findIn X.K (.ref Cc) "__init__" = some (some (.ref fI))) (tI : PySem.W.typeIn X.K (.ref fI) = some (.type "function"))
    (F1 : FnOk X.prog X.w X.K X.mg X.base CX k fI fd ps sp) (hr : Room (k + 1) X.A) (hb : Binds X.K fd ps []) (hx : Passes CX X (fun _ _ _ => False)) (hg : Gl X x) (hm : X.mg x = some (.ref Cc)) (ha : PA X (e :: es) ta)
    (hdb : (x == ("__debug__" : Str)) = false := by decide) (he : starEach (e :: es) X.env = (false, eval e X.env) :: starEach es X.env := by rfl) (hpl : (backTo pos (starEach es X.env)).any (·.1) = false := by rfl) :
    L2N.PMk X (.Call (.Name x p) (e :: es) [] pos) (tMkO Cc sp [] ta) := by
  intro pins s σ H Q I h
  obtain ⟨nm, q, N, bs, bm, sn, sub, ab, col, dd, k0, k1, k2, k3, k5, hC, hbm⟩ := T.cls
  refine wpAny_Call_Name_kw (ld_glob I hg hm ?_ hdb)
  refine PySem.W.callWith_K (h₀ := X.base) I.ok.mod.kin T.kC (thn (ha.run pos pins s σ H _ I h) fun us s1 ⟨vs, H1, I1, r1, hz, q1⟩ => ⟨I1.kIn, ?_⟩) he hpl
  show wpAny _ _ (call (.ref Cc) us) _ _ _
  obtain ⟨hp, g, dr, tk, os⟩ := s1
  have up : hp.objs.size ≤ hp.objs.size + 1 := Nat.le_succ _
  have wish := q1 (hp.objs.size + 1) (I1.hok.fresh up)
  rw [List.append_nil] at wish
  have stay : ∀ b o, hp.get? b = some o → ((hp.push (PySem.W.kdv_tup us)).push (PySem.HandSPX.excO Cc hp.objs.size)).get? b = some o := fun b o z => Heap.get?_push_of_some _ (Heap.get?_push_of_some _ z)
  have there : ((hp.push (PySem.W.kdv_tup us)).push (PySem.HandSPX.excO Cc hp.objs.size)).get? (hp.objs.size + 1) = some (PySem.HandSPX.excO Cc hp.objs.size) := by heap_get
  have I2 : Inv X pins σ (upd H1 (hp.objs.size + 1) (exo (hp.objs.size + 1) Cc none)) ⟨(hp.push (PySem.W.kdv_tup us)).push (PySem.HandSPX.excO Cc hp.objs.size), g, dr, tk, os⟩ :=
    I1.laid (t' := tk) (a := hp.objs.size + 1) (o := exo (hp.objs.size + 1) Cc none) (h' := (hp.push (PySem.W.kdv_tup us)).push (PySem.HandSPX.excO Cc hp.objs.size)) stay up (exo_ok there)
  have r2 : Vals (V.ref (hp.objs.size + 1) :: vs) (Value.ref (hp.objs.size + 1) :: us) := .cons rfl r1
  have len : (Value.ref (hp.objs.size + 1) :: us ++ []).length = ps.length := by
    have z := r2.length
    rw [F1.len _ _ _ _ wish] at z
    rw [List.append_nil]
    exact z.symm
  have few : us.length ≤ sizeLine := by
    rw [← Paired.length r1, sizeLine_eq]
    omega
  have b2 := hb _ (Value.ref (hp.objs.size + 1) :: us) I2.kIn len
  rw [List.append_nil] at b2
  refine wpAny_call (PySem.HandSPX.call_own F.excBase_ValueError (fun Y => PySem.HandSPX.refsVE_contains Y bm hbm) (I1.kIn _ _ hC) (PySem.W.looks_findIn I1.kIn iC) (fun self => PySem.W.bind_fn I1.kIn self tI) few
    (codeAny_mono (F1.run _ X.stack _ _ ⟨Value.ref (hp.objs.size + 1) :: us, []⟩ (Value.ref (hp.objs.size + 1) :: us) _ _ (fun _ _ _ => False) (hr.make Cc us []) (I2.env0.make Cc us []) b2 r2 wish) fun r s' got => ?_))
  cases r with
  | error er => exact hx pins σ _ _ er s' I2 got
  | ok fl =>
    cases fl with
    | ret u =>
      obtain ⟨v, H2, os2, bare2, un2, hok2, rv, ev, d, fs, ea, ed, hd1, q2⟩ := got
      subst ev
      obtain ⟨h2, g2, d2, t2, os'⟩ := s'
      obtain ⟨t0, G, J, kG, ge, hoe, na⟩ := mk_end0 (d2 := d2) (t2 := t2) I1 up stay un2 hok2 os2 bare2 ea ed hd1
      exact ⟨rv, hp.objs.size + 1, _, _, ⟨G, g2, d2, t2, os'⟩, _, .ref Cc, some d, rfl, J, kG, ge, hoe, ⟨rfl, rfl, fun vs hv => by cases hv; rfl⟩, rfl, rfl, na, rfl, bare2, raises_own T.exC T.tyC, q2⟩
    | next => exact False.elim got
    | brk => exact False.elim got
    | cont => exact False.elim got
section
variable {C : Cf} {B : Hp} {X : Cx} {Xd : Xn → EV → Sto → Prop} {x fn wd : Str} {cls : Addr} {e : Expr} {we : RL.WE} {p pos pos' : Pos}
theorem ds_raise1 (xc : Xc1 X.prog X.w X.K X.mg X.base x fn wd cls) (hr : Room 2 X.A) (hc : X.calm = true) (dx : DX C B X Xd) (he : DE C B X e we) (hg : Gl X x := by rfl) (hdb : (x == ("__debug__" : Str)) = false := by decide)
    (hst : starEach [e] X.env = (false, eval e X.env) :: starEach [] X.env := by rfl) (hpl : (backTo pos (starEach [] X.env)).any (·.1) = false := by rfl) : DS C B X (.Raise (some (.Call (.Name x p) [e] [] pos)) none pos') (wRaise1 cls fn wd Xd we) := by
  obtain ⟨W, tk, hW⟩ := dx.ex
  obtain ⟨f, fd, i1, i2, F, b⟩ := xc.ex
  have hx : Passes (L2N.CX X.prog X.w) X (fun _ _ _ => False) := fun pins σ H s e s' I c => (cx_end c).elim
  refine ⟨PSimp (L2N.ps_raise (t := tMkO cls (spXI cls fn wd) [] (tCons _ tNil)) hc tk (mk_oexN xc.T i1 i2 F hr b hx hg xc.at_ (pa_cons he.pe pa_nil hst) hdb hst hpl)) fun D σ H ⟨E, S, Dd, st, h, c⟩ => ?_⟩
  refine ⟨E, S, _, st, h, fun d S1 v H1 e1 r1 s1 h1 => ?_⟩
  refine ⟨by show 1 ≤ 1000; decide, fun a ha => ⟨a, v, rfl, upd_same, fun dd n ne => ⟨rfl, dd, _, by rw [upd_ne ne.symm, upd_same], upd_same, by rw [upd_ne ne] at n; exact n, ?_⟩⟩⟩
  have hn : H1 dd = none := by rw [upd_ne ne] at n; exact n
  rw [made_heap (u3 := exo a cls none) ha ne]
  have ex := Ext.new (C := C) (o := .xd [("word", V.str wd), (fn, v)]) hn
  exact hW ⟨cls, [("word", .str wd), (fn, d)]⟩ E S1 σ _ dd (st.ext (e1.trans ex) (s1.new hn trivial)) ⟨_, upd_same, rfl, .str wd, rfl, r1.ext ex, trivial⟩ h1
end
end RL
namespace RL
open PySem PySem.Spec PyProof.Rows
open L2 hiding WE
/-- the frame of a lambda, what leaves it told with L2N.CX -/
def lamCxN (X : Cx) (A : Around) (outer : List Env) (s : Shared) (H : Hp) (E : XK) (scope : Scope) (f c' : Addr) : Cx :=
  { LamX.lamCx X A outer s H E scope f c' with xe := fun e s' => wpAny (model X.prog X.w) (A.deeper (LamX.lamEnv X scope s.heap.objs.size f c')) (leaving (LamX.lamEnv X scope s.heap.objs.size f c') e) (fun _ s'' => L2N.CX X.prog X.w outer H s E e s'') (fun e' s'' => L2N.CX X.prog X.w outer H s E e' s'') s' }
/-! ### lambdas: no parameter, or one with a written int as its default -/
abbrev LamQ (X : Cx) : Str := X.env.qual ++ "<lambda>"
def LamD (params : Arguments) : Option (Str × Int) → Prop
  | none => params = ⟨[], [], none, [], [], none, []⟩
  | some (a, i) => (a = "_law_a" ∨ a = "_law_b") ∧ ∃ (p p2 : Pos) (j : Nat), params = ⟨[], [⟨a, none, p⟩], none, [], [], none, [.Constant (.int i) j p2]⟩
/-- the defaults' tuple -/
def DflAt (h : Heap) (H : Hp) (fs : List Addr) (dV : Value) : Option (Str × Int) → Prop
  | none => dV = .none
  | some (_, i) => ∃ (T : Addr) (t : Tok), dV = .ref T ∧ h.get? T = some (PySem.W.kdv_tup [.int i t]) ∧ H T = none ∧ T ∉ fs
abbrev lamOb (X : Cx) (params : Arguments) (body : Expr) (scope : Scope) (dV doc pm ctv : Value) (c' : Addr) : Obj := PySem.W.kdv_obj "<lambda>" (LamQ X) params (.expr body) scope (cloFrom X.env.cells scope.names []) dV doc pm c' ctv
/-- what the making of a lambda does to the abstract heap -/
def TabStep (H H1 : Hp) (P : Addr) (q : Str) : Prop := H1 = H ∨ ∃ (ps more : Array Value) (c' : Addr), H P = some (.tbl ps) ∧ H c' = none ∧ H1 = upd (upd H P (.tbl (ps ++ more))) c' (LamX.CodeO c' q)
theorem codeO_ext {c : Addr} {q : Str} : (∀ xs, LamX.CodeO c q ≠ .tup xs) ∧ (∀ o u, LamX.CodeO c q ≠ .frz o u) ∧ (∀ C d fs, LamX.CodeO c q ≠ .ins C d fs) := by
  refine ⟨fun xs z => ?_, fun o u z => ?_, fun C d fs z => ?_⟩ <;> (unfold LamX.CodeO at z; cases z)
theorem TabStep.at {H H1 : Hp} {P : Addr} {q : Str} (t : TabStep H H1 P q) {b : Addr} {u : HO} (h : H b = some u) (n : ∀ ps, u ≠ .tbl ps) : H1 b = some u := by
  rcases t with rfl | ⟨ps, more, c', hP, hc, rfl⟩
  · exact h
  · have n1 : b ≠ c' := fun z => by
      rw [z, hc] at h
      cases h
    have n2 : b ≠ P := fun z => by
      rw [z, hP] at h
      exact n ps (Option.some.inj h).symm
    rw [upd_ne n1, upd_ne n2]
    exact h
theorem TabStep.ext {C : Cf} {H H1 : Hp} {P : Addr} {q : Str} (t : TabStep H H1 P q) : Ext C H H1 :=
  ⟨fun b xs h => t.at h (fun ps z => by cases z), fun b o u h => t.at h (fun ps z => by cases z), fun a dx v1 v2 l h => t.at h (fun ps z => by cases z), fun b fs h => t.at h (fun ps z => by cases z), fun b fs h => t.at h (fun ps z => by unfold LamX.CodeO at z; cases z)⟩
theorem TabStep.sr {K : PySem.W.Frag} {C : Cf} {S : Sto} {H H1 : Hp} {P : Addr} {q : Str} (t : TabStep H H1 P q) (sr : SR K C S H) (tb : LamX.TabS H1 P q) (hm : (P, q) ∈ C.T) (hu : ∀ p ∈ C.T, p.1 = P → p.2 = q) : SR K C S H1 := by
  rcases t with rfl | ⟨ps, more, c', hP, hc, rfl⟩
  · exact sr
  · have t : TabStep H (upd (upd H P (.tbl (ps ++ more))) c' (LamX.CodeO c' q)) P q := .inr ⟨ps, more, c', hP, hc, rfl⟩
    refine sr.go t.ext (fun b h => upd_dom (upd_dom h)) (fun a dx v1 v2 l h _ => ?_) (fun a dx v1 v2 l e n => ⟨(sr.ck _ _ _ _ _ e n).1, fun xs h => t.at h (fun ps z => by cases z)⟩) (fun p o e => ?_) (fun p hp => ?_) (fun _ _ _ _ h => h)
    · have h := upd_old (C := C) (fun dx fs z => (codeO_ext.2.2 _ _ _ z).elim) h
      exact upd_old (C := C) (fun dx fs z => by cases z) h
    · have ob := sr.at_ p o e
      cases o with
      | lst ds =>
        obtain ⟨xs, h1, h2, h3⟩ := ob
        exact ⟨xs, t.at h1 (fun ps z => by cases z), h2.ext t.ext, h3⟩
      | ins fs =>
        obtain ⟨dx, vs, h1, h2, h3⟩ := ob
        exact ⟨dx, vs, t.at h1 (fun ps z => by cases z), h2.ext t.ext, h3⟩
      | clk h c => exact DR.ext t.ext ob
      | lev h c n => exact DR.ext t.ext ob
      | dic kvs =>
        obtain ⟨vs, h1, h2, h3⟩ := ob
        exact ⟨vs, t.at h1 (fun ps z => by cases z), h2, h3.ext t.ext⟩
      | nd kvs =>
        obtain ⟨xs, vs, h1, h2, h3, h4, h5, h6⟩ := ob
        exact ⟨xs, vs, t.at h1 (fun ps z => by unfold ndO at z; cases z), h2, h3, h4.ext t.ext, h5, h6.ext t.ext⟩
    · by_cases hb : p.1 = P
      · have e := hu p hp hb
        obtain ⟨p1, p2⟩ := p
        cases hb
        cases e
        exact tb
      · obtain ⟨ps', h1, h2, h3⟩ := sr.tb p hp
        have n1 : p.1 ≠ c' := fun z => by
          rw [z, hc] at h1
          cases h1
        refine ⟨ps', by rw [upd_ne n1, upd_ne hb]; exact h1, h2, fun pos cv hcv => ?_⟩
        obtain ⟨c2, e1, e2⟩ := h3 pos cv hcv
        exact ⟨c2, e1, t.at e2 fun ps z => by unfold LamX.CodeO at z; cases z⟩
section
variable {X : Cx} {pins : List (Addr × Obj)} {σ : L2.St} {H : Hp} {s : Shared}
theorem no_frame {b : Addr} (I : Inv X pins σ H s) (h : s.heap.objs.size ≤ b) : b ∉ frs X.stack := fun z => by
  rcases List.mem_cons.mp (I.stkSub _ z) with e | e
  · have h1 := I.lt
    rw [← e] at h1
    exact Nat.lt_irrefl _ (Nat.lt_of_lt_of_le h1 h)
  · exact I.nofs h e
/-- the lambda's function object is laid -/
theorem lam_tail {c P : Addr} {params : Arguments} {body : Expr} {scope : Scope} {pos : Pos} {dV : Value} {E : Value → Shared → Prop} {Q : Value → Shared → Prop} (I : Inv X pins σ H s) (TB : LamX.TabB X.base X.mg c P) (hcode : X.env.code = .ref c)
    (hT : LamX.TabS H P (LamQ X)) (hfree : ∀ y ∈ scope.names, y.2 = .free → ∃ c, X.env.cells.lookup y.1 = some c)
    (h : ∀ (f c' : Addr) (doc pm ctv : Value) (H1 : Hp) (s' : Shared), Inv X pins σ H1 s' → TabStep H H1 P (LamQ X) → LamX.TabS H1 P (LamQ X) → s'.heap.get? f = some (lamOb X params body scope dV doc pm ctv c') → H1 f = none → s.heap.objs.size ≤ f → f ∉ frs X.stack →
      H1 c' = some (LamX.CodeO c' (LamQ X)) → (∀ b o, b ≠ P → s.heap.get? b = some o → s'.heap.get? b = some o) → (∀ b, b < s.heap.objs.size → H b = none → H1 b = none) → Q (.ref f) s') :
    wpAny (model X.prog X.w) X.A (makeTail "<lambda>" (LamQ X) params (.expr body) scope X.env dV .none none pos pos.line) Q E s := by
  obtain ⟨ps, hP, ht, ha⟩ := hT
  have bP : s.heap.BuiltinsAt X.mg P := TB.bm.keeps I.bk
  have gP : s.heap.get? P = some (PySem.W.tabObj ps) := I.hok P _ hP
  cases hc : codeAmong pos ps.toList with
  | some cv =>
    obtain ⟨c', rfl, hco⟩ := ha pos cv hc
    refine PySem.W.kdv_makeTailHit (closure_ok hfree) I.ok.glob (I.mod.glob.keeps I.bk) hcode (TB.code.keeps I.bk) gP ht hc bP fun ctv doc h' tk hx hsz => ?_
    have J : Inv X pins σ H { s with heap := h'.push (lamOb X params body scope dV doc ((X.mg "__name__").getD .none) ctv c'), toks := tk } := I.kept fun b o e => Heap.get?_push_of_some _ (hx b o e)
    exact h h'.objs.size c' doc _ ctv H _ J (.inl rfl) ⟨ps, hP, ht, ha⟩ (Heap.get?_push_size _ rfl) (I.hok.fresh hsz) hsz (no_frame I hsz) hco (fun b o _ e => Heap.get?_push_of_some _ (hx b o e)) fun _ _ n => n
  | none =>
    refine PySem.W.kdv_makeTail (closure_ok hfree) I.ok.glob (I.mod.glob.keeps I.bk) hcode (TB.code.keeps I.bk) gP ht hc TB.gP bP fun c' ctv doc h' tk hx hge hlt hrec htb => ?_
    obtain ⟨c2, oc, vs, t, e2, hoc, hd, hv⟩ := hrec
    cases e2
    have hsz : s.heap.objs.size ≤ h'.objs.size := Nat.le_trans hge (Nat.le_of_lt hlt)
    have nC : H c' = none := I.hok.fresh hge
    have J := LamX.inv_table (t' := tk) (more := #[rawInt pos.line, rawInt pos.col, .ref c']) (h' := h'.push (lamOb X params body scope dV doc ((X.mg "__name__").getD .none) ctv c')) I hP
      (fun b o hb e => Heap.get?_push_of_some _ (hx b o hb e)) (Heap.get?_push_of_some _ htb) hge ⟨oc, vs, t, Heap.get?_push_of_some _ hoc, hd, hv⟩
    have st : TabStep H (upd (upd H P (.tbl (ps ++ #[rawInt pos.line, rawInt pos.col, .ref c']))) c' (LamX.CodeO c' (LamQ X))) P (LamQ X) := .inr ⟨ps, _, c', hP, nC, rfl⟩
    refine h h'.objs.size c' doc _ ctv _ _ J st ⟨_, by rw [upd_ne (ne_of_none hP nC), upd_same], ?_, fun p' cv hcv => ?_⟩ (Heap.get?_push_size _ rfl) ?_ hsz (no_frame I hsz) upd_same (fun b o hb e => Heap.get?_push_of_some _ (hx b o hb e)) fun b lt n => by rw [upd_ne (Nat.ne_of_lt (Nat.lt_of_lt_of_le lt hge)), upd_ne (fun z => by rw [z, hP] at n; cases n)]; exact n
    · rw [Array.toList_append]
      exact PySem.TriplesOk_snoc _ _ _ _ ht
    · rw [Array.toList_append] at hcv
      rcases LamX.among_app (pos := pos) _ ht hcv with z | z
      · obtain ⟨c0, e1, e2⟩ := ha p' cv z
        exact ⟨c0, e1, st.at e2 fun ps z => by unfold LamX.CodeO at z; cases z⟩
      · exact ⟨c', z, upd_same⟩
    · rw [upd_ne (Nat.ne_of_gt hlt), upd_ne (Nat.ne_of_gt (Nat.lt_of_lt_of_le (Heap.lt_size gP) hsz))]
      exact I.hok.fresh hsz
/-- lambda: body, or lambda a=i: body, as a value -/
theorem lam_new {c P : Addr} {params : Arguments} {body : Expr} {scope : Scope} {pos : Pos} {o : Option (Str × Int)} {E : Value → Shared → Prop} {Q : Value → Shared → Prop} (I : Inv X pins σ H s) (TB : LamX.TabB X.base X.mg c P) (hcode : X.env.code = .ref c)
    (hT : LamX.TabS H P (LamQ X)) (hd : LamD params o) (hfree : ∀ y ∈ scope.names, y.2 = .free → ∃ c, X.env.cells.lookup y.1 = some c)
    (h : ∀ (f c' : Addr) (dV doc pm ctv : Value) (H1 : Hp) (s' : Shared), Inv X pins σ H1 s' → TabStep H H1 P (LamQ X) → LamX.TabS H1 P (LamQ X) → s'.heap.get? f = some (lamOb X params body scope dV doc pm ctv c') → H1 f = none → s.heap.objs.size ≤ f → f ∉ frs X.stack →
      H1 c' = some (LamX.CodeO c' (LamQ X)) → DflAt s'.heap H1 (frs X.stack) dV o → (∀ T, dV = .ref T → s.heap.objs.size ≤ T) → Q (.ref f) s') :
    wpAny (model X.prog X.w) X.A (eval (.Lambda params body scope pos) X.env) Q E s := by
  cases o with
  | none =>
    have e : params = ⟨[], [], none, [], [], none, []⟩ := hd
    subst e
    refine PySem.W.kla_eval rfl ?_
    rw [makeFunction_eq]
    simp only [List.zip_nil_right, List.filterMap_nil, List.isEmpty_nil, if_true, pure_bind]
    exact lam_tail I TB hcode hT hfree fun f c' doc pm ctv H1 s' J st t1 hf hn hs nf hc _ _ => h f c' .none doc pm ctv H1 s' J st t1 hf hn hs nf hc rfl (fun T z => by cases z)
  | some ai =>
    obtain ⟨a, i⟩ := ai
    obtain ⟨_, p, p2, j, e⟩ := hd
    subst e
    refine PySem.W.kdv_lam rfl rfl (PySem.W.kdv_all1 (wpAny_Constant_int ?_))
    refine PySem.W.kdv_all0 ?_
    rw [makeFunction_eq]
    simp only [List.zip_nil_right, List.filterMap_nil, List.isEmpty_nil, List.isEmpty_cons, Bool.false_eq_true, if_true, if_false, pure_bind]
    refine wpAny_bind (wpAny_newTextTuple ?_)
    have J : Inv X pins σ H { s with heap := s.heap.push (PySem.W.kdv_tup [.int i s.toks]), toks := s.toks + 1 } := I.kept fun b o e => Heap.get?_push_of_some _ e
    have szP : ∀ {b : Addr} {o : Obj}, s.heap.get? b = some o → b ≠ s.heap.objs.size := fun e => Nat.ne_of_lt (Heap.lt_size e)
    have hs0 : s.heap.objs.size < (s.heap.push (PySem.W.kdv_tup [.int i s.toks])).objs.size := by rw [Heap.size_push]; exact Nat.lt_succ_self _
    refine lam_tail (s := { s with heap := s.heap.push (PySem.W.kdv_tup [.int i s.toks]), toks := s.toks + 1 }) J TB hcode hT hfree fun f c' doc pm ctv H1 s' J' st t1 hf hn hs nf hc keep nn => ?_
    obtain ⟨ps, hP, _, _⟩ := hT
    refine h f c' _ doc pm ctv H1 s' J' st t1 hf hn (Nat.le_trans (Nat.le_of_lt hs0) hs) nf hc ⟨s.heap.objs.size, s.toks, rfl, keep _ _ ?_ (Heap.get?_push_size _ rfl), nn _ hs0 (I.hok.fresh (Nat.le_refl _)), no_frame I (Nat.le_refl _)⟩ (fun T z => by cases z; exact Nat.le_refl _)
    exact fun z => szP (I.hok P _ hP) z.symm
end
/-! ### the lambda's names -/
/-- a parameter that nobody else names, captured names and globals -/
structure LamG (N : List Str) (sc scope : Scope) (o : Option (Str × Int)) : Prop where
  kind : scope.kind = .function
  co : scope.isCoroutine = false
  gen : scope.isGenerator = false
  nocell : ∀ y ∈ scope.names, y.2 ≠ .cell
  own : ∀ y ∈ scope.names, y.2 = .local → y.1 ∉ N
  par : ∀ a i, o = some (a, i) → scope.names.lookup a = some .local
  free : ∀ y ∈ scope.names, y.2 = .free → sc.names.lookup y.1 = some .cell ∨ sc.names.lookup y.1 = some .free
def lamGB (N : List Str) (sc scope : Scope) (o : Option (Str × Int)) : Bool :=
  decide (scope.kind = .function) && !scope.isCoroutine && !scope.isGenerator && scope.names.all (fun y => !decide (y.2 = .cell) && (!decide (y.2 = .local) || !N.contains y.1) && (!decide (y.2 = .free) || decide (sc.names.lookup y.1 = some .cell) || decide (sc.names.lookup y.1 = some .free))) &&
    match o with
    | none => true
    | some (a, _) => decide (scope.names.lookup a = some .local)
theorem lamG_by {N : List Str} {sc scope : Scope} {o : Option (Str × Int)} (h : lamGB N sc scope o = true) : LamG N sc scope o := by
  unfold lamGB at h
  simp only [Bool.and_eq_true, Bool.or_eq_true, Bool.not_eq_true', decide_eq_true_eq, decide_eq_false_iff_not, List.all_eq_true] at h
  obtain ⟨⟨⟨⟨h1, h2⟩, h3⟩, h4⟩, h5⟩ := h
  refine ⟨h1, h2, h3, fun y hy => (h4 y hy).1.1, fun y hy e hn => ?_, fun a i e => ?_, fun y hy e => ?_⟩
  · rcases (h4 y hy).1.2 with z | z
    · exact z e
    · rw [List.contains_iff_mem.mpr hn] at z
      cases z
  · subst e
    simpa using h5
  · rcases (h4 y hy).2 with (z | z) | z
    · exact absurd e z
    · exact .inl z
    · exact .inr z
theorem LamG.has {X : Cx} {scope : Scope} {o : Option (Str × Int)} (L : LamG X.N X.env.scope scope o) (ok : X.Ok) : ∀ y ∈ scope.names, y.2 = .free → ∃ c, X.env.cells.lookup y.1 = some c := fun y hy e => by
  rcases L.free y hy e with k | k
  · exact ok.has _ (.inl k)
  · exact ok.has _ (.inr k)
/-- what the call of a lambda binds -/
def bindsOf (t : Tok) : Option (Str × Int) → List (Str × Value)
  | none => []
  | some (a, i) => [(a, .int i t)]
theorem lam_binds {X : Cx} {s : Shared} {H : Hp} {fs : List Addr} {params : Arguments} {body : Expr} {scope : Scope} {cl : List (Str × Addr)} {dV doc pm ctv cv : Value} {q : Str} {o : Option (Str × Int)} (hd : LamD params o) (hD : DflAt s.heap H fs dV o) :
    ∃ t, BindsTo s (PySem.W.kdv_fn "<lambda>" q params (.expr body) scope cl dV doc pm cv ctv) ⟨[], []⟩ (bindsOf t o) := by
  cases o with
  | none =>
    have e : params = ⟨[], [], none, [], [], none, []⟩ := hd
    have e2 : dV = .none := hD
    subst e e2
    exact ⟨0, .of_eq rfl⟩
  | some ai =>
    obtain ⟨a, i⟩ := ai
    obtain ⟨ea, p, p2, j, e⟩ := hd
    obtain ⟨T, t, e2, hT, _⟩ := hD
    subst e e2
    rcases ea with rfl | rfl
    · refine ⟨t, ?_⟩
      refine' BindsTo.of_defaults (T := T) rfl hT rfl ?h1 ?h2
      case h1 => exact rfl
      case h2 => exact rfl
    · refine ⟨t, ?_⟩
      refine' BindsTo.of_defaults (T := T) rfl hT rfl ?h1 ?h2
      case h1 => exact rfl
      case h2 => exact rfl
section
variable {X : Cx} {pins : List (Addr × Obj)} {σ : L2.St} {H HZ : Hp} {s s1 : Shared}
/-- the lambda's body begins -/
theorem lam_in {A : Around} {outer : List Env} {E : XK} {scope : Scope} {f c' : Addr} {h₁ : Heap} {tk : Nat} {o : Option (Str × Int)} {bs : List (Str × Value)} (I : Inv X pins σ H s) (L : LamG X.N X.env.scope scope o) (e0 : Env0 X.prog X.w X.K X.mg X.base A outer s1 HZ) (hd : A.handled = none)
    (un : Un (frs X.stack) [] H HZ s.heap s1.heap) (hns : h₁.Ns s1.heap.objs.size fun y => bs.reverse.lookup y) (kp : ∀ b u, s1.heap.get? b = some u → h₁.get? b = some u) :
    Inv (lamCxN X A outer s1 HZ E scope f c') [] σ HZ { s1 with heap := h₁, toks := tk } := by
  have cl0 := L.has I.ok
  have back : ∀ {y c}, (cloFrom X.env.cells scope.names []).lookup y = some c → X.env.cells.lookup y = some c := fun {y c} e => by
    rcases cloFrom_mem (PySem.mem_of_lookup e) with m | ⟨h1, h2⟩
    · cases m
    · obtain ⟨c1, k⟩ := cl0 _ h1 rfl
      have k : X.env.cells.lookup y = some c1 := k
      have e2 : c = c1 := by
        rw [h2, k] <;> rfl
      rw [e2]
      exact k
  have forth : ∀ {y}, scope.names.lookup y = some .free → ∃ c, (cloFrom X.env.cells scope.names []).lookup y = some c := fun {y} hl => mem_lookup (cloFrom_has (cells := X.env.cells) (acc := []) (PySem.mem_of_lookup hl))
  have keepCell : ∀ {c : Addr} {v : Option Value}, H c = none → s.heap.IsCell c v → h₁.IsCell c v := fun {c v} n ⟨u, hu, d⟩ => by
    obtain ⟨sl, q⟩ := un.any hu n (by simp)
    exact ⟨_, kp _ _ q, d⟩
  have out : ∀ b : Addr, b ∉ (lamCxN X A outer s1 HZ E scope f c').ex := fun b z => absurd (show b ∈ ([] : List Addr) from z) (by simp)
  refine ⟨⟨e0.mod, L.kind, rfl, rfl, Nat.le_refl _, fun y z c e1 e2 => I.ok.inj y z c (back e1) (back e2), fun y hy => ?_, fun y c z _ => ?_, fun _ => hd, Around.frames_deeper e0.frames, .inr ⟨rfl, rfl⟩, fun b z => absurd z (out b), e0.bs, e0.bsz, fun b _ _ => out b, fun b z => absurd z (out b), e0.funs, e0.frf⟩,
    rfl, e0.bare, Un.kept kp, ⟨_, hns, fun i y v e1 e2 e3 => ?_⟩, fun y c e => ?_, e0.hok.fresh (Nat.le_refl _), fun y c e => ?_, fun q hq => absurd (show q ∈ ([] : List (Addr × Obj)) ++ [] from hq) (by simp), e0.hok.kept kp, I.len⟩
  · rcases (show scope.names.lookup y = some .cell ∨ scope.names.lookup y = some .free from hy) with k | k
    · exact absurd rfl (L.nocell _ (PySem.mem_of_lookup k))
    · exact forth k
  · cases (show false = true from z)
  · rcases (show Vis scope y from e3) with k | k | k
    · exact absurd (List.mem_of_getElem? e1) (L.own _ (PySem.mem_of_lookup k) rfl)
    · exact absurd rfl (L.nocell _ (PySem.mem_of_lookup k))
    · obtain ⟨m, hn, hl⟩ := I.loc
      have seen : Vis X.env.scope y := (L.free _ (PySem.mem_of_lookup k) rfl).elim (fun k => .inr (.inl k)) fun k => .inr (.inr k)
      obtain ⟨w', r, q⟩ := hl i y v e1 e2 seen
      obtain ⟨c2, h2⟩ := forth k
      have c1 := back h2
      refine ⟨w', r, .inr ⟨.inr k, c2, h2, ?_⟩⟩
      rcases q with ⟨k', _⟩ | ⟨_, c3, e', z⟩
      · have k' : X.env.scope.names.lookup y = some .local := k'
        rcases L.free _ (PySem.mem_of_lookup k) rfl with k2 | k2 <;> rw [show X.env.scope.names.lookup y = _ from k2] at k' <;> cases k'
      · rw [c1] at e'
        cases e'
        exact keepCell (I.freeC y _ c1) z
  · obtain ⟨w', z⟩ := I.cell y c (back e)
    exact ⟨w', keepCell (I.freeC y c (back e)) z⟩
  · obtain ⟨v, u, hu, d⟩ := I.cell y c (back e)
    exact un.free c u hu (I.freeC y c (back e)) (by simp)
/-- ask(), in the def that got the lambda at f: Z, that def's context, was entered at s -/
theorem lam_call {CXg : CXT} {Eg : XK} {Ng : List Str} {qg : Str} {sg : Scope} {g f c' : Addr} {cdg dV doc pm ctv : Value} {params : Arguments} {body : Expr} {scope : Scope} {k i : Nat} {a : Str} {pn : List (Addr × Obj)} {xe : Value → Shared → Prop} {W : WX} {E : XK} {tb : TE} {p1 p2 : Pos} {o : Option (Str × Int)}
    (I : Inv X pins σ H s) (L : LamG X.N X.env.scope scope o) (hp : LamD params o) (hf : s.heap.get? f = some (lamOb X params body scope dV doc pm ctv c')) (hfn : H f = none) (hfr : f ∉ frs X.stack) (hD : DflAt s.heap H (frs X.stack) dV o)
    (tk : L2N.Takes ((cxOf CXg X.prog X.w X.K X.mg X.base Ng qg sg g cdg X.A X.stack s H Eg).tr pn xe) W) (hW : ∀ cls d σ' H', σ'.length = Ng.length → E cls d H' → W cls d σ' H') (hr : Room (k + 1) (X.A.deeper (envOfC qg sg s.heap.objs.size g cdg)))
    (hbody : ∀ (A : Around) (outer : List Env) (s : Shared) (H : Hp), Room k (A.deeper (LamX.lamEnv X scope s.heap.objs.size f c')) → PE (lamCxN X A outer s H E scope f c') body tb)
    (hN : Ng[i]? = some a) (hv : Vis sg a) (hd : (a == ("__debug__" : Str)) = false := by decide) (hcd : (a == ("__classdict__" : Str)) = false := by decide) :
    PE ((cxOf CXg X.prog X.w X.K X.mg X.base Ng qg sg g cdg X.A X.stack s H Eg).tr pn xe) (.Call (.Name a p1) [] [] p2)
      (fun σZ HZ Q => σZ[i]? = some (some (.ref f)) ∧ HZ c' = some (LamX.CodeO c' (LamQ X)) ∧ tb σ HZ Q) := by
  refine ⟨fun pinsZ sZ σZ HZ Q IZ h => ?_⟩
  obtain ⟨hs, hc, ht⟩ := h
  refine wpAny_Call_Name_kw (thn ((pe_var (pos := p1) (i := i) hN hv hd hcd).run pinsZ sZ σZ HZ (fun v H1 => v = .ref f ∧ H1 = HZ) IZ ⟨.ref f, hs, rfl, rfl⟩) fun u s1 ⟨v, H1, I1, r1, q1⟩ => ?_)
  obtain ⟨rfl, eH⟩ := q1
  rw [eH] at I1
  obtain rfl : u = Value.ref f := r1
  have none_ex : ∀ b : Addr, b ∉ ([] : List Addr) := fun b z => nomatch z
  have atF : s1.heap.get? f = some (lamOb X params body scope dV doc pm ctv c') := I1.base.keep f _ hf hfn hfr (none_ex f)
  have atD : DflAt s1.heap HZ (frs X.stack) dV o := by
    cases o with
    | none => exact hD
    | some ai =>
      obtain ⟨T, t, e, h1, h2, h3⟩ := hD
      exact ⟨T, t, e, I1.base.keep T _ h1 h2 h3 (none_ex T), I1.base.free T _ h1 h2 (none_ex T), h3⟩
  refine PySem.W.callWith_F0 ⟨_, _, _, _, atF⟩ ?_
  have un : Un (frs X.stack) [] H HZ s.heap s1.heap := I1.base
  obtain ⟨⟨oc, vs, t, hoc, hdc, hvc⟩, _, _⟩ := I1.hok c' _ hc
  obtain ⟨tt, hb⟩ := lam_binds (X := X) (body := body) (scope := scope) (cl := cloFrom X.env.cells scope.names []) (doc := doc) (pm := pm) (ctv := ctv) (cv := .ref c') (q := LamQ X) hp atD
  have rc : codeAny (model X.prog X.w) (X.A.deeper (envOfC qg sg s.heap.objs.size g cdg)) (.call (.ref f) ⟨[], []⟩) (CR (L2N.CX X.prog X.w) (envOfC qg sg s.heap.objs.size g cdg :: X.stack) X.prog X.w HZ s1 Q E) s1 := by
    refine PySem.W.kla_callFunE hr.depth atF rfl L.co L.gen rfl ⟨c', oc, vs, t, rfl, hoc, hdc, hvc⟩ (hb _ _ _ _ ?_)
    refine wpAny_newFunctionEnv (fun y hy => L.nocell y hy) (fun y hy => ?_) (fun h₁ hns hsb => ⟨I1.nolimit.fresh _ hsb, ?_⟩) L.kind
    · cases o with
      | none => cases hy
      | some ai =>
        obtain ⟨a0, i0⟩ := ai
        have ey : y = (a0, Value.int i0 tt) := List.mem_singleton.mp hy
        rw [ey]
        exact L.par a0 i0 rfl
    · show codeAny _ _ (.expr body (LamX.lamEnv X scope s1.heap.objs.size f c')) _ _
      have kp : ∀ b u, s1.heap.get? b = some u → h₁.get? b = some u := fun b u e => hsb.extBut b u (Nat.ne_of_lt (Heap.lt_size e)) (Heap.get?_push_of_some _ e)
      have J : Inv (lamCxN X (X.A.deeper (envOfC qg sg s.heap.objs.size g cdg)) (envOfC qg sg s.heap.objs.size g cdg :: X.stack) s1 HZ E scope f c') [] σ HZ { s1 with heap := h₁, toks := s1.toks + (bindsOf tt o).length } :=
        lam_in I L I1.env0 hr.hd un hns kp
      refine PySem.W.kla_codeExpr (wpAny_mono ((hbody _ _ s1 HZ (hr.deeper _)).run [] _ _ HZ Q J ht) (fun v s' hq => ?_) fun e s' hq => hq)
      obtain ⟨w', H', J', rv, q⟩ := hq
      exact ⟨w', H', J'.os, J'.bare, J'.base, J'.hok, rv, q⟩
  have hx := L2N.passAt tk σZ pinsZ HZ s1
  refine wpAny_call (codeAny_mono rc fun r s' hq => ?_)
  cases r with
  | error e =>
    obtain ⟨a1, B1, H2, cls, d, z1, z2, z3, z4, z5, z6, z7, z8⟩ := hq
    exact hx e s' I1 ⟨a1, B1, H2, cls, d, z1, z2, z3, z4, z5, z6, z7, hW cls d σZ H2 I1.len z8⟩
  | ok fl =>
    cases fl with
    | ret u => exact I1.after hq
    | next => exact False.elim hq
    | brk => exact False.elim hq
    | cont => exact False.elim hq
end
end RL
namespace RL
open PySem PySem.Spec PyProof.Rows
open L2 hiding WE
/-! ### try: .. except A as n: .. except B as n: .. -/
abbrev Suite := Addr → Value → Option Addr → TS
/-- behind a suite its name is gone -/
def endsAs (i : Nat) (D : Ends) : Ends := { nx := fun σ' H' => D.nx (σ'.set i none) H', rt := D.rt, bk := fun σ' H' => D.bk (σ'.set i none) H', ct := fun σ' H' => D.ct (σ'.set i none) H' }
/-- what the clauses wish of an exception: one of them takes it -/
def wClauses (K : PySem.W.Frag) (i : Nat) (D : Ends) : List (Value × Suite) → WX
  | [] => fun _ _ _ _ => False
  | (c, ts) :: r => fun cls d σ H => ∃ b, PySem.W.exmOne K cls c = some b ∧ (b = true → ∀ a, H a = none → ts a cls d (endsAs i D) (σ.set i (some (.ref a))) H) ∧ (b = false → wClauses K i D r cls d σ H)
inductive Clauses (X : Cx) (n : Str) : List ExceptHandler → List (Value × Suite) → Prop
  | nil : Clauses X n [] []
  | cons {x : Str} {c : Value} {ts : Suite} {st : Stmt} {sts : List Stmt} {np pos : Pos} {hs : List ExceptHandler} {l : List (Value × Suite)} (hc : Names X x c)
      (su : ∀ (a : Addr) (oe : Obj) (cls : Value) (d : Option Addr) (pn : List (Addr × Obj)), L2N.Zn cls d oe → (∃ vs, oe.data = .fields vs) → PSs (X.suite a ((a, oe) :: pn)) (st :: sts) (ts a cls d)) (r : Clauses X n hs l) :
      Clauses X n (.ExceptHandler (some (.Name x np)) (some n) (st :: sts) pos :: hs) ((c, ts) :: l)
section
variable {X : Cx} {n : Str} {i : Nat} {body : List Stmt} {h0 : ExceptHandler} {hs : List ExceptHandler} {l : List (Value × Suite)} {pos : Pos} {tb : WX → TS}
theorem ps_try_clauses (es : X.stack = X.env :: X.outer) (ef : X.env.frame = some X.env.locals) (hN : X.N.Nodup) (hi : X.N[i]? = some n) (hl : X.env.kindOf n = some .local)
    (hb : ∀ (W : WX) (pn : List (Addr × Obj)) (xe : Value → Shared → Prop), L2N.Takes (X.tr pn xe) W → PassesOwn (model X.prog X.w) X.A X.env xe → PSs (X.tr pn xe) body (tb W))
    (hh : Clauses X n (h0 :: hs) l) : PS X (.Try body (h0 :: hs) [] [] pos) (fun D σ H => tb (wClauses X.K i D l) D σ H) := by
  refine ⟨fun pins s σ H D I w => ?_⟩
  have ok := I.ok
  have fr0 : X.A.frames = some (X.env :: X.outer) := ok.frames.trans (congrArg some es)
  refine wpAny_Try_except (wpAny_mono ((hb (wClauses X.K i D l) (X.pn ++ pins) (fun e t1 => wpAny (model X.prog X.w) X.A (noteFrame e X.env) (fun _ t2 => wpAny (model X.prog X.w) X.A (setFlight e none) (fun _ t3 =>
    wpAny (model X.prog X.w) X.A (handleBy e X.env (h0 :: hs)) (SP X pins D) X.xe t3) X.xe t2) X.xe t1) (fun u t xx => ?_) PassesOwn.looking).run [] s σ H D (I.toTry _) w) (fun fl t hsp => ?_) fun _ _ he => he)
  · obtain ⟨a, B, t0, pins1, σ1, H1, cls, d, rfl, J1, nb, up, sky, na, os, ag, w1⟩ := xx
    have J : Inv X pins σ1 H1 t0 := J1.ofTry ok
    have sky1 : Sky B (X.env :: X.outer) a (L2N.Zn cls d) X.env.locals t.heap := es ▸ sky
    show wpAny (model X.prog X.w) X.A (noteFrame (.ref a) X.env) _ _ _
    refine L2N.Sky.land L2N.Zn.steady fr0 ef sky1 fun g1 fl1 up1 => ?_
    have off : ∀ {o : Obj} {vs : Array Value}, g1.get? a = some o → o.data = .fields vs → a ∉ frs (X.env :: X.outer) := fun {o vs} e dd hm => by
      obtain ⟨_, o', e', no⟩ := fl1.2.2.1.mem hm
      rw [e] at e'
      cases e'
      exact no _ dd
    obtain ⟨o1, vs1, ho1, hz1, hd1⟩ := fl1.there
    have offA := off ho1 hd1
    have nL : a ≠ X.env.locals := fun z => offA (List.mem_filterMap.mpr ⟨X.env, .head _, by rw [ef, z]⟩)
    have nF : a ∉ X.fs := fun hm => by
      obtain ⟨e, he, q⟩ := List.mem_filterMap.mp hm
      exact offA (List.mem_filterMap.mpr ⟨e, .tail _ he, q⟩)
    have J2 : Inv X pins σ1 H1 { t with heap := g1 } := J.landed nb fl1.1 (up.trans up1) os ag
    have SU := J2.suite ho1 hd1 na nL nF
    have go : ∀ {hs' : List ExceptHandler} {l' : List (Value × Suite)}, Clauses X n hs' l' → wClauses X.K i D l' cls d σ1 H1 → wpAny (model X.prog X.w) X.A (handleBy (.ref a) X.env hs') (SP X pins D) X.xe { t with heap := g1 } := by
      intro hs' l' hk
      induction hk with
      | nil => exact fun z => False.elim z
      | @cons x c ts st sts np ps2 hs2 l2 hc su r ih =>
        rintro ⟨b, e1, yes, no⟩
        refine wpAny_handleBy_cons (codeAny_handlers_test ?_) fun q => by cases q
        have ty : PySem.W.Looks (model X.prog X.w) g1 (typeOf (.ref a)) cls := fun A Q E s k q => wpAny_typeOf_ref (k _ _ ho1) (by rw [hz1.1]; exact q)
        have ask : ∀ {Q : Value → Shared → Prop} {E : Value → Shared → Prop}, Q c { t with heap := g1 } → wpAny (model X.prog X.w) (X.A.mark (some (.ref a))) (eval (.Name x np) X.env) Q E { t with heap := g1 } := fun {Q E} q => by
          obtain ⟨hg, hdbg, hm | ⟨hm, hv, hnn⟩⟩ := hc
          · exact ld_glob (X := X.suite a ((a, o1) :: (X.pn ++ pins))) SU hg hm q hdbg
          · exact ld_blt (X := X.suite a ((a, o1) :: (X.pn ++ pins))) SU hg hm hv q hnn hdbg
        refine ask ((PySem.W.exm_one (M := model X.prog X.w) J2.kIn ty e1).here ?_)
        cases b with
        | false => exact ih (no rfl)
        | true =>
          refine codeAny_handlers_suite_as (HandSPX.lands_againZ fl1 fun g2 fl2 up2 => ?_)
          have J3 : Inv X pins σ1 H1 { t with heap := g2 } := J.landed nb fl2.1 ((up.trans up1).trans up2) os ag
          obtain ⟨o2, vs2, ho2, hz2, hd2⟩ := fl2.there
          refine store_ok (X := X.suite a ((a, o2) :: (X.pn ++ pins))) (v := .ref a) (J3.suite ho2 hd2 na nL nF) hN hi (.inl hl) rfl (fun t5 S5 => ?_) (.inr hl)
          refine wpAny_mono ((su a o2 cls d (X.pn ++ pins) hz2 ⟨_, hd2⟩).run [] t5 _ H1 _ S5 (yes rfl a na)) (fun fl t6 hsp => ?_) fun _ _ z => False.elim z
          have gone : ∀ {σ6 : L2.St} {H6 : Hp} {Q : Shared → Prop}, Inv (X.suite a ((a, o2) :: (X.pn ++ pins))) [] σ6 H6 t6 → (∀ t7, Inv X pins (σ6.set i none) H6 t7 → Q t7) →
              wpAny (model X.prog X.w) X.A (do bindName X.env n .none; unbindBehindTheSuite X.env n ps2) (fun _ t7 => Q t7) X.xe t6 := fun {σ6 H6 Q} S6 hq => gone_ok (S6.unsuite ok) hN hi hl hq
          cases fl with
          | ret u =>
            obtain ⟨v, σ6, H6, S6, rv, q⟩ := hsp
            exact gone S6 fun t7 J7 => ⟨_, _, _, J7, rv, q⟩
          | next =>
            obtain ⟨σ6, H6, S6, q⟩ := hsp
            exact gone S6 fun t7 J7 => ⟨_, _, J7, q⟩
          | brk =>
            obtain ⟨σ6, H6, S6, q⟩ := hsp
            exact gone S6 fun t7 J7 => ⟨_, _, J7, q⟩
          | cont =>
            obtain ⟨σ6, H6, S6, q⟩ := hsp
            exact gone S6 fun t7 J7 => ⟨_, _, J7, q⟩
    exact go hh w1
  · cases fl with
    | ret u =>
      obtain ⟨v, σ1, H1, J1, rv, q⟩ := hsp
      exact ⟨v, σ1, H1, J1.ofTry ok, rv, q⟩
    | next =>
      obtain ⟨σ1, H1, J1, q⟩ := hsp
      exact wpAny_execs_nil ⟨σ1, H1, J1.ofTry ok, q⟩
    | brk =>
      obtain ⟨σ1, H1, J1, q⟩ := hsp
      exact ⟨σ1, H1, J1.ofTry ok, q⟩
    | cont =>
      obtain ⟨σ1, H1, J1, q⟩ := hsp
      exact ⟨σ1, H1, J1.ofTry ok, q⟩
end
end RL
namespace RL
open PySem PySem.Spec PyProof.Rows
open L2 hiding WE
/-! ### in, of flat items -/
def vOf : D → V
  | .bl b => .bl b
  | .int i => .int i
  | .str x => .str x
  | _ => .non
def flatD : D → Bool
  | .non => true
  | .bl _ => true
  | .int _ => true
  | .str _ => true
  | _ => false
theorem DR.flat {K : PySem.W.Frag} {C : Cf} {H : Hp} {d : D} {v : V} (h : flatD d = true) (r : DR K C H d v) : v = vOf d ∧ flatV v = true := by
  cases r <;> first | exact ⟨rfl, rfl⟩ | (cases h)
theorem DRs.flat {K : PySem.W.Frag} {C : Cf} {H : Hp} : ∀ {ds : List D} {vs : List V}, ds.all flatD = true → DRs K C H ds vs → vs = ds.map vOf ∧ vs.all flatV = true
  | _, _, _, .nil => ⟨rfl, rfl⟩
  | d :: ds, v :: vs, h, .cons r t => by
    rw [List.all_cons, Bool.and_eq_true] at h
    obtain ⟨e1, e2⟩ := r.flat h.1
    obtain ⟨e3, e4⟩ := DRs.flat h.2 t
    rw [List.map_cons, List.all_cons, ← e1, ← e3, e2, e4]
    exact ⟨rfl, rfl⟩
def inD (x : D) (ds : List D) : Bool := L2.inV (vOf x) (ds.map vOf)
def dIn : R2D := fun x y S Q => flatD x = true ∧ match y with
  | .tup ds => ds.all flatD = true ∧ Q (.bl (inD x ds)) S
  | .lst ds => ds.all flatD = true ∧ Q (.bl (inD x ds)) S
  | .ref p => ∃ ds, S p = some (.lst ds) ∧ ds.all flatD = true ∧ Q (.bl (inD x ds)) S
  | _ => False
theorem od_in {C : Cf} {X : Cx} : OpR X (compareOp .In) (lift2 X.K C dIn) := by
  rintro pins s σ H x y v u Q I rx ry ⟨dx, dy, S, Qd, r1, r2, sr, ⟨fx, h⟩, c⟩
  obtain ⟨ex, fx⟩ := r1.flat fx
  cases dy <;> first | exact False.elim h | skip
  · cases r2
    obtain ⟨ds, h1, h2, h3⟩ := h
    obtain ⟨xs, q1, q2, q3⟩ := sr.ob _ _ h1
    obtain ⟨e, f⟩ := q2.flat h2
    refine op_in_seq pins s σ H _ _ v u Q I rx ry ⟨_, xs, rfl, .inl (.inl (.inl q1)), fx, f, ?_⟩
    rw [e, ex]
    exact c.now (.bl _) sr h3
  · cases r2 with
    | tup a b z =>
      obtain ⟨e, f⟩ := b.flat h.1
      refine op_in_seq pins s σ H _ _ v u Q I rx ry ⟨_, _, rfl, .inr a, fx, f, ?_⟩
      rw [e, ex]
      exact c.now (.bl _) sr h.2
  · cases r2 with
    | lst a b z =>
      obtain ⟨e, f⟩ := b.flat h.1
      refine op_in_seq pins s σ H _ _ v u Q I rx ry ⟨_, _, rfl, .inl (.inl (.inr ⟨_, a⟩)), fx, f, ?_⟩
      rw [e, ex]
      exact c.now (.bl _) sr h.2
/-! ### the exception that is caught, its fields -/
theorem XR.ext {K : PySem.W.Frag} {C : Cf} {H H' : Hp} {xn : Xn} {dd : Addr} (x : XR K C H xn dd) (e : Ext C H H') : XR K C H' xn dd := by
  obtain ⟨vs, h1, h2⟩ := x
  exact ⟨vs, e.xd _ _ h1, h2.ext e⟩
/-- the exception at a stands pinned in this context, with the fields of xn -/
structure Caught (C : Cf) (B : Hp) (X : Cx) (a : Addr) (xn : Xn) : Prop where
  ex : ∃ (oe : Obj) (dd : Addr), (a, oe) ∈ X.pn ∧ L2N.Zn (.ref xn.cls) (some dd) oe ∧ (∃ vs, oe.data = .fields vs) ∧ XR X.K C B xn dd
  hand : X.A.handled = some (.ref a)
  cls : XfC X.K xn.cls
  no : ∀ f v, xn.fs.lookup f = some v → PySem.W.findIn X.K (.ref xn.cls) f = some none
theorem Caught.hot {C : Cf} {B : Hp} {X : Cx} {a : Addr} {xn : Xn} (k : Caught C B X a xn) : L2H.HotC X := by
  obtain ⟨oe, dd, hm, hz, ⟨vs, hd⟩, _⟩ := k.ex
  exact ⟨(a, oe), ⟨k.hand, vs, hd, hz.2.2 vs hd⟩, hm⟩
def wXf (a : Addr) (xn : Xn) (n : Str) (we : RL.WE) : RL.WE := fun E S Q => we E S fun x S1 => x = .ref a ∧ ∃ v, xn.fs.lookup n = some v ∧ Q v S1
section
variable {C : Cf} {B : Hp} {X : Cx} {a : Addr} {xn : Xn} {e : Expr} {we : RL.WE} {n : Str} {pos : Pos}
theorem de_xf (k : Caught C B X a xn) (he : DE C B X e we) (hb : attributeBase e n X.env (eval e X.env) = eval e X.env := by rfl) : DE C B X (.Attribute e n pos) (wXf a xn n we) := by
  obtain ⟨oe, dd, hm, hz, ⟨vs, hd⟩, hx⟩ := k.ex
  refine ⟨⟨fun pins s σ H Q I ⟨E, S, Qd, st, h, c⟩ => ?_⟩⟩
  refine attr_of hb (thn (he.pe.run pins s σ H (fun v H1 => v = .ref a ∧ Ext C B H1 ∧ ∃ d S1 y, xn.fs.lookup n = some d ∧ DR X.K C H1 d y ∧ (∃ fs, H1 dd = some (.xd fs) ∧ fs.lookup n = some y) ∧ SR X.K C S1 H1 ∧ Qd d S1 ∧ Cl X.K C H1 Qd Q) I ⟨E, S, _, st, h, fun x S1 v H1 e1 r1 s1 h1 => ?_⟩) fun u s1 hh => ?_)
  · obtain ⟨rfl, d, h2, h3⟩ := h1
    cases r1
    have e2 : Ext C B H1 := st.base.trans e1
    obtain ⟨fs, q1, q2⟩ := hx.ext e2
    obtain ⟨y, y1, y2⟩ := q2.look h2
    exact ⟨rfl, e2, d, S1, y, h2, y2, ⟨fs, q1, y1⟩, s1, h3, c.mono e1⟩
  · obtain ⟨v, H1, I1, rv, rfl, e2, d, S1, y, h2, r2, ⟨fs, q1, q2⟩, s1', h3, c1⟩ := hh
    obtain rfl : u = Value.ref a := rv
    obtain ⟨ga, _⟩ := I1.pin (a, oe) (List.mem_append_left _ hm)
    obtain ⟨mA, hns, hr⟩ : ObjOk X.prog X.w H1 s1.heap dd (.xd fs) := I1.hok dd _ q1
    obtain ⟨od, ho, hl⟩ := lookIn_ns hns
    obtain ⟨w, hw, rw'⟩ := RelO.some_of (v := y) (o := mA n) (by rw [← q2]; exact hr n)
    have J : PySem.W.InstAt s1.heap a oe xn.cls (some od) := ⟨ga, hz.1, by unfold PySem.W.notCls; rw [hd] <;> rfl, by rw [hz.2.1]; exact ho⟩
    exact HandSPX.exc_get I1.kIn J k.cls.ga k.cls.gg k.cls.exC (PySem.W.findObj_own k.cls.hdC (k.no _ _ h2) rfl (by rw [hl, hw])) (handed_of rw') ⟨y, H1, I1.tok _, rw', c1.now r2 s1' h3⟩
end
/-- rows that are not reached -/
theorem dss_dead {C : Cf} {B : Hp} {X : Cx} {sts : List Stmt} : DSs C B X sts (fun _ _ _ => False) := ⟨⟨fun pins s σ H D I ⟨_, _, _, _, h, _⟩ => h.elim⟩⟩
end RL
namespace RL
open PySem PySem.Spec PyProof.Rows
open L2 hiding WE
/-! ### a def that is handed the exception that is handled -/
/-- an exception as it stands: its class, its fields, what the class must say -/
structure XnOk (K : PySem.W.Frag) (hang : Addr) (xn : Xn) : Prop where
  exm : PySem.W.exmOne K (.ref xn.cls) (.ref hang) = some true
  cls : XfC K xn.cls
  no : ∀ f v, xn.fs.lookup f = some v → PySem.W.findIn K (.ref xn.cls) f = some none
abbrev XSp := Xn → Sto → KD → Prop
/-- the def x, called in an except suite with the exception (one parameter) -/
structure DfX (P : Program) (w : World) (K : PySem.W.Frag) (mg : Str → Option Value) (base : Heap) (C : Cf) (x : Str) (k : Nat) (sp : XSp) : Prop where
  ex : ∃ (f : Addr) (fd : FuncData) (p : Str), mg x = some (.ref f) ∧ PySem.W.keepIn K (.ref f) = true ∧ Binds K fd [p] [] ∧
    ∀ (A : Around) (outer : List Env) (s : Shared) (H : Hp) (args : Args) (us : List Value) (Q : VK) (a dd : Addr) (oe : Obj) (xn : Xn) (S : Sto) (Qd : KD), L2H.RoomH k A → A.handled = some (.ref a) → L2H.PinOk outer H s (a, oe) → Env0 P w K mg base A outer s H → BindsTo s fd args ([p].zip us) → Vals [V.ref a] us →
      L2N.Zn (.ref xn.cls) (some dd) oe → (∃ vs, oe.data = .fields vs) → XR K C H xn dd → XfC K xn.cls → (∀ f v, xn.fs.lookup f = some v → PySem.W.findIn K (.ref xn.cls) f = some none) → SR K C S H → sp xn S Qd → Cl K C H Qd Q →
      codeAny (model P w) A (.call (.ref f) args) (CR (L2N.CX P w) outer P w H s Q (fun _ _ _ => False)) s
def wCaught (a : Addr) (xn : Xn) (sp : XSp) (we : RL.WE) : RL.WE := fun E S Q => we E S fun x S1 => x = .ref a ∧ sp xn S1 Q
theorem de_caught {C : Cf} {B : Hp} {X : Cx} {a : Addr} {xn : Xn} {k : Nat} {sp : XSp} {x : Str} {e : Expr} {we : RL.WE} {p pos : Pos} (d : DfX X.prog X.w X.K X.mg X.base C x k sp) (kc : Caught C B X a xn) (hr : L2H.RoomH k X.A) (he : DE C B X e we) (hg : Gl X x) (hdb : (x == ("__debug__" : Str)) = false := by decide)
    (hst : starEach [e] X.env = (false, eval e X.env) :: starEach [] X.env := by rfl) (hpl : (backTo pos (starEach [] X.env)).any (·.1) = false := by rfl) : DE C B X (.Call (.Name x p) [e] [] pos) (wCaught a xn sp we) := by
  obtain ⟨f, fd, pn, hm, hk, hb, run⟩ := d.ex
  obtain ⟨oe, dd, hmem, hz, hf, hx⟩ := kc.ex
  refine ⟨⟨fun pins s σ H Q I ⟨E, S, Qd, st, h, c⟩ => ?_⟩⟩
  refine wpAny_Call_Name_kw (ld_glob I hg hm ?_ hdb)
  refine PySem.W.callWith_K (h₀ := X.base) I.ok.mod.kin hk (thn ((pa_cons he.pe pa_nil hst).run pos pins s σ H (fun vs H1 => vs = [.ref a] ∧ Ext C B H1 ∧ ∃ S1, SR X.K C S1 H1 ∧ sp xn S1 Qd ∧ Cl X.K C H1 Qd Q) I ⟨E, S, _, st, h, fun y S1 v H1 e1 r1 s1 h1 => ?_⟩) fun us s1 hh => ?_) hst hpl
  · obtain ⟨rfl, h2⟩ := h1
    cases r1
    exact ⟨rfl, st.base.trans e1, S1, s1, h2, c.mono e1⟩
  · obtain ⟨vs, H1, I1, r1, rfl, e2, S1, s1', h2, c1⟩ := hh
    refine ⟨I1.kIn, ?_⟩
    have hl : us.length = 1 := r1.length.symm
    have b := hb s1 us I1.kIn (by rw [List.append_nil]; exact hl)
    rw [List.append_nil] at b
    have P1 := I1.pin (a, oe) (List.mem_append_left _ hmem)
    have pin : L2H.PinOk X.stack H1 s1 (a, oe) := ⟨P1.1, P1.2.1, fun z => (List.mem_cons.mp (I1.stkSub a z)).elim P1.2.2.1 P1.2.2.2.1, P1.2.2.2.2⟩
    refine wpAny_call (codeAny_mono (run X.A X.stack s1 H1 ⟨us, []⟩ us Q a dd oe xn S1 Qd hr kc.hand pin I1.env0 b r1 hz hf (hx.ext e2) kc.cls kc.no s1' h2 c1) fun r s' hq => ?_)
    cases r with
    | error e => exact (cx_end hq).elim
    | ok fl =>
      cases fl with
      | ret u => exact I1.after hq
      | next => exact hq.elim
      | brk => exact hq.elim
      | cont => exact hq.elim
end RL
namespace RL
open PySem PySem.Spec PyProof.Rows
open L2 hiding WE
/-! ### _law_tried(lambda: ..) -/
/-- the suite: return (e.word, field(e)) -/
def suiteR (K : PySem.W.Frag) (C : Cf) (hang : Addr) (sp : XSp) : Suite := fun a cls d D σ H => ∃ (xn : Xn) (dd : Addr), cls = .ref xn.cls ∧ d = some dd ∧ XR K C H xn dd ∧ XnOk K hang xn ∧
  liftS K C H (wRet (wTup (wCons (wXf a xn "word" (wVar 1)) (wCons (wCaught a xn sp (wVar 1)) wNil)))) D σ H
theorem suite_ok {X : Cx} {C : Cf} {hang a : Addr} {oe : Obj} {cls : Value} {d : Option Addr} {pn : List (Addr × Obj)} {k : Nat} {sp : XSp} {fld : Str} {p1 p2 p3 p4 p5 p6 p7 : Pos} {kk : Nat} (df : DfX X.prog X.w X.K X.mg X.base C fld k sp) (hr : L2H.RoomH k X.A) (hN : X.N[1]? = some ("_law_e" : Str)) (hv : Vis X.env.scope "_law_e") (hg : Gl X fld) (hdb : (fld == ("__debug__" : Str)) = false)
    (hz : L2N.Zn cls d oe) (hf : ∃ vs, oe.data = .fields vs) :
    PSs (X.suite a ((a, oe) :: pn)) [.Return (some (.Tuple [.Attribute (.Name "_law_e" p1) "word" p2, .Call (.Name fld p3) [.Name "_law_e" p4] [] p5] kk p6)) p7] (suiteR X.K C hang sp a cls d) := by
  refine ⟨fun pins s σ H D I ⟨xn, dd, e1, e2, hx, ok, h⟩ => ?_⟩
  subst e1 e2
  have kc : Caught C H (X.suite a ((a, oe) :: pn)) a xn := ⟨⟨oe, dd, .head _, hz, hf, hx⟩, rfl, ok.cls, ok.no⟩
  have hr' : L2H.RoomH k (X.suite a ((a, oe) :: pn)).A := ⟨hr.dp, hr.un⟩
  have v1 : DE C H (X.suite a ((a, oe) :: pn)) (.Name "_law_e" p1) (wVar 1) := de_var 1 hN hv
  have v2 : DE C H (X.suite a ((a, oe) :: pn)) (.Name "_law_e" p4) (wVar 1) := de_var 1 hN hv
  have t := dss_one (ds_ret (pos := p7) (de_tup (k := kk) (pos := p6) (da_cons (de_xf (n := "word") (pos := p2) kc v1) (da_cons (de_caught (p := p3) (pos := p5) df kc hr' v2 hg hdb) da_nil))))
  exact t.pss.run pins s σ H D I h
/-- what the def _law_tried is -/
structure Tried (P : Program) (w : World) (K : PySem.W.Frag) (mg : Str → Option Value) (base : Heap) (C : Cf) (hang absent : Addr) (k : Nat) (sp : XSp) : Prop where
  ex : ∃ (st : Stmt) (f : Addr) (fd : FuncData) (N : List Str) (q1 q2 q3 q4 q5 q6 q7 q8 q9 r1 r2 r3 r4 r5 r6 r7 r8 s1 s2 s3 s4 s5 s6 s7 s8 s9 s10 : Pos) (j k1 k2 k3 : Nat), Fun K "_law_tried" "_law_tried" st f fd ∧ FnScope N ["_law_ask"] (defScope st) ∧ N = [("_law_ask" : Str), ("_law_e" : Str)] ∧ mg "_law_tried" = some (.ref f) ∧ Binds K fd ["_law_ask"] [] ∧
    (defScope st).names.lookup ("_law_ask" : Str) = some .local ∧ (defScope st).names.lookup ("_law_e" : Str) = some .local ∧ (defScope st).names.lookup ("HangError" : Str) = some .globalImplicit ∧ (defScope st).names.lookup ("Absent" : Str) = some .globalImplicit ∧ (defScope st).names.lookup ("_law_field" : Str) = some .globalImplicit ∧
    mg "HangError" = some (.ref hang) ∧ mg "Absent" = some (.ref absent) ∧ DfX P w K mg base C "_law_field" k sp ∧
    defBody st = [.Try [.Return (some (.Tuple [.Constant (.str "") j q1, .Call (.Name "_law_ask" q2) [] [] q3] k1 q4)) q5]
      [.ExceptHandler (some (.Name "HangError" q6)) (some "_law_e") [.Return (some (.Tuple [.Attribute (.Name "_law_e" r1) "word" r2, .Call (.Name "_law_field" r3) [.Name "_law_e" r4] [] r5] k2 r6)) r7] r8,
       .ExceptHandler (some (.Name "Absent" q7)) (some "_law_e") [.Return (some (.Tuple [.Attribute (.Name "_law_e" s1) "word" s2, .Call (.Name "_law_field" s3) [.Name "_law_e" s4] [] s5] k3 s6)) s7] s8] [] [] q8]
/-- its outcome, by content -/
def wTried (K : PySem.W.Frag) (hang : Addr) (sp : XSp) (we : (Xn → EV → Sto → Prop) → RL.WE) : RL.WE := fun E S Q =>
  we (fun xn _ S' => XnOk K hang xn ∧ ∃ wd, xn.fs.lookup ("word" : Str) = some wd ∧ sp xn S' fun v S2 => [wd, v].length ≤ sizeLine ∧ Q (.tup [wd, v]) S2) E S fun d S1 => Q (.tup [.str "", d]) S1
theorem de_tried {C : Cf} {B : Hp} {X : Cx} {hang absent c P : Addr} {k : Nat} {sp : XSp} {o : Option (Str × Int)} {params : Arguments} {body : Expr} {scope : Scope} {we : (Xn → EV → Sto → Prop) → RL.WE} {p lpos pos : Pos} (T : Tried X.prog X.w X.K X.mg X.base C hang absent k sp)
    (hg : Gl X "_law_tried") (TB : LamX.TabB X.base X.mg c P) (hcode : X.env.code = .ref c) (hmT : (P, LamQ X) ∈ C.T) (hu : ∀ q ∈ C.T, q.1 = P → q.2 = LamQ X) (hr : Room (k + 2) X.A) (hp : LamD params o) (L : LamG X.N X.env.scope scope o)
    (hbody : ∀ (A : Around) (outer : List Env) (s : Shared) (H : Hp) (E : XK) (f c' : Addr) (Bz : Hp) (Xd : Xn → EV → Sto → Prop), Room k (A.deeper (LamX.lamEnv X scope s.heap.objs.size f c')) → DX C Bz (lamCxN X A outer s H E scope f c') Xd → DE C Bz (lamCxN X A outer s H E scope f c') body (we Xd)) :
    DE C B X (.Call (.Name "_law_tried" p) [.Lambda params body scope lpos] [] pos) (wTried X.K hang sp we) := by
  obtain ⟨st, g, fd, N, q1, q2, q3, q4, q5, q6, q7, q8, q9, r1, r2, r3, r4, r5, r6, r7, r8, s1, s2, s3, s4, s5, s6, s7, s8, s9, s10, j, k1, k2, k3, F, Sg, rfl, hm, hb, n1, n2, n3, n4, n5, mH, mA, df, eb⟩ := T.ex
  have kp := F.kp
  obtain ⟨oc, od, kV, doc0, pm0, an, cdg, ct, osl, rfl, lk, hcd⟩ := F.ex
  refine ⟨⟨fun pins s σ H Q I ⟨E, S, Qd, stt, h, c0⟩ => ?_⟩⟩
  refine wpAny_Call_Name_kw (ld_glob I hg hm ?_ (by decide))
  refine PySem.W.callWith_K (h₀ := X.base) I.ok.mod.kin kp ?_ (by rfl) (by rfl)
  show wpAny _ _ (spliced ((false, eval (.Lambda params body scope lpos) X.env) :: backTo pos (starEach [] X.env))) _ _ s
  refine Calls.spliced_cons (lam_new I TB hcode (stt.sr.tb _ hmT) hp (L.has I.ok) fun f c' dV doc pm ctv H1 s' I1 ts t1 hf hn hs nf hc hD _ => ?_)
  refine Calls.spliced_nil ⟨I1.kIn, ?_⟩
  have stt1 : Stt X.K C H1 E S σ H1 := (stt.ext (ts.ext (C := C)) (ts.sr stt.sr t1 hmT hu)).rebase (Ext.refl C H1)
  have c1 : Cl X.K C H1 Qd Q := c0.mono ts.ext
  obtain ⟨Xd, eXd⟩ : ∃ Xd : Xn → EV → Sto → Prop, Xd = fun xn _ S' => XnOk X.K hang xn ∧ ∃ wd, xn.fs.lookup ("word" : Str) = some wd ∧ sp xn S' fun v S2 => [wd, v].length ≤ sizeLine ∧ Qd (.tup [wd, v]) S2 := ⟨_, rfl⟩
  obtain ⟨Ech, eE⟩ : ∃ Ech : XK, Ech = fun cls d H' => ∃ xn dd E' S' σ', cls = .ref xn.cls ∧ d = some dd ∧ Stt X.K C H1 E' S' σ' H' ∧ XR X.K C H' xn dd ∧ Xd xn E' S' := ⟨_, rfl⟩
  have rc : codeAny (model X.prog X.w) X.A (.call (.ref g) ⟨[.ref f], []⟩) (CR C8.CX0 X.stack X.prog X.w H1 s' Q C8.E0) s' := by
    refine LamX.run_ofS (N := ["_law_ask", "_law_e"]) (ps := ["_law_ask"]) (us := [.ref f]) (vs := [.ref f]) lk hcd Sg hr I1.env0 (hb s' [.ref f] I1.kIn rfl) (.cons rfl .nil) rfl fun hr' => ?_
    rw [eb]
    have rH : L2H.RoomH k (X.A.deeper (envOfC "_law_tried" (defScope st) s'.heap.objs.size g cdg)) := L2H.roomH_of (hr'.mono (Nat.le_succ k))
    have body1 : ∀ (A : Around) (outer : List Env) (s : Shared) (H : Hp), Room k (A.deeper (LamX.lamEnv X scope s.heap.objs.size f c')) → PE (lamCxN X A outer s H Ech scope f c') body (liftE X.K C H1 (we Xd)) := fun A outer s H r =>
      (hbody A outer s H Ech f c' H1 Xd r ⟨_, L2N.takes_of rfl rfl rfl rfl, fun xn E S2 σ2 H2 dd st2 xr q => by rw [eE]; exact ⟨xn, dd, E, S2, σ2, rfl, rfl, st2, xr, q⟩⟩).pe
    refine ⟨_, (pss_one (ps_try_clauses (X := (cxOf C8.CX0 X.prog X.w X.K X.mg X.base ["_law_ask", "_law_e"] "_law_tried" (defScope st) g cdg X.A X.stack s' H1 C8.E0).nox) (i := 1) (l := [(.ref hang, suiteR X.K C hang sp), (.ref absent, suiteR X.K C hang sp)])
      (tb := fun (W : WX) (D : Ends) (σZ : L2.St) (HZ : Hp) => (∀ cls d σ' H', σ'.length = 2 → Ech cls d H' → W cls d σ' H') ∧ σZ[0]? = some (some (.ref f)) ∧ HZ c' = some (LamX.CodeO c' (LamQ X)) ∧ liftE X.K C H1 (we Xd) σ HZ fun v H2 => 2 ≤ sizeLine ∧ ∀ p, H2 p = none → D.rt (.ref p) (upd H2 p (.tup [.str "", v])))
      rfl rfl Sg.nd rfl n2 (fun W pn xe tk _ => ⟨fun pinsZ sZ σZ HZ D IZ hh => ?_⟩) (.cons ⟨n3, by decide, .inl mH⟩ (fun a oe cls d pn hz hfl => suite_ok df rH rfl (.inl n2) n5 (by decide) hz hfl) (.cons ⟨n4, by decide, .inl mA⟩ (fun a oe cls d pn hz hfl => suite_ok df rH rfl (.inl n2) n5 (by decide) hz hfl) .nil)))).nox, ?_⟩
    · obtain ⟨hW, h1, h2, h3⟩ := hh
      have hpe := lam_call (CXg := C8.CX0) (Eg := C8.E0) (i := 0) (a := "_law_ask") (p1 := q2) (p2 := q3) (Ng := ["_law_ask", "_law_e"]) I1 L hp hf hn nf hD tk hW hr' body1 rfl (.inl n1)
      exact (pss_one (ps_ret (pos := q5) (pe_tup (pa_cons (pe_str (j := j) (pos := q1)) (pa_cons hpe pa_nil))))).run pinsZ sZ σZ HZ D IZ ⟨h1, h2, h3⟩
    · refine ⟨fun cls d σ' H' hl he => ?_, rfl, hc, E, S, fun d S1 => Qd (.tup [.str "", d]) S1, stt1, by rw [eXd]; exact h, fun d S2 v H2 e r sr q => ⟨by decide, fun p hp => (c1.mono e).tup hp (.cons (.str _) (.cons r .nil)) (by show 2 ≤ sizeLine; decide) sr q⟩⟩
      rw [eE] at he
      obtain ⟨xn, dd, E', S', σ2, rfl, rfl, st2, xr, q⟩ := he
      rw [eXd] at q
      obtain ⟨ok, wd, hw, q⟩ := q
      refine ⟨true, ok.exm, fun _ a na => ⟨xn, dd, rfl, rfl, xr, ok, [none, some (.ref a)], S', { nx := fun _ _ => False, rt := Qd }, ⟨Ext.refl C H', by rw [List.length_set, hl]; rfl, fun i d e => ?_, st2.sr⟩, ⟨rfl, wd, hw, rfl, q⟩, ⟨fun _ _ _ _ _ _ z => z.elim, c1.mono st2.base, fun _ _ _ _ _ _ z => z.elim, fun _ _ _ _ _ _ z => z.elim⟩⟩, fun z => by cases z⟩
      rcases i with _ | _ | i
      · cases e
      · have e : D.ref a = d := by simpa using e
        subst e
        exact ⟨.ref a, List.getElem?_set_self (by omega), .ref a⟩
      · cases e
  refine wpAny_call (codeAny_mono rc fun r s2 hq => ?_)
  cases r with
  | error e => exact (show False from hq).elim
  | ok fl =>
    cases fl with
    | ret u => exact I1.after hq
    | next => exact hq.elim
    | brk => exact hq.elim
    | cont => exact hq.elim
end RL
namespace RL
open PySem PySem.Spec PyProof.Rows
open L2 hiding WE
/-- the name that the lambdas of a def bear -/
def lamName (qual : Str) : Str := qual ++ ".<locals>." ++ "<lambda>"
/-- THE RULE for a def whose code object is known (it makes lambdas) -/
theorem dok_ofC {P : Program} {w : World} {K : PySem.W.Frag} {mg : Str → Option Value} {base : Heap} {C : Cf} {x qual : Str} {st : Stmt} {f c : Addr} {oc kV doc pm ct : Value} {od an : Option Addr} {osl : Array (Option Value)} {N ps : List Str} {k : Nat} {sp : DSp}
    (lk : K.lookup f = some ⟨oc, od, .func (PySem.W.fnOf x qual (defArgs st) (defBody st) (defScope st) .none kV doc pm an (.ref c) ct), osl⟩) (hcd : PySem.W.codeIn K (.ref c) qual = true) (S : FnScope N ps (defScope st)) (len : ∀ ds S Q Xd, sp ds S Q Xd → ds.length = ps.length)
    (hbody : ∀ (A : Around) (outer : List Env) (s : Shared) (B : Hp) (Ex : XK) (ds : List D) (S : Sto) (Q : KD) (Xd : Xn → Sto → Prop), Room k (A.deeper (envOfC qual (defScope st) s.heap.objs.size f (.ref c))) →
      DX C B (cxOf (L2N.CX P w) P w K mg base N qual (defScope st) f (.ref c) A outer s B Ex) (fun xn _ S' => UpX Xd xn S') → sp ds S Q Xd →
      ∃ t, DSs C B (cxOf (L2N.CX P w) P w K mg base N qual (defScope st) f (.ref c) A outer s B Ex) (defBody st) t ∧ t { nx := fun _ S' => UpK Q .non S', rt := UpK Q } (startD N.length ds) S) :
    DOk P w K mg base C (k + 1) f (PySem.W.fnOf x qual (defArgs st) (defBody st) (defScope st) .none kV doc pm an (.ref c) ct) ps sp := by
  refine fn_of lk hcd S (fun vs H Q E h => ?_) (fun A outer s H vs Q E hr h => ?_)
  · obtain ⟨ds, S', Qd, Xd, r, sr, h, _⟩ := h
    exact r.length ▸ len _ _ _ _ h
  · obtain ⟨ds, S', Qd, Xd, r, sr, h, cl, cx⟩ := h
    have dx : DX C H (cxOf (L2N.CX P w) P w K mg base N qual (defScope st) f (.ref c) A outer s H E) (fun xn _ S' => UpX Xd xn S') :=
      ⟨_, L2N.takes_of rfl rfl rfl rfl, fun xn E S2 σ H2 dd st2 xr ⟨S3, l, q⟩ => cx xn S3 dd H2 st2.base (st2.sr.sub l) xr q⟩
    obtain ⟨t, ht, hq⟩ := hbody A outer s H E ds S' Qd Xd hr dx h
    exact ⟨_, ht.pss, _, S', _, start_rel r sr, hq, ⟨fun E S2 σ H2 e2 st2 q => cl.up _ _ _ _ e2 .non st2.sr q, cl.up, fun _ _ _ _ _ _ q => q, fun _ _ _ _ _ _ q => q⟩⟩
theorem DfX.mono {P : Program} {w : World} {K : PySem.W.Frag} {mg : Str → Option Value} {base : Heap} {C : Cf} {x : Str} {j k : Nat} {sp : XSp} (d : DfX P w K mg base C x j sp) (h : j ≤ k) : DfX P w K mg base C x k sp := by
  obtain ⟨f, fd, p, h1, h2, h3, run⟩ := d.ex
  exact ⟨f, fd, p, h1, h2, h3, fun A outer s H args us Q a dd oe xn S Qd hr => run A outer s H args us Q a dd oe xn S Qd (hr.mono h)⟩
/-! equations for the walk -/
theorem dIn_lst {x : D} {ds : List D} {S : Sto} {Q : KD} : dIn x (.lst ds) S Q = (flatD x = true ∧ ds.all flatD = true ∧ Q (.bl (inD x ds)) S) := rfl
theorem dIn_tup {x : D} {ds : List D} {S : Sto} {Q : KD} : dIn x (.tup ds) S Q = (flatD x = true ∧ ds.all flatD = true ∧ Q (.bl (inD x ds)) S) := rfl
theorem dIn_ref {x : D} {p : Addr} {S : Sto} {Q : KD} : dIn x (.ref p) S Q = (flatD x = true ∧ ∃ ds, S p = some (.lst ds) ∧ ds.all flatD = true ∧ Q (.bl (inD x ds)) S) := rfl
theorem inD_ints {r : Int} {ns : List Int} : inD (.int r) (ns.map D.int) = decide (r ∈ ns) := by
  unfold inD L2.inV
  induction ns with
  | nil => rfl
  | cons n ns ih =>
    rw [List.map_cons, List.map_cons, List.any_cons, ih]
    have e : L2.eqV (vOf (.int n)) (vOf (.int r)) = decide (r = n) := by
      show L2.eqV (.int n) (.int r) = _
      by_cases h : r = n
      · subst h
        simp [L2.eqV]
      · simp [L2.eqV, h, Ne.symm h]
    rw [e]
    by_cases h : r = n
    · simp [h]
    · simp [h]
/-! ### the end -/
theorem walk_law {l : PySem.W.OpenLaw} {q : Program} {loose : List Str} {XP : (Str → Option Value) → Heap → Prop} {YP : World → Heap → Prop} {d : DefRec} {K : Params → PySem.W.Frag} {k : Nat} {x : Str} {ts : List Addr} (hn : l.most = some 63) (hdf : d.params.defaults = []) (hr : Room k callerA)
    (hY : ∀ (w : World) (h : Heap), YP w h → (K w.params).In h) (hT : ∀ (w : World) (h : Heap), YP w h → ∀ P ∈ ts, h.get? P = some (PySem.W.tabObj #[]))
    (F : ∀ (w : World) (mg : Str → Option Value) (fa : Addr) (h : Heap), (∀ P ∈ ts, h.get? P = some (PySem.W.tabObj #[])) → (K w.params).In h → h.Ns mainGlobals mg → mg d.name = some (.ref fa) → LamX.LawAtS l w (K w.params) (L2N.CX l.prog w) k 63 x mg fa h) :
    PySem.W.WalkO q loose XP YP l.row.toRowW d [] (fun f vs => PySem.call f vs) :=
  LamX.walk_ofTs (CX := fun w => L2N.CX l.prog w) hn (by decide) hdf hr hY (fun w mg fa h Y => F w mg fa h (hT w h Y)) fun _ _ _ _ _ z => cx_end z
/-- the law's promise from that of its def: cs, code objects and their tables; nm, the name of what is made by each -/
theorem lawAt {l : PySem.W.OpenLaw} {w : World} {K : PySem.W.Frag} {k : Nat} {x : Str} {mg : Str → Option Value} {fa clk : Addr} {h : Heap} {fd : FuncData} (cs : List ((Addr × Addr) × Str)) (hE : ∀ p ∈ cs, h.get? p.1.2 = some (PySem.W.tabObj #[])) (hK : ∀ p ∈ cs, K.lookup p.1.2 = none) (hC : ∀ p ∈ cs, PySem.W.CodeHd h p.1.1 p.1.2)
    (hb : ∀ (s : Shared) (u : Value), BindsTo s fd ⟨[u], []⟩ [(x, u)])
    (F : ∀ base : Heap, K.In base → base.Ns mainGlobals mg → (∀ p ∈ cs, LamX.TabB base mg p.1.1 p.1.2) → ∀ C : Cf, C.clk = clk → C.T = cs.map (fun p => (p.1.2, p.2)) → DOk l.prog w K mg base C k fa fd [x] (spTop 63)) : LamX.LawAtS l w K (L2N.CX l.prog w) k 63 x mg fa h := by
  refine ⟨fd, cs.map (·.1), spLaw K (cs.map fun p => (p.1.2, p.2)) 63, fun p hp => ?_, fun p hp => ?_, fun p hp => ?_, hb, fun H a ns hl _ ht hS => ⟨a, ns, rfl, hl, hS, tabs_nil fun p hp => ?_, fun _ => rfl⟩, fun base KI G TB => fn_law (F base KI G fun p hp => TB _ (List.mem_map.mpr ⟨p, hp, rfl⟩))⟩
  · obtain ⟨q, hq, rfl⟩ := List.mem_map.mp hp
    exact hE q hq
  · obtain ⟨q, hq, rfl⟩ := List.mem_map.mp hp
    exact hK q hq
  · obtain ⟨q, hq, rfl⟩ := List.mem_map.mp hp
    exact hC q hq
  · obtain ⟨q, hq, rfl⟩ := List.mem_map.mp hp
    exact ht q.1 (List.mem_map.mpr ⟨q, hq, rfl⟩)
/-! ### what the head tells of an own exception class -/
structure XcB (K : PySem.W.Frag) (hang C : Addr) : Prop where
  oex : OexC K C
  xf : XfC K C
  exm : PySem.W.exmOne K (.ref C) (.ref hang) = some true
theorem xcb_mk {K : PySem.W.Frag} {hang C N : Addr} {nm q : Str} {bs bm sn sub ab col : _} {dd : _} {k0 k1 k2 k3 k5 : _} (l : K.lookup C = some (excClassObj nm q C N bs bm true sn sub ab col dd k0 k1 k2 k3 k5 "ValueError.__new__")) (v : PySem.HandSPX.refsVE bm = true)
    (sa : PySem.W.findIn K (.ref C) "__setattr__" = some (some (.builtin "object.__setattr__"))) (exC : PySem.W.subIn K (.ref C) (.type "BaseException") = some true) (tyC : PySem.W.typeIn K (.ref C) = some (.type "type")) (kC : PySem.W.keepIn K (.ref C) = true) (xf : L2.xfB K C = true)
    (h1 : PySem.W.subIn K (.ref hang) (.type "BaseException") = some true) (h2 : PySem.W.hasDictIn K hang = true) (h3 : PySem.W.typeIn K (.ref hang) = some (.type "type")) (h4 : PySem.W.subIn K (.ref C) (.ref hang) = some true) : XcB K hang C :=
  ⟨⟨⟨nm, q, N, bs, bm, sn, sub, ab, col, dd, k0, k1, k2, k3, k5, l, v⟩, sa, exC, tyC, kC⟩, L2.xfB_ok xf, PySem.W.exm_ref h1 h2 h3 h4⟩
theorem XcB.ok1 {K : PySem.W.Frag} {hang C : Addr} {fn wd : Str} {d : D} (b : XcB K hang C) (n1 : PySem.W.findIn K (.ref C) fn = some none) (n2 : PySem.W.findIn K (.ref C) "word" = some none) : XnOk K hang ⟨C, [("word", .str wd), (fn, d)]⟩ := by
  refine ⟨b.exm, b.xf, fun f v h => ?_⟩
  have h : List.lookup f [(("word" : Str), D.str wd), (fn, d)] = some v := h
  by_cases e : f = ("word" : Str)
  · rw [e]
    exact n2
  · have e1 : (f == ("word" : Str)) = false := beq_eq_false_iff_ne.mpr e
    by_cases e2 : f = fn
    · rw [e2]
      exact n1
    · have e3 : (f == fn) = false := beq_eq_false_iff_ne.mpr e2
      simp [List.lookup, e1, e3] at h
/-- a comprehension with a state, whatever is made of its list -/
theorem lc_invG {g : WG} {te : RL.WE} {E : EV} {all : List D} {Qz : Sto → Prop} (P : List D → Sto → Prop) : ∀ {ds : List D} {acc : List D} {S : Sto} {Z : Addr}, acc.length + ds.length ≤ sizeLine → S Z = none → P acc S →
    (∀ (d : D) (acc : List D) (S : Sto), d ∈ ds → P acc S → ∀ (o : DO) (K1 : KD), S Z = none → (∀ y S', S' Z = none → P (acc ++ [y]) S' → K1 y (S'.put Z o)) → g d E (S.put Z o) fun E2 S2 => te E2 S2 K1) →
    (∀ acc' S', acc'.length = acc.length + ds.length → S' Z = none → P acc' S' → Qz (S'.put Z (.lst acc'))) → wLcL g wYes te E none all Z Qz ds acc (S.put Z (.lst acc))
  | [], acc, S, Z, _, hZ, hP, _, h => ⟨trivial, Sto.put_same, h acc S rfl hZ hP⟩
  | d :: ds, acc, S, Z, hl, hZ, hP, hs, h => by
    refine ⟨trivial, hs d acc S List.mem_cons_self hP (.lst acc) _ hZ fun y S' hZ' hP' => ⟨Sto.put_same, by simp only [List.length_cons] at hl; omega, ?_⟩⟩
    rw [Sto.put_put]
    refine lc_invG P (by rw [List.length_append]; simp only [List.length_cons, List.length_nil] at hl ⊢; omega) hZ' hP' (fun d' acc' S'' hd => hs d' acc' S'' (List.mem_cons_of_mem _ hd)) fun a2 S2 hl2 hZ2 hP2 => h a2 S2 (by rw [hl2, List.length_append]; simp only [List.length_cons, List.length_nil]; omega) hZ2 hP2
/-- the same over a list that may change, which the store still knows -/
theorem lc_mapLive {g : WG} {te : RL.WE} {E : EV} {Q : KD} {S : Sto} {q : Addr} (f : D → D) {ds : List D} (hq : S q = some (.lst ds)) (hl : ds.length ≤ sizeLine) (hs : ∀ d ∈ ds, ∀ (S : Sto) (K1 : KD), K1 (f d) S → g d E S fun E2 S2 => te E2 S2 K1) (h : Q (.lst (ds.map f)) S) :
    ∀ Z, S Z = none → wLcL g wYes te E (some q) ds Z (fun S2 => asF Z S2 Q) ds [] (S.put Z (.lst [])) := fun Z hZ => by
  have ne : q ≠ Z := fun z => by
    rw [z, hZ] at hq
    cases hq
  have key : ∀ (es acc : List D), acc.length + es.length ≤ sizeLine → (∀ d ∈ es, d ∈ ds) → acc ++ es.map f = ds.map f → wLcL g wYes te E (some q) ds Z (fun S2 => asF Z S2 Q) es acc (S.put Z (.lst acc)) := by
    intro es
    induction es with
    | nil =>
      intro acc _ _ e
      rw [List.map_nil, List.append_nil] at e
      refine ⟨by show (S.put Z (.lst acc)) q = _; rw [Sto.put_ne ne]; exact hq, Sto.put_same, fun a ha => ?_⟩
      rw [Sto.put_same] at ha
      cases ha
      rw [Sto.del_put hZ, e]
      exact h
    | cons d es ih =>
      intro acc hz hm e
      refine ⟨by show (S.put Z (.lst acc)) q = _; rw [Sto.put_ne ne]; exact hq, hs d (hm d List.mem_cons_self) _ _ ⟨Sto.put_same, by simp only [List.length_cons] at hz; omega, ?_⟩⟩
      rw [Sto.put_put]
      refine ih _ (by rw [List.length_append]; simp only [List.length_cons, List.length_nil] at hz ⊢; omega) (fun d' hd => hm d' (List.mem_cons_of_mem _ hd)) ?_
      rw [List.append_assoc]
      exact e
  exact key ds [] (by simpa using hl) (fun _ h => h) rfl
end RL
namespace RL
open PySem PySem.Spec PyProof.Rows
open L2 hiding WE
/-- a, b, c = x, y, z -/
def parD3 (i j l : Nat) (ds : List D) (E : EV) (S : Sto) (R : EV → Sto → Prop) : Prop := match ds with
  | [a, b, c] => R (((E.set i (some a)).set j (some b)).set l (some c)) S
  | _ => False
def wPar3 (i j l : Nat) (w : WA) : WS := fun Z E S => w E S fun ds S1 => parD3 i j l ds E S1 Z.nx
theorem parD3_3 {i j l : Nat} {a b c : D} {E : EV} {S : Sto} {R : EV → Sto → Prop} : parD3 i j l [a, b, c] E S R = R (((E.set i (some a)).set j (some b)).set l (some c)) S := rfl
theorem ds_par3 {C : Cf} {B : Hp} {X : Cx} {pos : Pos} (i j l : Nat) {x y z : Str} {a b c : Expr} {wa : WA} {px py pz pt : Pos} {kt k2 : Nat} {pt2 : Pos} (hc : X.calm = true) (hN : X.N.Nodup) (ha : DA C B X [a, b, c] wa) (hi : X.N[i]? = some x := by rfl) (hj : X.N[j]? = some y := by rfl) (hl : X.N[l]? = some z := by rfl)
    (hij : i ≠ j := by decide) (hil : i ≠ l := by decide) (hjl : j ≠ l := by decide) (hx : X.env.scope.names.lookup x = some .local := by rfl) (hy : X.env.scope.names.lookup y = some .local := by rfl) (hz : X.env.scope.names.lookup z = some .local := by rfl)
    (hw : swappedStores [.Tuple [.Name x px, .Name y py, .Name z pz] kt pt] (.Tuple [a, b, c] k2 pt2) X.env = pure (some [x, y, z]) := by rfl)
    (hs : swapsWithSole [.Tuple [.Name x px, .Name y py, .Name z pz] kt pt] (.Tuple [a, b, c] k2 pt2) pos.line X.env = pure false := by rfl) :
    DS C B X (.Assign [.Tuple [.Name x px, .Name y py, .Name z pz] kt pt] (.Tuple [a, b, c] k2 pt2) pos) (wPar3 i j l wa) :=
  ⟨PSimp (ps_par3 hc hN hi hj hl hij hil hjl hx hy hz ha.pa hw hs) fun D σ H ⟨E, S, Dd, st, h, c0⟩ => ⟨E, S, _, st, h, fun ds S1 vs H1 e1 r1 s1 h1 => by
    rcases ds with _ | ⟨d1, _ | ⟨d2, _ | ⟨d3, _ | ⟨d4, ds⟩⟩⟩⟩ <;> first | exact False.elim h1 | skip
    cases r1 with
    | cons ra r1 =>
      cases r1 with
      | cons rb r1 =>
        cases r1 with
        | cons rc r1 =>
          cases r1
          exact ⟨_, _, _, rfl, c0.nx _ _ _ _ e1 ((((st.ext e1 s1).set ra i).set rb j).set rc l) h1⟩⟩⟩
end RL
namespace RL
open PySem PySem.Spec PyProof.Rows
open L2 hiding WE
/-! ### clocks: their tables, their methods -/
structure CkC (K : PySem.W.Frag) (C : Cf) : Prop where
  cls : Cls K C.clk
  nh : NoAttr K C.clk "head_tables"
  nc : NoAttr K C.clk "cycle_tables"
  nl : NoAttr K C.clk "levels"
def ckHead : D → Option D
  | .clk h _ => some (.tup h)
  | _ => none
def ckCycle : D → Option D
  | .clk _ c => some (.tup c)
  | _ => none
theorem ckf_head {v1 v2 l : Addr} : (ckf v1 v2 l).lookup ("head_tables" : Str) = some (V.ref v1) := by
  unfold ckf
  rw [lookup_putF, lookup_putF, lookup_putF]
  rfl
theorem ckf_cycle {v1 v2 l : Addr} : (ckf v1 v2 l).lookup ("cycle_tables" : Str) = some (V.ref v2) := by
  unfold ckf
  rw [lookup_putF, lookup_putF]
  rfl
theorem ckf_other {v1 v2 l : Addr} {m : Str} (h1 : m ≠ ("levels" : Str)) (h2 : m ≠ ("cycle_tables" : Str)) (h3 : m ≠ ("head_tables" : Str)) : (ckf v1 v2 l).lookup m = none := by
  unfold ckf
  rw [lookup_putF, lookup_putF, lookup_putF, if_neg h1, if_neg h2, if_neg h3]
  rfl
def wFld (r : D → Option D) (we : RL.WE) : RL.WE := fun E S Q => we E S fun x S1 => ∃ d, r x = some d ∧ Q d S1
section
variable {C : Cf} {B : Hp} {X : Cx} {e : Expr} {we : RL.WE} {pos : Pos}
theorem de_head (k : CkC X.K C) (he : DE C B X e we) (hb : attributeBase e "head_tables" X.env (eval e X.env) = eval e X.env := by rfl) : DE C B X (.Attribute e "head_tables" pos) (wFld ckHead we) :=
  ⟨PEimp (pe_fld he.pe hb) fun σ H Q ⟨E, S, Qd, st, h, c⟩ => ⟨E, S, _, st, h, fun x S1 v H1 e1 r1 s1 ⟨d, hd, q⟩ => by
    cases x <;> first | (cases hd; done) | skip
    cases r1 with
    | @clk a dxx v1 v2 l hh cc e0 d1 d2 d3 =>
      cases hd
      exact ⟨_, C.clk, dxx, _, .ref v1, rfl, e0, k.cls, k.nh, ckf_head, (c.mono e1).now d1 s1 q⟩⟩⟩
theorem de_cycle (k : CkC X.K C) (he : DE C B X e we) (hb : attributeBase e "cycle_tables" X.env (eval e X.env) = eval e X.env := by rfl) : DE C B X (.Attribute e "cycle_tables" pos) (wFld ckCycle we) :=
  ⟨PEimp (pe_fld he.pe hb) fun σ H Q ⟨E, S, Qd, st, h, c⟩ => ⟨E, S, _, st, h, fun x S1 v H1 e1 r1 s1 ⟨d, hd, q⟩ => by
    cases x <;> first | (cases hd; done) | skip
    cases r1 with
    | @clk a dxx v1 v2 l hh cc e0 d1 d2 d3 =>
      cases hd
      exact ⟨_, C.clk, dxx, _, .ref v2, rfl, e0, k.cls, k.nc, ckf_cycle, (c.mono e1).now d2 s1 q⟩⟩⟩
end
/-- a method of the clocks as its callers want it -/
structure DfM (P : Program) (w : World) (K : PySem.W.Frag) (mg : Str → Option Value) (base : Heap) (C : Cf) (m : Str) (k : Nat) (ps : List Str) (sp : DSp) : Prop where
  cls : Cls K C.clk
  no : m ≠ ("levels" : Str) ∧ m ≠ ("cycle_tables" : Str) ∧ m ≠ ("head_tables" : Str)
  ex : ∃ (f : Addr) (fd : FuncData), DOk P w K mg base C k f fd ps sp ∧ Meth K C.clk m f ∧ Binds K fd ps []
def isClk : D → Bool
  | .clk _ _ => true
  | _ => false
def wMeth (sp : DSp) (Xd : Xn → EV → Sto → Prop) (wo : RL.WE) (w : WA) : RL.WE := fun E S Q => wo E S fun x S1 => isClk x = true ∧ w E S1 fun ds S2 => sp (x :: ds) S2 Q fun xn S3 => Xd xn E S3
section
variable {C : Cf} {B : Hp} {X : Cx} {k : Nat} {ps : List Str} {sp : DSp} {m : Str} {o e : Expr} {es : List Expr} {wo : RL.WE} {wa : WA} {Xd : Xn → EV → Sto → Prop} {apos pos : Pos} {pl : Sem Bool}
theorem de_meth (d : DfM X.prog X.w X.K X.mg X.base C m k ps sp) (hr : Room k X.A) (dx : DX C B X Xd) (ho : DE C B X o wo) (ha : DA C B X (e :: es) wa) (hst : starEach (e :: es) X.env = (false, eval e X.env) :: starEach es X.env := by rfl) (hpl : (backTo pos (starEach es X.env)).any (·.1) = false := by rfl)
    (ht : eval (.Call (.Attribute o m apos) (e :: es) [] pos) X.env = (do
      let ov ← eval o X.env
      standAt apos.atName
      let (f, first) ← holding [ov] (getMethod ov m pl)
      callWith pos f first (backTo pos (starEach (e :: es) X.env)) (backToKw pos (keywordEach [] X.env))) := by rfl) :
    DE C B X (.Call (.Attribute o m apos) (e :: es) [] pos) (wMeth sp Xd wo wa) := by
  obtain ⟨W, tk, hW⟩ := dx.ex
  obtain ⟨f, fd, F, hm, hb⟩ := d.ex
  refine ⟨⟨fun pins s σ H Q I ⟨E, S, Qd, st, h, c⟩ => ?_⟩⟩
  refine PySem.W.methodCall_KW (pl := pl) (thn (ho.pe.run pins s σ H (fun v H1 => ∃ x S1, Ext C H H1 ∧ DR X.K C H1 x v ∧ SR X.K C S1 H1 ∧ isClk x = true ∧ wa E S1 fun ds S2 => sp (x :: ds) S2 Qd fun xn S3 => Xd xn E S3) I ⟨E, S, _, st, h, fun x S1 v H1 e1 r1 s1 ⟨q1, q2⟩ => ⟨x, S1, e1, r1, s1, q1, q2⟩⟩) fun u t1 hh => ?_) ht
  obtain ⟨v, H1, I1, rv, x, S1, e1, r1, s1, q1, q2⟩ := hh
  cases x <;> first | (cases q1; done) | skip
  rename_i hh cc
  cases r1 with
  | @clk a dxx v1 v2 l _ _ e0 d1 d2 d3 =>
    obtain rfl : u = Value.ref a := rv
    refine getmeth_ok I1 e0 d.cls hm (ckf_other d.no.1 d.no.2.1 d.no.2.2) ?_
    have rc : DR X.K C H1 (.clk hh cc) (.ref a) := .clk e0 d1 d2 d3
    refine PySem.W.callWith_K (first := [.ref a]) (h₀ := X.base) I.ok.mod.kin hm.kp (thn (ha.pa.run pos pins t1 σ H1 (fun vs H2 => ∃ ds S2, Ext C H1 H2 ∧ DRs X.K C H2 ds vs ∧ SR X.K C S2 H2 ∧ sp (.clk hh cc :: ds) S2 Qd fun xn S3 => Xd xn E S3) I1 ⟨E, S1, _, st.ext e1 s1, q2, fun ds S2 vs H2 e2 r2 s2 q => ⟨ds, S2, e2, r2, s2, q⟩⟩) fun us t2 hh2 => ?_) hst hpl
    obtain ⟨vs, H2, I2, rvs, ds, S2, e2, r2, s2, q3⟩ := hh2
    refine ⟨I2.kIn, run_fnS (E := L2.WE W) (us := .ref a :: us) (vs := .ref a :: vs) F hr hb (L2N.passAt tk σ) I2 (.cons rfl rvs) ?_⟩
    refine ⟨.clk hh cc :: ds, S2, Qd, _, .cons (rc.ext e2) r2, s2, q3, (c.mono e1).mono e2, fun xn S' dd H' e3 s3 x3 q => ?_⟩
    exact hW xn E S' σ H' dd (st.ext ((e1.trans e2).trans e3) s3) x3 q
theorem de_meth0 (d : DfM X.prog X.w X.K X.mg X.base C m k ps sp) (hr : Room k X.A) (dx : DX C B X Xd) (ho : DE C B X o wo)
    (ht : eval (.Call (.Attribute o m apos) [] [] pos) X.env = (do
      let ov ← eval o X.env
      standAt apos.atName
      let (f, first) ← holding [ov] (getMethod ov m pl)
      callWith pos f first (backTo pos (starEach [] X.env)) (backToKw pos (keywordEach [] X.env))) := by rfl) :
    DE C B X (.Call (.Attribute o m apos) [] [] pos) (wMeth sp Xd wo wNil) := by
  obtain ⟨W, tk, hW⟩ := dx.ex
  obtain ⟨f, fd, F, hm, hb⟩ := d.ex
  refine ⟨⟨fun pins s σ H Q I ⟨E, S, Qd, st, h, c⟩ => ?_⟩⟩
  refine PySem.W.methodCall_KW (pl := pl) (thn (ho.pe.run pins s σ H (fun v H1 => ∃ x S1, Ext C H H1 ∧ DR X.K C H1 x v ∧ SR X.K C S1 H1 ∧ isClk x = true ∧ sp [x] S1 Qd fun xn S3 => Xd xn E S3) I ⟨E, S, _, st, h, fun x S1 v H1 e1 r1 s1 ⟨q1, q2⟩ => ⟨x, S1, e1, r1, s1, q1, q2⟩⟩) fun u t1 hh => ?_) ht
  obtain ⟨v, H1, I1, rv, x, S1, e1, r1, s1, q1, q2⟩ := hh
  cases x <;> first | (cases q1; done) | skip
  rename_i hh cc
  cases r1 with
  | @clk a dxx v1 v2 l _ _ e0 d1 d2 d3 =>
    obtain rfl : u = Value.ref a := rv
    refine getmeth_ok I1 e0 d.cls hm (ckf_other d.no.1 d.no.2.1 d.no.2.2) ?_
    refine PySem.W.callWith_K0 (first := [.ref a]) I1.kIn hm.kp (run_fnS (E := L2.WE W) (us := [.ref a]) (vs := [.ref a]) F hr hb (L2N.passAt tk σ) I1 (.cons rfl .nil) ?_)
    refine ⟨[.clk hh cc], S1, Qd, _, .cons (.clk e0 d1 d2 d3) .nil, s1, q2, c.mono e1, fun xn S' dd H' e3 s3 x3 q => ?_⟩
    exact hW xn E S' σ H' dd (st.ext (e1.trans e3) s3) x3 q
end
end RL
namespace RL
open PySem PySem.Spec PyProof.Rows
open L2 hiding WE
/-! ### a clock is made -/
def putD (f : Str) (d : D) : List (Str × D) → List (Str × D)
  | [] => [(f, d)]
  | (g, x) :: r => if g = f then (g, d) :: r else (g, x) :: putD f d r
theorem RelF.put {K : PySem.W.Frag} {C : Cf} {H : Hp} {f : Str} {d : D} {v : V} (q : DR K C H d v) : ∀ {fs : List (Str × D)} {vs : List (Str × V)}, RelF K C H fs vs → RelF K C H (putD f d fs) (putF f v vs)
  | [], [], _ => ⟨rfl, q, trivial⟩
  | (g, x) :: r, (k, y) :: t, h => by
    obtain ⟨rfl, h1, h2⟩ := h
    unfold putD putF
    split
    · exact ⟨rfl, q, h2⟩
    · exact ⟨rfl, h1, RelF.put q h2⟩
  | [], _ :: _, h => h.elim
  | _ :: _, [], h => h.elim
theorem putD_keys {f : Str} {d : D} {g : Str} : ∀ {fs : List (Str × D)}, g ≠ f → g ∉ fs.map (·.1) → g ∉ (putD f d fs).map (·.1)
  | [], n, _ => by
    show g ∉ [f]
    simpa using n
  | (k, x) :: r, n, h => by
    rw [List.map_cons, List.mem_cons, not_or] at h
    unfold putD
    split
    · rw [List.map_cons, List.mem_cons, not_or]
      exact h
    · rw [List.map_cons, List.mem_cons, not_or]
      exact ⟨h.1, putD_keys n h.2⟩
def wFldS (f : Str) (wo we : RL.WE) : WS := fun Z E S => we E S fun d S1 => wo E S1 fun x S2 => ∃ (a : Addr) (fs : List (Str × D)), x = .ref a ∧ S2 a = some (.ins fs) ∧ f ≠ ("levels" : Str) ∧ fs.length < 900 ∧ Z.nx E (S2.put a (.ins (putD f d fs)))
theorem RelF.len {K : PySem.W.Frag} {C : Cf} {H : Hp} {fs : List (Str × D)} {vs : List (Str × V)} (h : RelF K C H fs vs) : fs.length = vs.length := by
  have := congrArg List.length h.keys
  simpa using this
section
variable {C : Cf} {B : Hp} {X : Cx} {o e : Expr} {wo we : RL.WE} {f : Str} {pos pos' : Pos}
theorem ds_fldS (k : Cls X.K C.clk) (n : NoAttr X.K C.clk f) (ho : DE C B X o wo) (he : DE C B X e we) (hs : swapsWith e (some (.Attribute o f pos')) pos.line X.env = pure false := by rfl) : DS C B X (.Assign [.Attribute o f pos'] e pos) (wFldS f wo we) :=
  ⟨PSimp (ps_fld ho.pe he.pe hs) fun Z σ H ⟨E, S, Dd, st, h, c⟩ => ⟨E, S, _, st, h, fun d S1 v H1 e1 r1 s1 h1 => ⟨E, S1, _, st.ext e1 s1, h1, fun x S2 u H2 e2 r2 s2 h2 => by
    obtain ⟨a, fs, rfl, q1, q2, q3, q4⟩ := h2
    cases r2
    obtain ⟨dx, vs, p1, p2, p3, p4⟩ := s2.at_ a _ q1
    have lo : Loose (.ins C.clk dx vs) := by
      show ("levels" : Str) ∉ vs.map (·.1)
      rw [← p2.keys]
      exact p3
    have ex : Ext C H2 (upd H2 a (.ins C.clk dx (putF f v vs))) := Ext.over p1 lo
    have rel := (RelF.put (f := f) (r1.ext e2) p2).ext ex
    have kk : ("levels" : Str) ∉ (putD f d fs).map (·.1) := putD_keys (Ne.symm q2) p3
    refine ⟨a, C.clk, dx, vs, rfl, p1, k, n, by rw [← p2.len]; omega, c.nx _ _ _ _ ((e1.trans e2).trans ex) ((st.ext (e1.trans e2) s2).ext ex (s2.over (u := .ins (putD f d fs)) p1 lo (s2.noLvS q1) (fun dx' fs' z => ?_) ⟨dx, _, upd_same, rel, kk, p4⟩)) q4⟩
    cases z
    rw [← (RelF.put (f := f) (r1.ext e2) p2).keys]
    exact kk⟩⟩⟩
/-- self.levels = [[1]]: from here on it is a clock -/
def wPub (wo we : RL.WE) : WS := fun Z E S => we E S fun d S1 => wo E S1 fun x S2 => ∃ (a l : Addr) (h c : List D), x = .ref a ∧ d = .ref l ∧ S2 a = some (.ins [("head_tables", .tup h), ("cycle_tables", .tup c)]) ∧ S2 l = some (.lst [.lst [.int 1]]) ∧ Good3 h ∧ Good3 c ∧ Z.nx E ((S2.del l).put a (.clk h c))
theorem SR.pub {K : PySem.W.Frag} {S : Sto} {H : Hp} {a l dx v1 v2 : Addr} {h c : List D} (sr : SR K C S H) (q1 : S a = some (.ins [("head_tables", .tup h), ("cycle_tables", .tup c)])) (q2 : S l = some (.lst [.lst [.int 1]])) (p1 : H a = some (.ins C.clk dx [("head_tables", .ref v1), ("cycle_tables", .ref v2)]))
    (d1 : DR K C H (.tup h) (.ref v1)) (d2 : DR K C H (.tup c) (.ref v2)) (no : ¬ C.old a) (g1 : Good3 h) (g2 : Good3 c) : SR K C ((S.del l).put a (.clk h c)) (upd H a (.ins C.clk dx (ckf v1 v2 l))) ∧ Ext C H (upd H a (.ins C.clk dx (ckf v1 v2 l))) := by
  have lo : Loose (.ins C.clk dx [("head_tables", .ref v1), ("cycle_tables", .ref v2)]) := by
    show ("levels" : Str) ∉ [("head_tables" : Str), ("cycle_tables" : Str)]
    decide
  have ex : Ext C H (upd H a (.ins C.clk dx (ckf v1 v2 l))) := Ext.over p1 lo
  obtain ⟨xs, hl, rl, zl⟩ := sr.ob l _ q2
  have nal : a ≠ l := fun z => by
    rw [z, q2] at q1
    cases q1
  have old : ∀ {b dx' w1 w2 l'}, upd H a (.ins C.clk dx (ckf v1 v2 l)) b = some (.ins C.clk dx' (ckf w1 w2 l')) → b ≠ a → H b = some (.ins C.clk dx' (ckf w1 w2 l')) := fun {b dx' w1 w2 l'} e n => by
    rw [upd_ne n] at e
    exact e
  have lev : ∀ {w1 w2 l' : Addr}, ckf v1 v2 l = ckf w1 w2 l' → v1 = w1 ∧ v2 = w2 ∧ l = l' := fun {w1 w2 l'} e => by
    have e1 : (ckf v1 v2 l).lookup ("head_tables" : Str) = (ckf w1 w2 l').lookup ("head_tables" : Str) := by rw [e]
    have e2 : (ckf v1 v2 l).lookup ("cycle_tables" : Str) = (ckf w1 w2 l').lookup ("cycle_tables" : Str) := by rw [e]
    have e3 : (ckf v1 v2 l).lookup ("levels" : Str) = (ckf w1 w2 l').lookup ("levels" : Str) := by rw [e]
    rw [ckf_head, ckf_head] at e1
    rw [ckf_cycle, ckf_cycle] at e2
    rw [ckf_lv, ckf_lv] at e3
    cases e1
    cases e2
    cases e3
    exact ⟨rfl, rfl, rfl⟩
  refine ⟨⟨fun p u e => ?_, fun b dx' w1 w2 l' e n => ?_, fun b dx' w1 w2 b2 dx2 u1 u2 l' e1 e2 n1 n2 => ?_, fun b hb => upd_dom (sr.od b hb), tabs_upd sr.tb fun u hu => by rw [p1] at hu; cases hu; exact loose_tab lo, fun q hh cc n e => ?_⟩, ex⟩
  · by_cases hp : p = a
    · rw [hp, Sto.put_same] at e
      cases e
      rw [hp]
      exact .clk upd_same (d1.ext ex) (d2.ext ex) no
    · rw [Sto.put_ne hp] at e
      have e0 : S p = some u := by
        unfold Sto.del at e
        split at e
        · cases e
        · exact e
      exact (sr.at_ p u e0).ext ex (upd_ne hp)
  · by_cases hb : b = a
    · rw [hb, upd_same] at e
      have e := Option.some.inj e
      injection e with _ e1 e2
      obtain ⟨rfl, rfl, rfl⟩ := lev e2
      refine ⟨by rw [Sto.put_ne nal.symm, Sto.del_same], ⟨h, c, [.lst [.int 1]], xs, d1.ext ex, d2.ext ex, by rw [upd_ne nal.symm]; exact hl, rl.ext ex, ⟨0, rfl⟩, zl, g1, g2⟩⟩
    · have e0 := old e hb
      obtain ⟨k1, k2⟩ := sr.ck b dx' w1 w2 l' e0 n
      have n1 : l' ≠ a := fun z => by
        rw [z, q1] at k1
        cases k1
      refine ⟨?_, k2.ext ex fun ys hy => by rw [upd_ne n1]; exact hy⟩
      rw [Sto.put_ne n1]
      unfold Sto.del
      split
      · rfl
      · exact k1
  · by_cases hb : b = a
    · by_cases hb2 : b2 = a
      · rw [hb, hb2]
      · exfalso
        rw [hb, upd_same] at e1
        have e1 := Option.some.inj e1
        injection e1 with _ _ e3
        obtain ⟨_, _, rfl⟩ := lev e3
        have k1 := (sr.ck b2 dx2 u1 u2 _ (old e2 hb2) n2).1
        rw [q2] at k1
        cases k1
    · by_cases hb2 : b2 = a
      · exfalso
        rw [hb2, upd_same] at e2
        have e2 := Option.some.inj e2
        injection e2 with _ _ e3
        obtain ⟨_, _, rfl⟩ := lev e3
        have k1 := (sr.ck b dx' w1 w2 _ (old e1 hb) n1).1
        rw [q2] at k1
        cases k1
      · exact sr.sh b dx' w1 w2 b2 dx2 u1 u2 l' (old e1 hb) (old e2 hb2) n1 n2
  · have e0 : S q = some (.lev hh cc n) := by
      have e := put_lev (u := .clk h c) trivial e
      unfold Sto.del at e
      split at e
      · cases e
      · exact e
    obtain ⟨dx2, u1, u2, l2, xs2, a1, a2, a3, a4, a5, a6, a7, a8, a9⟩ := sr.lv q hh cc n e0
    have nl : l2 ≠ a := fun z => by
      rw [z, p1] at a4
      cases a4
    exact ⟨dx2, u1, u2, l2, xs2, ex.clk _ _ _ _ _ a1, a2.ext ex, a3.ext ex, by rw [upd_ne nl]; exact a4, a5.ext ex, a6, a7, a8, a9⟩
theorem RelF.two {K : PySem.W.Frag} {H : Hp} {f1 f2 : Str} {h c : List D} {vs : List (Str × V)} (r : RelF K C H [(f1, .tup h), (f2, .tup c)] vs) : ∃ v1 v2, vs = [(f1, .ref v1), (f2, .ref v2)] ∧ DR K C H (.tup h) (.ref v1) ∧ DR K C H (.tup c) (.ref v2) := by
  rcases vs with _ | ⟨⟨g1, w1⟩, _ | ⟨⟨g2, w2⟩, _ | ⟨x, vs⟩⟩⟩
  · exact r.elim
  · exact r.2.2.elim
  · obtain ⟨rfl, r1, rfl, r2, _⟩ := r
    cases r1 with
    | tup a1 b1 z1 =>
      cases r2 with
      | tup a2 b2 z2 => exact ⟨_, _, rfl, .tup a1 b1 z1, .tup a2 b2 z2⟩
  · exact r.2.2.2.2.elim
theorem ds_pub (k : Cls X.K C.clk) (n : NoAttr X.K C.clk "levels") (ho : DE C B X o wo) (he : DE C B X e we) (hs : swapsWith e (some (.Attribute o "levels" pos')) pos.line X.env = pure false := by rfl) : DS C B X (.Assign [.Attribute o "levels" pos'] e pos) (wPub wo we) :=
  ⟨PSimp (ps_fld ho.pe he.pe hs) fun Z σ H ⟨E, S, Dd, st, h, c⟩ => ⟨E, S, _, st, h, fun d S1 v H1 e1 r1 s1 h1 => ⟨E, S1, _, st.ext e1 s1, h1, fun x S2 u H2 e2 r2 s2 h2 => by
    obtain ⟨a, l, th, tc, rfl, rfl, q1, q2, g1, g2, q3⟩ := h2
    cases r2
    cases r1
    obtain ⟨dx, vs, p1, p2, p3, p4⟩ := s2.at_ a _ q1
    obtain ⟨v1, v2, rfl, d1, d2⟩ := p2.two
    obtain ⟨sr, ex⟩ := s2.pub q1 q2 p1 d1 d2 p4 g1 g2
    exact ⟨a, C.clk, dx, _, rfl, p1, k, n, by show 2 < 1000; decide, c.nx _ _ _ _ ((e1.trans e2).trans ex) ((st.ext (e1.trans e2) s2).ext ex sr) q3⟩⟩⟩⟩
end
end RL
namespace RL
open PySem PySem.Spec PyProof.Rows
open L2 hiding WE
/-- the class of clocks as its makers want it: its __init__ -/
structure DfK (P : Program) (w : World) (K : PySem.W.Frag) (mg : Str → Option Value) (base : Heap) (C : Cf) (x : Str) (k : Nat) (ps : List Str) (sp : DSp) : Prop where
  at_ : mg x = some (.ref C.clk)
  ex : ∃ (f : Addr) (fd : FuncData), DOk P w K mg base C k f fd ps sp ∧ Mk K C.clk f ∧ Binds K fd ps []
def wMake (sp : DSp) (Xd : Xn → EV → Sto → Prop) (w : WA) : RL.WE := fun E S Q => w E S fun ds S1 => ∀ a, S1 a = none → sp (.ref a :: ds) (S1.put a (.ins [])) (fun v S2 => v = .non ∧ ∃ h c, S2 a = some (.clk h c) ∧ Q (.clk h c) (S2.del a)) fun xn S3 => Xd xn E S3
theorem SR.made {K : PySem.W.Frag} {C : Cf} {S : Sto} {H : Hp} {x dx : Addr} (sr : SR K C S H) (h1 : H x = Option.none) (h2 : H dx = Option.none) (ne : dx ≠ x) : SR K C (S.put x (.ins [])) (upd (upd H dx (.own x)) x (.ins C.clk dx [])) ∧ Ext C H (upd (upd H dx (.own x)) x (.ins C.clk dx [])) := by
  have n1 : upd H dx (.own x) x = Option.none := by
    rw [upd_ne ne.symm]
    exact h1
  have e1 : Ext C H (upd H dx (.own x)) := Ext.new h2
  have e2 : Ext C (upd H dx (.own x)) (upd (upd H dx (.own x)) x (.ins C.clk dx [])) := Ext.new n1
  have s1 := sr.new (o := .own x) h2 trivial
  have s2 := s1.newB (o := .ins C.clk dx []) n1 (fun dx' fs z => by cases z; simp)
  refine ⟨s2.learn ⟨dx, [], upd_same, trivial, by simp, fun z => sr.od x z h1⟩ (s2.noLv fun xs z => ?_), e1.trans e2⟩
  rw [upd_same] at z
  cases z
section
variable {C : Cf} {B : Hp} {X : Cx} {k : Nat} {ps : List Str} {sp : DSp} {x : Str} {e : Expr} {es : List Expr} {wa : WA} {Xd : Xn → EV → Sto → Prop} {p pos : Pos}
theorem de_make (d : DfK X.prog X.w X.K X.mg X.base C x k ps sp) (hr : Room (k + 1) X.A) (dx : DX C B X Xd) (ha : DA C B X (e :: es) wa) (hg : Gl X x := by rfl) (hdb : (x == ("__debug__" : Str)) = false := by decide)
    (hst : starEach (e :: es) X.env = (false, eval e X.env) :: starEach es X.env := by rfl) (hpl : (backTo pos (starEach es X.env)).any (·.1) = false := by rfl) : DE C B X (.Call (.Name x p) (e :: es) [] pos) (wMake sp Xd wa) := by
  obtain ⟨W, tk, hW⟩ := dx.ex
  obtain ⟨f, fd, F, M, hb⟩ := d.ex
  refine ⟨⟨fun pins s σ H Q I ⟨E, S, Qd, st, h, c⟩ => ?_⟩⟩
  refine wpAny_Call_Name_kw (ld_glob I hg d.at_ ?_ hdb)
  refine PySem.W.callWith_K (h₀ := X.base) I.ok.mod.kin M.kp (thn (ha.pa.run pos pins s σ H (fun vs H1 => ∃ ds S1, Ext C H H1 ∧ DRs X.K C H1 ds vs ∧ SR X.K C S1 H1 ∧ ∀ a, S1 a = none → sp (.ref a :: ds) (S1.put a (.ins [])) (fun v S2 => v = .non ∧ ∃ h c, S2 a = some (.clk h c) ∧ Qd (.clk h c) (S2.del a)) fun xn S3 => Xd xn E S3) I ⟨E, S, _, st, h, fun ds S1 vs H1 e1 r1 s1 q => ⟨ds, S1, e1, r1, s1, q⟩⟩) fun us t1 hh => ?_) hst hpl
  obtain ⟨vs, H1, I1, rv, ds, S1, e1, r1, s1, q⟩ := hh
  refine ⟨I1.kIn, ?_⟩
  have nx : H1 (t1.heap.objs.size + 1) = none := I1.hok.fresh (Nat.le_succ _)
  have nd : H1 t1.heap.objs.size = none := I1.hok.fresh (Nat.le_refl _)
  have ne : t1.heap.objs.size ≠ t1.heap.objs.size + 1 := Nat.ne_of_lt (Nat.lt_succ_self _)
  obtain ⟨s2, e2⟩ := s1.made nx nd ne
  have I2 := Inv.made (C := C.clk) I1
  have hq : liftSp X.K C sp (.ref (t1.heap.objs.size + 1) :: vs) (upd (upd H1 t1.heap.objs.size (.own (t1.heap.objs.size + 1))) (t1.heap.objs.size + 1) (.ins C.clk t1.heap.objs.size [])) (fun v H2 => v = .non ∧ Q (.ref (t1.heap.objs.size + 1)) H2) (L2.WE W σ) := by
    refine ⟨.ref (t1.heap.objs.size + 1) :: ds, _, _, _, .cons (.ref _) (r1.ext e2), s2, q _ (s1.none nx), fun y S3 v H3 e3 r3 s3 hy => ?_, fun xn S' dd H' e3 s3 x3 q => hW xn E S' σ H' dd (st.ext ((e1.trans e2).trans e3) s3) x3 q⟩
    obtain ⟨rfl, th, tc, k1, k2⟩ := hy
    cases r3
    exact ⟨rfl, c _ _ _ _ ((e1.trans e2).trans e3) (s3.at_ _ _ k1) s3.sdel k2⟩
  have r2 : Vals (V.ref (t1.heap.objs.size + 1) :: vs) (Value.ref (t1.heap.objs.size + 1) :: us) := .cons rfl rv
  have hl : (Value.ref (t1.heap.objs.size + 1) :: us).length = ps.length := by
    rw [← r2.length]
    exact F.len _ _ _ _ hq
  have bind := hb _ (Value.ref (t1.heap.objs.size + 1) :: us) I2.kIn (by rw [List.append_nil]; exact hl)
  rw [List.append_nil] at bind
  refine wpAny_call (make_map (f := f) I1.kIn M.makes M.init (beq_iff_eq.mp M.fn) (codeAny_mono (F.run _ X.stack _ _ ⟨Value.ref (t1.heap.objs.size + 1) :: us, []⟩ (Value.ref (t1.heap.objs.size + 1) :: us) _ _ (L2.WE W σ) (hr.make C.clk us []) (I2.env0.make C.clk us []) bind r2 hq) fun r s' hq' => ?_))
  cases r with
  | error er => exact L2N.passAt tk σ pins _ _ er s' I2 hq'
  | ok fl =>
    cases fl with
    | ret u =>
      obtain ⟨v, H', I3, rv3, ev, q3⟩ := I2.after hq'
      subst ev
      exact ⟨rv3, V.ref (t1.heap.objs.size + 1), H', I3, rfl, q3⟩
    | next => exact hq'.elim
    | brk => exact hq'.elim
    | cont => exact hq'.elim
end
end RL
/-! {d for r in t for d in r}: the members of rows of ints, each once -/
namespace RL
open PySem PySem.Spec PyProof.Rows
open L2 hiding WE
section
variable {P : Program} {w : World} {A : Around} {R : Result → Shared → Prop} {s : Shared} {elt t0 i0 t1 i1 : Expr} {scope : Scope} {pos : Pos} {it acc : Value} {env : Env}
abbrev SC2 (elt t0 i0 t1 i1 : Expr) (scope : Scope) (pos : Pos) : Expr := .SetComp elt [⟨t0, i0, [], 0⟩, ⟨t1, i1, [], 0⟩] scope pos
abbrev wpN (P : Program) (w : World) (A : Around) {α : Type} (t : Sem α) (Q : α → Shared → Prop) (s : Shared) : Prop := wpAny (model P w) A t Q (fun _ _ => False) s
theorem wpN_up {α : Type} {t : Sem α} {Q Q' : α → Shared → Prop} {E : Value → Shared → Prop} (h : wpN P w A t Q s) (k : ∀ a s, Q a s → Q' a s) : wpAny (model P w) A t Q' E s := wpAny_mono h k fun _ _ z => z.elim
theorem sc2_turn0 : compTurn (SC2 elt t0 i0 t1 i1 scope pos) 0 it acc env = (do
      standAt i0.pos
      match ← pyNext it with
      | none => pure (.done .next)
      | some v =>
        letOwnedTupleGo t0 it v
        assign t0 env v
        let x ← eval i1 env
        standAt i1.pos
        let x ← foldedSetIterable i1 env x
        let _ ← runOwn (.compStart (SC2 elt t0 i0 t1 i1 scope pos) 1 (← holding [x] (pyIter x)) acc env) env
        again (.compLoop (SC2 elt t0 i0 t1 i1 scope pos) 0 it acc env)) := by rfl
theorem sc2_turn1 : compTurn (SC2 elt t0 i0 t1 i1 scope pos) 1 it acc env = (do
      standAt i1.pos
      match ← pyNext it with
      | none => pure (.done .next)
      | some v =>
        letOwnedTupleGo t1 it v
        assign t1 env v
        (do let u ← eval elt env; standAt elt.pos; let _ ← call (.builtin "set.add") [acc, u])
        again (.compLoop (SC2 elt t0 i0 t1 i1 scope pos) 1 it acc env)) := by rfl
/-- the outer clause: a turn by what its parts promise -/
theorem sc2_out (hs : ∀ x, foldedSetIterable i1 env x = pure x) (I : Nat → Shared → Prop)
    (turn : ∀ n s, I n s → wpN P w A (pyNext it) (fun r s1 => (r = none ∧ R (.ok .next) s1) ∨ ∃ v, r = some v ∧ wpN P w A (letOwnedTupleGo t0 it v) (fun _ s2 => wpN P w A (assign t0 env v) (fun _ s3 => wpN P w A (eval i1 env) (fun x s4 => wpN P w A (pyIter x) (fun it1 s5 =>
      codeAny (model P w) A (.compStart (SC2 elt t0 i0 t1 i1 scope pos) 1 it1 acc env) (fun r s6 => (∃ f, r = .ok f) ∧ ∃ m, m < n ∧ I m s6) s5) s4) s3) s2) s1) s)
    (n : Nat) (h : I n s) : codeAny (model P w) A (.compLoop (SC2 elt t0 i0 t1 i1 scope pos) 0 it acc env) R s := by
  refine codeAny_loop rfl I (fun n s hI => ?_) n h
  change wpAny _ A ((compTurn (SC2 elt t0 i0 t1 i1 scope pos) 0 it acc env).onRaise fun x => do noteFrame x env; theTreesLotGoes x) _ _ s
  apply wpAny_noted
  rw [sc2_turn0]
  apply wpAny_bind
  apply wpAny_standAt
  apply wpAny_bind
  refine wpN_up (turn n s hI) fun r s1 h1 => ?_
  rcases h1 with ⟨rfl, h1⟩ | ⟨v, rfl, h1⟩
  · exact wpAny_pure h1
  · apply wpAny_bind
    refine wpN_up h1 fun _ s2 h2 => ?_
    apply wpAny_bind
    refine wpN_up h2 fun _ s3 h3 => ?_
    apply wpAny_bind
    refine wpN_up h3 fun x s4 h4 => ?_
    apply wpAny_bind
    apply wpAny_standAt
    apply wpAny_bind
    apply wpAny_of_eq (hs x)
    apply wpAny_bind
    apply wpAny_holding
    refine wpN_up h4 fun it1 s5 h5 => ?_
    apply wpAny_bind
    refine wpAny_runOwn ?_
    rw [Around.mark_none]
    refine codeAny_mono h5 fun r s6 h6 => ?_
    obtain ⟨⟨f, rfl⟩, h6⟩ := h6
    first
      | exact wpAny_pure ⟨rfl, h6⟩
      | exact wpAny_bind (wpAny_pure (wpAny_pure ⟨rfl, h6⟩))
/-- the inner clause -/
theorem sc2_in (I : Nat → Shared → Prop)
    (turn : ∀ n s, I n s → wpN P w A (pyNext it) (fun r s1 => (r = none ∧ R (.ok .next) s1) ∨ ∃ v, r = some v ∧ wpN P w A (letOwnedTupleGo t1 it v) (fun _ s2 => wpN P w A (assign t1 env v) (fun _ s3 => wpN P w A (eval elt env) (fun x s4 =>
      wpN P w A (call (.builtin "set.add") [acc, x]) (fun _ s5 => ∃ m, m < n ∧ I m s5) s4) s3) s2) s1) s)
    (n : Nat) (h : I n s) : codeAny (model P w) A (.compLoop (SC2 elt t0 i0 t1 i1 scope pos) 1 it acc env) R s := by
  refine codeAny_loop rfl I (fun n s hI => ?_) n h
  change wpAny _ A ((compTurn (SC2 elt t0 i0 t1 i1 scope pos) 1 it acc env).onRaise fun x => do noteFrame x env; theTreesLotGoes x) _ _ s
  apply wpAny_noted
  rw [sc2_turn1]
  apply wpAny_bind
  apply wpAny_standAt
  apply wpAny_bind
  refine wpN_up (turn n s hI) fun r s1 h1 => ?_
  rcases h1 with ⟨rfl, h1⟩ | ⟨v, rfl, h1⟩
  · exact wpAny_pure h1
  · apply wpAny_bind
    refine wpN_up h1 fun _ s2 h2 => ?_
    apply wpAny_bind
    refine wpN_up h2 fun _ s3 h3 => ?_
    apply wpAny_bind
    apply wpAny_bind
    refine wpN_up h3 fun x s4 h4 => ?_
    apply wpAny_bind
    apply wpAny_standAt
    apply wpAny_bind
    refine wpN_up h4 fun _ s5 h5 => ?_
    exact wpAny_pure (wpAny_pure ⟨rfl, h5⟩)
/-- a clause's start: its iterator is asked for itself -/
theorem sc2_start {k : Nat} (hk : k = 0 ∨ k = 1) (h0 : codeAny (model P w) A (.compLoop (SC2 elt t0 i0 t1 i1 scope pos) k it acc env) R s) (hs : ∀ (Q : Value → Shared → Prop) (E : Value → Shared → Prop), Q it s → wpAny (model P w) A (pyIter it) Q E s) :
    codeAny (model P w) A (.compStart (SC2 elt t0 i0 t1 i1 scope pos) k it acc env) R s := by
  rcases hk with rfl | rfl
  all_goals
    apply codeAny_of_tree
    apply wpAny_notedAt
    unfold compStart
    change wpAny _ _ (ask >>= _) _ _ s
    apply wpAny_bind
    apply wpAny_askSetting
    apply wpAny_ite
    split
    · first
        | exact wpAny_bind (wpAny_pure (wpAny_pure ⟨rfl, h0⟩))
        | exact wpAny_pure ⟨rfl, h0⟩
    · apply wpAny_bind
      apply wpAny_rule
      first
        | (apply wpAny_bind; apply wpAny_standAt; apply wpAny_bind; exact hs _ _ (wpAny_pure ⟨rfl, h0⟩))
        | (change wpAny _ _ (standAt i0.pos >>= _) _ _ s; apply wpAny_bind; apply wpAny_standAt; apply wpAny_bind; exact hs _ _ (wpAny_pure ⟨rfl, h0⟩))
        | (change wpAny _ _ (standAt i1.pos >>= _) _ _ s; apply wpAny_bind; apply wpAny_standAt; apply wpAny_bind; exact hs _ _ (wpAny_pure ⟨rfl, h0⟩))
end
/-! ### as tracked things -/
abbrev SO (w : World) (Z : Addr) (ds : List Int) : HO := SetO w Z (fun k => decide (k ∈ ds)) ds.length
def insI (k : Int) (ds : List Int) : List Int := if k ∈ ds then ds else k :: ds
theorem insI_nodup {k : Int} {ds : List Int} (h : ds.Nodup) : (insI k ds).Nodup := by
  unfold insI
  split
  · exact h
  · rename_i n
    exact List.nodup_cons.mpr ⟨n, h⟩
theorem insI_mem {k j : Int} {ds : List Int} : j ∈ insI k ds ↔ j ∈ ds ∨ j = k := by
  unfold insI
  split
  · rename_i h
    exact ⟨.inl, fun z => z.elim id fun e => e ▸ h⟩
  · rw [List.mem_cons]
    exact Or.comm
theorem insI_len {k : Int} {ds : List Int} : (insI k ds).length ≤ ds.length + 1 := by
  unfold insI
  split
  · omega
  · exact Nat.le_refl _
theorem so_ins {w : World} {Z : Addr} {k : Int} {ds : List Int} : SetO w Z (fun j => decide (j ∈ ds) || decide (j = k)) (if decide (k ∈ ds) = true then ds.length else ds.length + 1) = SO w Z (insI k ds) := by
  have e1 : (fun j => decide (j ∈ ds) || decide (j = k)) = fun j => decide (j ∈ insI k ds) := by
    funext j
    rw [← Bool.decide_or]
    exact decide_eq_decide.mpr insI_mem.symm
  have e2 : (if decide (k ∈ ds) = true then ds.length else ds.length + 1) = (insI k ds).length := by
    unfold insI
    by_cases h : k ∈ ds <;> simp [h]
  rw [e1, e2]
theorem sq_upd {K : PySem.W.Frag} {H : Hp} {Z a : Addr} {o : HO} {xs : List V} (hZ : H Z = none) (h : SqT K H a xs) : SqT K (upd H Z o) a xs := by
  rcases h with (h | ⟨u, h⟩) | h
  · exact .inl (.inl (by rw [upd_ne (ne_of_none h hZ)]; exact h))
  · exact .inl (.inr ⟨u, by rw [upd_ne (ne_of_none h hZ)]; exact h⟩)
  · exact .inr h
inductive RowsV (K : PySem.W.Frag) (H : Hp) : List V → List (List Int) → Prop
  | nil : RowsV K H [] []
  | cons {b : Addr} {ns : List Int} {xs : List V} {rows : List (List Int)} (h : SqT K H b (ns.map V.int)) (t : RowsV K H xs rows) : RowsV K H (.ref b :: xs) (ns :: rows)
theorem RowsV.len {K : PySem.W.Frag} {H : Hp} : ∀ {xs : List V} {rows : List (List Int)}, RowsV K H xs rows → xs.length = rows.length
  | _, _, .nil => rfl
  | _, _, .cons _ t => congrArg Nat.succ (RowsV.len t)
theorem RowsV.get {K : PySem.W.Frag} {H : Hp} : ∀ {xs : List V} {rows : List (List Int)} {i : Nat} {x : V}, RowsV K H xs rows → xs[i]? = some x → ∃ b ns, x = .ref b ∧ rows[i]? = some ns ∧ SqT K H b (ns.map V.int)
  | _, _, _, _, .nil, e => by simp at e
  | _, _, 0, _, .cons h _, e => by simp at e; subst e; exact ⟨_, _, rfl, rfl, h⟩
  | _, _, i + 1, x, .cons _ t, e => by
    obtain ⟨b, ns, h1, h2, h3⟩ := RowsV.get (i := i) (x := x) t (by simpa using e)
    exact ⟨b, ns, h1, by simpa using h2, h3⟩
theorem flat_snoc {rows : List (List Int)} {i : Nat} {ns : List Int} (h : rows[i]? = some ns) : (rows.take (i + 1)).flatten = (rows.take i).flatten ++ ns := by
  have hi : i < rows.length := by
    rcases Nat.lt_or_ge i rows.length with z | z
    · exact z
    · rw [List.getElem?_eq_none z] at h
      cases h
  rw [List.getElem?_eq_getElem hi] at h
  rw [List.take_succ_eq_append_getElem hi, List.flatten_append, ← Option.some.inj h]
  simp
theorem take_snocI {ns : List Int} {j : Nat} {k : Int} (h : ns[j]? = some k) : ns.take (j + 1) = ns.take j ++ [k] := by
  have hj : j < ns.length := by
    rcases Nat.lt_or_ge j ns.length with z | z
    · exact z
    · rw [List.getElem?_eq_none z] at h
      cases h
  rw [List.getElem?_eq_getElem hj] at h
  rw [List.take_succ_eq_append_getElem hj, ← Option.some.inj h]
section
variable {X : Cx} {pins : List (Addr × Obj)} {σ : L2.St} {H : Hp} {s : Shared}
theorem so_add {E : Value → Shared → Prop} {Z : Addr} {ds : List Int} {k : Int} {u : Value} {Q : Value → Shared → Prop} (I : Inv X pins σ H s) (hZ : H Z = some (SO X.w Z ds)) (hz : ds.length + 1 < scanBound) (r : RelV (.int k) u) (h : ∀ (v : Value) (s' : Shared), Inv X pins σ (upd H Z (SO X.w Z (insI k ds))) s' → Q v s') :
    wpAny (model X.prog X.w) X.A (call (.builtin "set.add") [.ref Z, u]) Q E s := by
  obtain ⟨t, rfl⟩ := r
  refine setR_add (setO_get I hZ) hz fun h' sb new => h _ _ ?_
  rw [← so_ins]
  have ⟨o, _, _, _, ho, _⟩ := new
  exact I.write (e := Z) (by rw [hZ]; trivial) (.inl rfl) (fun b u hb e => (sb.2 b hb).trans e) ⟨o, ho⟩ (setO_new new)
theorem set2_core {r d t : Str} {p1 p2 p3 p4 p5 pos : Pos} {ir id it0 : Nat} {scope : Scope} {own : List (Str × Nat)} {a : Addr} {xs : List V} {rows : List (List Int)} (hc : X.calm = true) (hN : X.N.Nodup) (I : Inv X pins σ H s) (ok : BlkOk X.N X.env.scope scope own)
    (ht : PE X (.Name t p3) (tVar it0)) (h1 : ∀ (s : Shared) (H : Hp) (L : Addr) (cl : List (Str × Addr)) (fp : List Addr), PG (X.blk s H scope (compEnvC scope cl L X.env) fp) (.Name r p2) (gName ir) ∧ PE (X.blk s H scope (compEnvC scope cl L X.env) fp) (.Name r p5) (tVar ir) ∧ PG (X.blk s H scope (compEnvC scope cl L X.env) fp) (.Name d p4) (gName id) ∧ PE (X.blk s H scope (compEnvC scope cl L X.env) fp) (.Name d p1) (tVar id))
    (hr : ir ∈ own.map (·.2)) (hd : id ∈ own.map (·.2)) (lr : ir < X.N.length) (ld : id < X.N.length) (ne : ir ≠ id) (hva : σ[it0]? = some (some (.ref a))) (hA : SqT X.K H a xs) (hR : RowsV X.K H xs rows) (hz : rows.flatten.length + 2 < scanBound)
    (hs : ∀ x, foldedSetIterable (.Name t p3) X.env x = pure x) (hs1 : ∀ env x, foldedSetIterable (.Name r p5) env x = pure x) :
    wpAny (model X.prog X.w) X.A (eval (SC2 (.Name d p1) (.Name r p2) (.Name t p3) (.Name d p4) (.Name r p5) scope pos) X.env)
      (fun v s' => ∃ (Z : Addr) (ds : List Int), v = .ref Z ∧ H Z = none ∧ ds.Nodup ∧ (∀ k, k ∈ ds ↔ k ∈ rows.flatten) ∧ Inv X pins σ (upd H Z (SO X.w Z ds)) s') X.xe s := by
  have hfree : ∀ y ∈ scope.names, y.2 = .free → ∃ c, X.env.cells.lookup y.1 = some c := fun y hy e => (ok.free y hy e).elim (fun k => I.ok.has _ (.inl k)) fun k => I.ok.has _ (.inr k)
  rw [PpSet.eval_SetComp]
  refine wpAny_comprehension_free (use := none) rfl hs (closure_ok hfree) ok.kind (fun y hy e => by rw [ok.uniq y hy, e]) ?_
  refine thn (ht.run pins s σ H (fun v H1 => v = .ref a ∧ H1 = H) I ⟨.ref a, hva, rfl, rfl⟩) fun u s1 ⟨v, H1, I1, rv, e1, e2⟩ => ?_
  subst e1 e2
  obtain rfl : u = Value.ref a := rv
  refine thn (iter_tup (tg := .Name r p2) (R := fun J H' => J = Itt X.K a ∧ H' = H1) I1 hA ⟨rfl, rfl⟩) fun itv s2 h2 => ?_
  obtain ⟨it, fp, tn, J, H2, rfl, I2, T, st2, f2, rfl, rfl⟩ := h2
  refine PpSet.newSet_ok (newEnv_comp ?_)
  generalize hZ : s2.heap.objs.size = Z
  have nZ : H2 Z = none := I2.hok.fresh (Nat.le_of_eq hZ)
  have so0 : SetO X.w Z (fun _ => false) 0 = SO X.w Z [] := by simp [SO]
  generalize hs3 : ({ s2 with heap := s2.heap.push { cls := .type "set", dict := none, data := .set #[] 0 (.fresh 0 0 (!X.w.params.followText "set-order")) } } : Shared) = s3
  have I3 : Inv X pins σ (upd H2 Z (SO X.w Z [])) s3 := by
    rw [← hs3, ← so0]
    refine I2.laid (t' := s2.toks) (fun b o e => Heap.get?_push_of_some _ e) (Nat.le_of_eq hZ) ?_
    rw [← hZ]
    exact setO_new (setR_fresh X.w)
  have k23 : ∀ b o, s2.heap.get? b = some o → s3.heap.get? b = some o := fun b o e => by rw [← hs3]; exact Heap.get?_push_of_some _ e
  have sz3 : s3.heap.objs.size = Z + 1 := by rw [← hs3, ← hZ]; exact Heap.size_push ..
  have fZ : ∀ b ∈ fp, b < Z ∧ H2 b = none := fun b hb => by
    obtain ⟨o, e, _⟩ := T.obj _ _ st2 b hb
    rw [← hZ]
    exact ⟨Heap.lt_size e, (f2 b hb).1⟩
  have fU : ∀ (ds : List Int), ∀ b ∈ fp, upd H2 Z (SO X.w Z ds) b = none := fun ds b hb => by
    rw [upd_ne (Nat.ne_of_lt (fZ b hb).1)]
    exact (fZ b hb).2
  have f3 : ∀ b ∈ fp, FpOk X pins (upd H2 Z (SO X.w Z [])) b ∧ b < s3.heap.objs.size := fun b hb => ⟨⟨fU [] b hb, (f2 b hb).2⟩, by rw [sz3]; exact Nat.lt_succ_of_lt (fZ b hb).1⟩
  have I4 := block_start I3 ok hN f3
  obtain ⟨pg0, pr, pg1, pd⟩ := h1 s3 (upd H2 Z (SO X.w Z [])) s3.heap.objs.size (cellsFrom (s3.heap.objs.size + 1) scope.names (cloFrom X.env.cells scope.names [])) fp
  change codeAny _ _ (.compStart (SC2 (.Name d p1) (.Name r p2) (.Name t p3) (.Name d p4) (.Name r p5) scope pos) 0 (.ref it) (.ref Z) (compEnvC scope (cellsFrom (s3.heap.objs.size + 1) scope.names (cloFrom X.env.cells scope.names [])) s3.heap.objs.size X.env)) (compPost (model X.prog X.w) X.A X.xe none _ (.ref Z) s3.heap.objs.size) { s3 with heap := pushCells (s3.heap.push { cls := .type "dict", data := .dict #[] }) scope.names }
  generalize hce : compEnvC scope (cellsFrom (s3.heap.objs.size + 1) scope.names (cloFrom X.env.cells scope.names [])) s3.heap.objs.size X.env = ce at I4 pg0 pr pg1 pd ⊢
  have cL : ce.locals = s3.heap.objs.size := by rw [← hce]; rfl
  generalize hH3 : upd H2 Z (SO X.w Z []) = H3 at I3 I4 pg0 pr pg1 pd f3
  generalize hs4 : ({ s3 with heap := pushCells (s3.heap.push { cls := .type "dict", data := .dict #[] }) scope.names } : Shared) = s4 at I4 ⊢
  have st4 : tn 0 s4.heap := T.keep _ _ _ st2 fun b _ o e => by rw [← hs4]; exact pushCells_keeps _ _ _ _ (Heap.get?_push_of_some _ (k23 b o e))
  have lw : (L2.wipe σ (own.map (·.2))).length = X.N.length := (L2.wipe_length _ _).trans I.len
  -- what the block may know of its own names
  have blind : ∀ {j : Nat} {v : V}, j ∈ own.map (·.2) → (L2.wipe σ (own.map (·.2)))[j]? = some (some v) → False := fun {j v} hj e => (wipe_some e).2 hj
  have stat : ∀ (ps : List (Addr × Obj)) (ds : List Int), (∀ b ∈ fp, ∀ p ∈ ps, p.1 ≠ b) → ∀ {σ' : L2.St} {s' : Shared}, Inv (X.blk s3 H3 scope ce fp) [] σ' (upd H2 Z (SO X.w Z ds)) s' → ∀ b ∈ fp, FpOk (X.blk s3 H3 scope ce fp) ps (upd H2 Z (SO X.w Z ds)) b := fun ps ds hp {σ' s'} I' b hb =>
    ⟨fU ds b hb, (I'.ok.exf b hb).1, I'.ok.exfs b hb, .inl hb, fun x c e => (I'.ok.exf b hb).2 x c e, fun p h => hp b hb p (by simpa using h)⟩
  -- the invariant of the outer clause
  have loop : codeAny (model X.prog X.w) X.A (.compLoop (SC2 (.Name d p1) (.Name r p2) (.Name t p3) (.Name d p4) (.Name r p5) scope pos) 0 (.ref it) (.ref Z) ce) (compPost (model X.prog X.w) X.A X.xe none (fun v s' => ∃ (Z : Addr) (ds : List Int), v = .ref Z ∧ H2 Z = none ∧ ds.Nodup ∧ (∀ k, k ∈ ds ↔ k ∈ rows.flatten) ∧ Inv X pins σ (upd H2 Z (SO X.w Z ds)) s') (.ref Z) s3.heap.objs.size) s4 := by
    refine sc2_out (hs1 ce) (fun n s' => ∃ (i : Nat) (ds : List Int), n = rows.length - i ∧ i ≤ rows.length ∧ Inv (X.blk s3 H3 scope ce fp) [] (L2.wipe σ (own.map (·.2))) (upd H2 Z (SO X.w Z ds)) s' ∧ tn i s'.heap ∧ ds.Nodup ∧ ds.length ≤ (rows.take i).flatten.length ∧ ∀ k, k ∈ ds ↔ k ∈ (rows.take i).flatten) ?_ rows.length ⟨0, [], rfl, Nat.zero_le _, hH3 ▸ I4, st4, List.nodup_nil, Nat.zero_le _, by simp⟩
    rintro n s5 ⟨i, ds, rfl, hi, I5, st5, nd, dl, dm⟩
    have hA5 : SqT X.K (upd H2 Z (SO X.w Z ds)) a xs := sq_upd nZ hA
    by_cases hlt : i < rows.length
    · have hx : ∃ x, xs[i]? = some x := ⟨_, List.getElem?_eq_getElem (hR.len ▸ hlt)⟩
      obtain ⟨x0, hx⟩ := hx
      refine wpN_up (T.item (X.blk s3 H3 scope ce fp) rfl rfl rfl hc i [] s5 _ _ (fun _ _ => False) I5 (stat [] ds (fun _ _ _ h => nomatch h) I5) st5 ⟨xs, x0, hA5, hx⟩) fun q s6 h6 => .inr ?_
      obtain ⟨u, rfl, h6⟩ := h6
      refine ⟨u, rfl, wpN_up h6 fun _ s7 h7 => ?_⟩
      obtain ⟨x, H7, I7, r7, ⟨rfl, y7⟩, st7, _⟩ := h7
      have ex : xs[i]? = some x := y7 xs hA5
      obtain ⟨b, ns, rfl, hrow, hb⟩ := hR.get ex
      have hb7 : SqT X.K (upd H2 Z (SO X.w Z ds)) b (ns.map V.int) := sq_upd nZ hb
      have I7' := I7.pinned (stat [] ds (fun _ _ _ h => nomatch h) I7) (T.obj _ _ st7)
      refine wpN_up (pg0.run _ s7 _ _ (.ref b) u (fun σ' H' => σ' = (L2.wipe σ (own.map (·.2))).set ir (some (.ref b)) ∧ H' = upd H2 Z (SO X.w Z ds)) I7' r7 ⟨rfl, rfl⟩) fun _ s8 h8 => ?_
      obtain ⟨σ8, H8, I8, rfl, rfl⟩ := h8
      refine wpN_up (pr.run _ s8 _ _ (fun v H' => v = .ref b ∧ H' = upd H2 Z (SO X.w Z ds)) I8 ⟨.ref b, List.getElem?_set_self (by rw [lw]; exact lr), rfl, rfl⟩) fun xv s9 h9 => ?_
      obtain ⟨v9, H9, I9, rv9, rfl, rfl⟩ := h9
      obtain rfl : xv = Value.ref b := rv9
      refine wpN_up (iter_tup (X := X.blk s3 H3 scope ce fp) (tg := .Name d p4) (R := fun J H' => J = Itt X.K b ∧ H' = upd H2 Z (SO X.w Z ds)) I9 hb7 ⟨rfl, rfl⟩) fun itv s10 h10 => ?_
      obtain ⟨it1, fp1, tn1, J1, H10, rfl, I10, T1, st10, f10, rfl, rfl⟩ := h10
      have fZ1 : ∀ b' ∈ fp1, ∀ es : List Int, upd H2 Z (SO X.w Z es) b' = none := fun b' hb' es => by
        have z := (f10 b' hb').1
        have nz : b' ≠ Z := fun q => by rw [q, upd_same] at z; cases z
        rw [upd_ne nz] at z
        rw [upd_ne nz]
        exact z
      have keep8 : ∀ (j : Nat) (v : V), (L2.wipe σ (own.map (·.2)))[j]? = some (some v) → ((L2.wipe σ (own.map (·.2))).set ir (some (.ref b)))[j]? = some (some v) := fun j v e => by
        rw [List.getElem?_set_ne fun z => blind hr (z ▸ e)]
        exact e
      -- back at the outer clause
      have out : ∀ {s' : Shared} {es : List Int}, Inv (X.blk s3 H3 scope ce fp) ([] ++ pinsAt fp s7.heap) ((L2.wipe σ (own.map (·.2))).set ir (some (.ref b))) (upd H2 Z (SO X.w Z es)) s' → es.Nodup → es.length ≤ ds.length + ns.length → (∀ k, k ∈ es ↔ k ∈ ds ∨ k ∈ ns) →
          ∃ m, m < rows.length - i ∧ ∃ (j : Nat) (es : List Int), m = rows.length - j ∧ j ≤ rows.length ∧ Inv (X.blk s3 H3 scope ce fp) [] (L2.wipe σ (own.map (·.2))) (upd H2 Z (SO X.w Z es)) s' ∧ tn j s'.heap ∧ es.Nodup ∧ es.length ≤ (rows.take j).flatten.length ∧ ∀ k, k ∈ es ↔ k ∈ (rows.take j).flatten := fun {s' es} I' n' l' m' => by
        refine ⟨rows.length - (i + 1), by omega, i + 1, es, rfl, hlt, (I'.unpinned (pins := [])).weak (by rw [List.length_set]) keep8, T.keep _ _ _ st7 fun b' hb' o e => ?_, n', ?_, fun k => ?_⟩
        · exact (I'.pin (b', o) (List.mem_append_right _ (List.mem_append_right _ (mem_pinsAt hb' e)))).1
        · rw [flat_snoc hrow, List.length_append]
          omega
        · rw [flat_snoc hrow, List.mem_append, m', dm]
      have loop1 : codeAny (model X.prog X.w) X.A (.compLoop (SC2 (.Name d p1) (.Name r p2) (.Name t p3) (.Name d p4) (.Name r p5) scope pos) 1 (.ref it1) (.ref Z) ce) (fun r' s' => (∃ f, r' = .ok f) ∧ ∃ m, m < rows.length - i ∧ ∃ (j : Nat) (es : List Int), m = rows.length - j ∧ j ≤ rows.length ∧ Inv (X.blk s3 H3 scope ce fp) [] (L2.wipe σ (own.map (·.2))) (upd H2 Z (SO X.w Z es)) s' ∧ tn j s'.heap ∧ es.Nodup ∧ es.length ≤ (rows.take j).flatten.length ∧ ∀ k, k ∈ es ↔ k ∈ (rows.take j).flatten) s10 := by
        refine sc2_in (fun n s' => ∃ (j : Nat) (es : List Int), n = ns.length - j ∧ j ≤ ns.length ∧ Inv (X.blk s3 H3 scope ce fp) ([] ++ pinsAt fp s7.heap) ((L2.wipe σ (own.map (·.2))).set ir (some (.ref b))) (upd H2 Z (SO X.w Z es)) s' ∧ tn1 j s'.heap ∧ es.Nodup ∧ es.length ≤ ds.length + j ∧ ∀ k, k ∈ es ↔ k ∈ ds ∨ k ∈ ns.take j) ?_ ns.length ⟨0, ds, rfl, Nat.zero_le _, I10, st10, nd, Nat.le_refl _, by simp⟩
        rintro n s11 ⟨j, es, rfl, hj, I11, st11, en, el, em⟩
        have stat1 : ∀ {s' : Shared}, Inv (X.blk s3 H3 scope ce fp) ([] ++ pinsAt fp s7.heap) ((L2.wipe σ (own.map (·.2))).set ir (some (.ref b))) (upd H2 Z (SO X.w Z es)) s' → ∀ b' ∈ fp1, FpOk (X.blk s3 H3 scope ce fp) ([] ++ pinsAt fp s7.heap) (upd H2 Z (SO X.w Z es)) b' := fun {s'} _ b' hb' => ⟨fZ1 b' hb' es, (f10 b' hb').2⟩
        have hb11 : SqT X.K (upd H2 Z (SO X.w Z es)) b (ns.map V.int) := sq_upd nZ hb
        by_cases hjl : j < ns.length
        · have hk : (ns.map V.int)[j]? = some (V.int ns[j]) := by rw [List.getElem?_map, List.getElem?_eq_getElem hjl]; rfl
          refine wpN_up (T1.item (X.blk s3 H3 scope ce fp) rfl rfl rfl hc j _ s11 _ _ (fun _ _ => False) I11 (stat1 I11) st11 ⟨_, _, hb11, hk⟩) fun q s12 h12 => .inr ?_
          obtain ⟨u1, rfl, h12⟩ := h12
          refine ⟨u1, rfl, wpN_up h12 fun _ s13 h13 => ?_⟩
          obtain ⟨x1, H13, I13, r13, ⟨rfl, y13⟩, st13, _⟩ := h13
          have ex1 := y13 _ hb11
          rw [hk] at ex1
          obtain rfl := Option.some.inj ex1
          have I13' := I13.pinned (stat1 I13) (T1.obj _ _ st13)
          refine wpN_up (pg1.run _ s13 _ _ (.int ns[j]) u1 (fun σ' H' => σ' = ((L2.wipe σ (own.map (·.2))).set ir (some (.ref b))).set id (some (.int ns[j])) ∧ H' = upd H2 Z (SO X.w Z es)) I13' r13 ⟨rfl, rfl⟩) fun _ s14 h14 => ?_
          obtain ⟨σ14, H14, I14, rfl, rfl⟩ := h14
          refine wpN_up (pd.run _ s14 _ _ (fun v H' => v = .int ns[j] ∧ H' = upd H2 Z (SO X.w Z es)) I14 ⟨.int ns[j], List.getElem?_set_self (by rw [List.length_set, lw]; exact ld), rfl, rfl⟩) fun xv s15 h15 => ?_
          obtain ⟨v15, H15, I15, rv15, rfl, rfl⟩ := h15
          have room : es.length + 1 < scanBound := by
            have z1 : (rows.take (i + 1)).flatten.length ≤ rows.flatten.length := by
              have z := congrArg (fun l : List (List Int) => l.flatten.length) (List.take_append_drop (i + 1) rows)
              simp only [List.flatten_append, List.length_append] at z
              omega
            rw [flat_snoc hrow, List.length_append] at z1
            omega
          refine so_add (X := X.blk s3 H3 scope ce fp) I15 upd_same room rv15 fun v16 s16 I16 => ?_
          rw [upd_upd] at I16
          refine ⟨ns.length - (j + 1), by omega, j + 1, insI ns[j] es, rfl, hjl, I16.unpinned.weak (by simp only [List.length_set]) (fun l v e => ?_), T1.keep _ _ _ st13 fun b' hb' o e => ?_, insI_nodup en, Nat.le_trans insI_len (by omega), fun k => ?_⟩
          · by_cases z : id = l
            · subst z
              rw [List.getElem?_set_ne ne] at e
              exact (blind hd e).elim
            · rw [List.getElem?_set_ne z]
              exact e
          · exact (I16.pin (b', o) (List.mem_append_right _ (List.mem_append_right _ (mem_pinsAt hb' e)))).1
          · rw [insI_mem, em, take_snocI (List.getElem?_eq_getElem hjl), List.mem_append, List.mem_singleton, or_assoc]
        · have ej : j = ns.length := by omega
          refine wpN_up (T1.done (X.blk s3 H3 scope ce fp) rfl rfl rfl hc j _ s11 _ _ (fun _ _ => False) I11 (stat1 I11) st11 ⟨_, hb11, by rw [List.length_map]; omega⟩) fun q s12 h12 => .inl ?_
          obtain ⟨rfl, I12⟩ := h12
          refine ⟨rfl, ⟨_, rfl⟩, out I12 en (by omega) fun k => ?_⟩
          rw [em, ej, List.take_length]
      exact sc2_start (.inr rfl) loop1 fun Q E q => T1.self X.A 0 _ _ _ st10 q
    · have ei : i = rows.length := by omega
      refine wpN_up (T.done (X.blk s3 H3 scope ce fp) rfl rfl rfl hc i [] s5 _ _ (fun _ _ => False) I5 (stat [] ds (fun _ _ _ h => nomatch h) I5) st5 ⟨xs, hA5, by rw [hR.len]; omega⟩) fun q s6 h6 => .inl ?_
      obtain ⟨rfl, I6⟩ := h6
      have I7 : Inv X pins σ (upd H2 Z (SO X.w Z ds)) s6 := I3.call' (ch := fp) I6.os I6.base I6.hok I6.bare fun b hb => ⟨(f3 b hb).1.2.2.2.1, (f3 b hb).1.2.1, (f3 b hb).1.2.2.2.2.1, (f3 b hb).1.2.2.2.2.2⟩
      have nC : upd H2 Z (SO X.w Z ds) s3.heap.objs.size = none := by
        have z : upd H2 Z (SO X.w Z ds) ce.locals = none := I6.free
        rwa [cL] at z
      obtain ⟨m, hn, _⟩ := I6.loc
      have hn : s6.heap.Ns ce.locals m := hn
      rw [cL] at hn
      obtain ⟨g0, g1, g2, g3, g4, g5⟩ := I3.fpOk (Nat.le_refl _) nC
      refine ⟨rfl, m, hn, fun h' sb => ⟨Z, ds, rfl, nZ, nd, fun k => ?_, I7.turned (t' := s6.toks) (fun b o hb e => (sb.2 b hb).trans e) g0 g1 g3 g4 g5⟩⟩
      rw [dm, ei, List.take_length]
  exact sc2_start (.inl rfl) loop fun Q E q => T.self X.A 0 _ _ _ st4 q
end
end RL
namespace RL
open PySem PySem.Spec PyProof.Rows
open L2 hiding WE
/-! ### len({d for r in t for d in r}) -/
def wLenSet (it0 : Nat) : RL.WE := fun E S Q => ∃ rows : List (List Int), E[it0]? = some (some (.tup (rows.map fun r => .tup (r.map D.int)))) ∧ rows.flatten.length ≤ 4000 ∧ ∀ ds : List Int, ds.Nodup → (∀ k, k ∈ ds ↔ k ∈ rows.flatten) → Q (.int ds.length) S
theorem rowsV_of {K : PySem.W.Frag} {C : Cf} {H : Hp} : ∀ {rows : List (List Int)} {xs : List V}, DRs K C H (rows.map fun r => .tup (r.map D.int)) xs → RowsV K H xs rows
  | [], xs, h => by
    rw [List.map_nil] at h
    cases h
    exact .nil
  | r :: rows, xs, h => by
    rw [List.map_cons] at h
    cases h with
    | cons r1 t =>
      cases r1 with
      | tup a b z =>
        have e := b.ints
        subst e
        exact .cons a (rowsV_of t)
theorem pvar {X : Cx} (i : Nat) {x : Str} {pos : Pos} (hN : X.N[i]? = some x := by rfl) (hv : Vis X.env.scope x := by first | exact Or.inl rfl | exact Or.inr (Or.inl rfl) | exact Or.inr (Or.inr rfl)) (hd : (x == ("__debug__" : Str)) = false := by decide)
    (hcd : (x == ("__classdict__" : Str)) = false := by decide) : PE X (.Name x pos) (tVar i) := pe_var hN hv hd hcd
theorem de_lset {C : Cf} {B : Hp} {X : Cx} {r d t : Str} {p q p1 p2 p3 p4 p5 pos : Pos} (it0 ir id : Nat) {scope : Scope} (own : List (Str × Nat)) (hm : X.mg "len" = none) (hc : X.calm = true) (hN : X.N.Nodup) (ok : BlkOk X.N X.env.scope scope own)
    (ht : PE X (.Name t p3) (tVar it0)) (h1 : ∀ (s : Shared) (H : Hp) (L : Addr) (cl : List (Str × Addr)) (fp : List Addr), PG (X.blk s H scope (compEnvC scope cl L X.env) fp) (.Name r p2) (gName ir) ∧ PE (X.blk s H scope (compEnvC scope cl L X.env) fp) (.Name r p5) (tVar ir) ∧ PG (X.blk s H scope (compEnvC scope cl L X.env) fp) (.Name d p4) (gName id) ∧ PE (X.blk s H scope (compEnvC scope cl L X.env) fp) (.Name d p1) (tVar id))
    (hr : ir ∈ own.map (·.2) := by decide) (hd : id ∈ own.map (·.2) := by decide) (lr : ir < X.N.length := by decide) (ld : id < X.N.length := by decide) (ne : ir ≠ id := by decide) (hg : Gl X "len" := by rfl)
    (hs : ∀ x, foldedSetIterable (.Name t p3) X.env x = pure x := by intro _; rfl) (hs1 : ∀ env x, foldedSetIterable (.Name r p5) env x = pure x := by intro _ _; rfl)
    (na : starEach [SC2 (.Name d p1) (.Name r p2) (.Name t p3) (.Name d p4) (.Name r p5) scope pos] X.env = (false, eval (SC2 (.Name d p1) (.Name r p2) (.Name t p3) (.Name d p4) (.Name r p5) scope pos) X.env) :: starEach [] X.env := by rfl) :
    DE C B X (.Call (.Name "len" p) [SC2 (.Name d p1) (.Name r p2) (.Name t p3) (.Name d p4) (.Name r p5) scope pos] [] q) (wLenSet it0) := by
  refine ⟨⟨fun pins s σ H Q I ⟨E, S, Qd, st, h, c⟩ => ?_⟩⟩
  obtain ⟨rows, e, hz, h⟩ := h
  obtain ⟨v, hv, rv⟩ := st.env it0 _ e
  cases rv with
  | @tup a xs _ hA rr zz =>
    refine Call_ (ld_blt I hg hm boot_len ?_)
    refine PyProof.Rows.callWith_builtin1 (PyProof.Rows.args_cons (thn (set2_core hc hN I ok ht h1 hr hd lr ld ne hv hA (rowsV_of rr) (by unfold scanBound; omega) hs hs1) fun u s1 hh => PyProof.Rows.args_nil ?_) na) na rfl
    obtain ⟨Z, ds, rfl, nZ, nd, dm, I1⟩ := hh
    have R := setO_get I1 upd_same
    obtain ⟨o, es, ep, tb, ho, hex, hdt, _, _, _, hb, hf, hn, _, _⟩ := R
    refine call_len_set ho hex hdt hf (by unfold scanBound at hb; omega) ?_
    refine ⟨.int ds.length, _, I1.tok _, ⟨_, by rw [hn]⟩, c _ _ _ _ (Ext.new nZ) (.int _) (st.sr.new nZ trivial) (h ds nd dm)⟩
/-! ### enumerate of a list -/
def enumD : Nat → List D → List D
  | _, [] => []
  | n, d :: ds => .tup [.int n, d] :: enumD (n + 1) ds
theorem enumD_length : ∀ (n : Nat) (ds : List D), (enumD n ds).length = ds.length
  | _, [] => rfl
  | n, d :: ds => congrArg Nat.succ (enumD_length (n + 1) ds)
theorem enumD_get : ∀ {n : Nat} {ds : List D} {i : Nat} {d : D}, (enumD n ds)[i]? = some d → ∃ x, ds[i]? = some x ∧ d = .tup [.int ((n + i : Nat) : Int), x]
  | n, [], i, d, h => by simp [enumD] at h
  | n, x :: xs, 0, d, h => by simp [enumD] at h; exact ⟨x, rfl, h.symm⟩
  | n, x :: xs, i + 1, d, h => by
    have h' : (enumD (n + 1) xs)[i]? = some d := by simpa [enumD] using h
    obtain ⟨y, h1, h2⟩ := enumD_get h'
    exact ⟨y, by simpa using h1, by rw [h2]; congr 3; omega⟩
def wEnum (wa : WA) : WI := fun E S R => wa E S fun ds S1 => match ds with
  | [.lst xs] => xs.length ≤ sizeLine → R (enumD 0 xs) none S1
  | _ => False
theorem feeds_enum {K : PySem.W.Frag} {C : Cf} {H0 : Hp} {a : Addr} {ob : Obj} {xs : List V} {ds : List D} (h : H0 a = some (.frz ob (.lst xs))) (r : DRs K C H0 ds xs) : Feeds K C (Ite K a) (enumD 0 ds) none H0 := fun S H ex sr _ => by
  have hl : SqL K H a xs := .inl (.inr ⟨ob, ex.frz _ _ _ h⟩)
  have r1 := r.ext ex
  refine ⟨⟨xs, hl, by rw [enumD_length, r.length]; exact Nat.le_refl _⟩, fun i d hd => ?_⟩
  obtain ⟨y, hy, rfl⟩ := enumD_get hd
  obtain ⟨v, hv, rv⟩ := r1.get hy
  refine ⟨⟨xs, v, hl, hv⟩, fun x H' hh => ?_⟩
  obtain ⟨T, z, rfl, hT, rfl, e⟩ := hh
  have e1 := e xs hl
  rw [hv] at e1
  obtain rfl := Option.some.inj e1
  have e2 : Ext C H (upd H T (.tup [.int (i : Nat), v])) := Ext.new hT
  exact ⟨e2, .tup (.inl (.inl upd_same)) (.cons (by rw [Nat.zero_add]; exact .int _) (.cons (rv.ext e2) .nil)) (by show 2 ≤ sizeLine; decide), sr.new hT trivial⟩
def enD (R : List D → Option Addr → Sto → Prop) (S : Sto) : List D → Prop
  | [.lst xs] => xs.length ≤ sizeLine → R (enumD 0 xs) none S
  | _ => False
theorem wEnum_eq {wa : WA} : wEnum wa = fun E S R => wa E S fun ds S1 => enD R S1 ds := by
  funext E S R
  rfl
theorem enD_lst {R : List D → Option Addr → Sto → Prop} {S : Sto} {xs : List D} : enD R S [.lst xs] = (xs.length ≤ sizeLine → R (enumD 0 xs) none S) := rfl
/-! ### x = y = e -/
def wAsg2 (i j : Nat) (we : RL.WE) : WS := fun Z E S => we E S fun d S1 => Z.nx ((E.set i (some d)).set j (some d)) S1
theorem ds_asg2 {C : Cf} {B : Hp} {X : Cx} (i j : Nat) {x y : Str} {e : Expr} {we : RL.WE} {p1 p2 pos : Pos} (hN : X.N.Nodup) (he : DE C B X e we) (g1 : DGn C X (.Name x p1) i) (g2 : DGn C X (.Name y p2) j)
    (ha : (assignEach [.Name x p1, .Name y p2] X.env).map (·.2) = [assign (.Name x p1) X.env, assign (.Name y p2) X.env] := by rfl) (hw : swappedStores [.Name x p1, .Name y p2] e X.env = pure none := by rfl) : DS C B X (.Assign [.Name x p1, .Name y p2] e pos) (wAsg2 i j we) :=
  ⟨PSimp (ps_asg2 he.pe g1.pg g2.pg ha hw) fun D σ H ⟨E, S, Dd, st, h, c⟩ => ⟨E, S, _, st, h, fun d S1 v H1 e1 r1 s1 h1 => c.nx _ _ _ _ e1 (((st.ext e1 s1).set r1 i).set r1 j) h1⟩⟩
end RL
/-! ==, != of clocks, isinstance of their class, a clock among other things -/
namespace RL
open PySem PySem.Spec PyProof.Rows
open L2 hiding WE
open C8
/-! ### isinstance(x, Clock) -/
structure KIs (K : PySem.W.Frag) (mg : Str → Option Value) (C : Cf) : Prop where
  at_ : mg "Clock" = some (.ref C.clk)
  ins : InsC K C.clk
  no : ∀ n ∈ ["NoneType", "bool", "int", "str", "tuple", "list"], PySem.W.kitOne K (.type n) (.ref C.clk) = some false
theorem KIs.ins_no {K : PySem.W.Frag} {mg : Str → Option Value} {C : Cf} (k : KIs K mg C) {d : D} (h : isData d = true) : PySem.W.kitOne K (.type (tyN d)) (.ref C.clk) = some false := by
  refine k.no _ ?_
  cases d <;> first | (cases h; done) | simp [tyN]
def dIsK (C : Cf) : RCD := fun ds S Q => match ds with
  | [d, .ref a] => a = C.clk ∧ (match d with
    | .clk _ _ => Q (.bl true) S
    | d => isData d = true ∧ Q (.bl false) S)
  | _ => False
theorem cd_isK {C : Cf} {X : Cx} (k : KIs X.K X.mg C) : CallR X (.builtin "isinstance") (liftC X.K C (dIsK C)) := by
  rintro pins s σ H vs us Q I rv ⟨ds, S, Qd, rs, sr, h, c⟩
  rcases ds with _ | ⟨d, _ | ⟨d2, _ | ⟨d3, ds⟩⟩⟩
  · exact False.elim h
  · exact False.elim h
  · obtain ⟨v, v2, rfl, r, r2⟩ := two_of rfl rs
    cases d2 <;> first | exact False.elim h | skip
    obtain ⟨rfl, h⟩ := h
    cases r2
    have other : isData d = true → Qd (.bl false) S → wpAny (model X.prog X.w) X.A (call (.builtin "isinstance") us) (EP X pins σ Q) X.xe s := fun hd q => by
      refine call_isi pins s σ H _ us Q I rv ⟨v, _, _, _, false, rfl, .own C.clk, tyX_of hd r, k.ins_no hd, c.now (.bl _) sr q⟩
    cases d with
    | clk hh cc =>
      cases r with
      | clk e0 d1 d2 _ => exact call_isC k.ins pins s σ H _ us Q I rv ⟨_, _, _, rfl, e0, c.now (.bl _) sr h⟩
    | _ => exact other h.1 h.2
  · cases d2 <;> exact False.elim h
/-! ### the comparisons of an instance with its own == -/
section
variable {P : Program} {w : World} {A : Around} {E : Value → Shared → Prop} {s : Shared} {K : PySem.W.Frag} {x L f ck : Addr} {h₀ : Heap} {m : Str → Option Value} {ox : Obj} {od : Option Obj} {b tb : Value}
/-- a special method that is a built-in's -/
theorem bound_bi {name : Str} {id : String} {args : List Value} {Q : Option Value → Shared → Prop} (X : K.In s.heap) (I : PySem.W.InstAt s.heap x ox ck od) (hs : PySem.W.findIn K (.ref ck) name = some (some (.builtin id))) (hb : ∀ self, bindSpecial (.builtin id) self = pure (.builtin id, [self]))
    (h : wpAny (model P w) A (call (.builtin id) (.ref x :: args)) (fun v => Q (some v)) E s) : wpAny (model P w) A (callSpecialIfBound? (.ref x) name args) Q E s := by
  simp only [callSpecialIfBound?, bindSpecialIfBound?]
  apply wpAny_holding
  apply wpAny_bind
  apply wpAny_bind
  refine wpAny_bind (I.type.here ((PySem.W.looks_findIn X hs).here ?_))
  apply wpAny_bind
  apply wpAny_askSetting
  apply wpAny_ite
  have go : wpAny (model P w) A (call (.builtin id) ([.ref x] ++ args) >>= fun v => pure (some v)) Q E s := wpAny_bind (wpAny_mono h (fun v s' q => wpAny_pure q) fun _ _ z => z)
  split
  · exact wpAny_bind (wpAny_of_eq (hb _) (wpAny_pure go))
  · exact wpAny_tryCatch (wpAny_bind (wpAny_of_eq (hb _) (wpAny_pure go)))
/-- x != b, where == answers a truth value -/
theorem ne_own {Q : Value → Shared → Prop} (hu : A.units + 1 < cLine) (F : Fr h₀ L s.heap m) (X₀ : K.In h₀) (I : PySem.W.InstAt s.heap x ox ck od) (hb : PySem.W.Looks (model P w) s.heap (typeOf b) tb) (hn : PySem.W.notFirst K ck tb = true)
    (hne : PySem.W.findIn K (.ref ck) "__ne__" = some (some (.builtin "object.__ne__"))) (hm : PySem.W.mroIn K ck (.type "object") = some true) (hs : PySem.W.findIn K (.ref ck) "__eq__" = some (some (.ref f))) (hf : PySem.W.isFn K (.ref f) = true)
    (h : wpAny (model P w) A.in1 (call (.ref f) [.ref x, b]) (fun v s' => ∃ k, v = .bool k ∧ Q (.bool (!k)) s') E s) : wpAny (model P w) A (richCompare .NotEq (.ref x) b) Q E s := by
  have X := X₀.keeps F.keep
  have one : wpAny (model P w) A (tryCompare (.ref x) "__ne__" b) (fun r s' => ∃ k, r = some (.bool k) ∧ Q (.bool k) s') E s := by
    unfold tryCompare
    refine wpAny_bind (bound_bi X I hne PySem.F.slot_object_ne.bind ?_)
    refine wpAny_call (codeAny_call_builtin PySem.F.slot_object_ne.plain PySem.F.entry_object_ne (PySem.W.check_slot (i := "object.__ne__") (owner := "object") (n := "__ne__") (by decide +kernel) (by decide +kernel) (I.type.andThen (PySem.W.looks_mroIn X hm)) (PySem.F.args_object_ne_2 _ _) ?_))
    unfold Builtin.«object.__ne__»
    refine wpAny_bind (m := slotArgs "__ne__" 1 _) (wpAny_pure ?_)
    refine wpAny_bind (m := cRoomFor _ _) (wpAny_cRoomFor (by show A.in1.units < cLine; exact hu) ?_)
    refine wpAny_bind (m := callSpecialIfBound? (.ref x) (Str.ofString "__eq__") _) (PySem.W.ifBound_K X I hs hf (wpAny_mono h (fun r s' hr => ?_) fun _ _ z => z))
    obtain ⟨k, rfl, q⟩ := hr
    refine wpAny_bind (m := truthy (.bool k)) (wpAny_truthy_bool ?_)
    first
      | exact wpAny_pure ⟨_, rfl, wpAny_pure ⟨_, rfl, q⟩⟩
      | exact wpAny_pure (wpAny_pure ⟨_, rfl, q⟩)
      | exact wpAny_pure ⟨_, rfl, q⟩
  unfold richCompare
  simp only [oneThing_ref]
  apply wpAny_holding
  refine wpAny_bind (wpAny_cRoomFor (by omega) ?_)
  refine wpAny_bind (I.type.here (wpAny_bind (hb.here ?_)))
  split
  · rename_i q
    have e : PySem.W.subIn K tb (.ref ck) = some false := by
      rcases Bool.or_eq_true_iff.mp hn with e | e
      · rw [beq_iff_eq.mp e] at q
        simp at q
      · exact beq_iff_eq.mp e
    refine wpAny_bind ((PySem.W.looks_subIn X e).here ?_)
    simp only [Bool.false_eq_true, if_false]
    refine wpAny_bind (wpAny_mono one (fun r s' z => ?_) fun _ _ z => z)
    obtain ⟨k, rfl, q⟩ := z
    exact wpAny_pure q
  · refine wpAny_bind (wpAny_pure ?_)
    simp only [Bool.false_eq_true, if_false]
    refine wpAny_bind (wpAny_mono one (fun r s' z => ?_) fun _ _ z => z)
    obtain ⟨k, rfl, q⟩ := z
    exact wpAny_pure q
end
/-! ### a built-in's == declines an instance -/
end RL
/-! ==, != and in, of clocks, by content -/
namespace RL
open PySem PySem.Spec PyProof.Rows
open L2 hiding WE
structure CkEq (K : PySem.W.Frag) (C : Cf) : Prop where
  ne : PySem.W.findIn K (.ref C.clk) "__ne__" = some (some (.builtin "object.__ne__"))
  hm : PySem.W.mroIn K C.clk (.type "object") = some true
  sub : ∀ T ∈ ["NoneType", "int", "str", "tuple"], PySem.W.subIn K (.ref C.clk) (.type T) = some false
section
variable {C : Cf} {X : Cx} {pins : List (Addr × Obj)} {σ : L2.St} {H : Hp} {s : Shared} {k : Nat} {ps : List Str} {sp : DSp}
theorem ins_at {a ck dx : Addr} {fs : List (Str × V)} (I : Inv X pins σ H s) (e : H a = some (.ins ck dx fs)) : s.heap.get? a = some (PySem.W.instObj ck dx) ∧ ∃ od, PySem.W.InstAt s.heap a (PySem.W.instObj ck dx) ck (some od) := by
  obtain ⟨mA, O, r, wi, _, ho⟩ := ins_get I.hok e
  obtain ⟨od, J, _⟩ := O.look
  exact ⟨O.obj, od, J⟩
/-- the call of ==, at the depth where a comparison makes it -/
theorem eq_call {A : Around} {E : Value → Shared → Prop} {f : Addr} {fd : FuncData} {S : Sto} {dx dy : D} {vx vy : V} {ux uy : Value} {Qd : Bool → Sto → Prop} (F : DOk X.prog X.w X.K X.mg X.base C k f fd ps sp) (hb : Binds X.K fd ps []) (hr : Room k A) (I : Inv X pins σ H s) (e0 : Env0 X.prog X.w X.K X.mg X.base A X.stack s H)
    (r1 : DR X.K C H dx vx) (r2 : DR X.K C H dy vy) (u1 : RelV vx ux) (u2 : RelV vy uy) (sr : SR X.K C S H) (h : sp [dx, dy] S (fun v S' => ∃ b, v = .bl b ∧ Qd b S') fun _ _ => False) :
    wpAny (model X.prog X.w) A (call (.ref f) [ux, uy]) (fun v s' => ∃ b S' H', v = .bool b ∧ Ext C H H' ∧ SR X.K C S' H' ∧ Inv X pins σ H' s' ∧ Qd b S') E s := by
  have hq : liftSp X.K C sp [vx, vy] H (fun v H' => ∃ b S', v = .bl b ∧ Ext C H H' ∧ SR X.K C S' H' ∧ Qd b S') fun _ _ _ => False :=
    ⟨[dx, dy], S, _, _, .cons r1 (.cons r2 .nil), sr, h, fun d S' v H' e' r' s' ⟨b, ed, q⟩ => by
      subst ed
      cases r'
      exact ⟨b, S', rfl, e', s', q⟩, fun _ _ _ _ _ _ _ z => z⟩
  have hl : [ux, uy].length = ps.length := by
    rw [← F.len _ _ _ _ hq]
    rfl
  have bind := hb s [ux, uy] I.kIn (by rw [List.append_nil]; exact hl)
  rw [List.append_nil] at bind
  refine wpAny_call (codeAny_mono (F.run A X.stack s H ⟨[ux, uy], []⟩ [ux, uy] [vx, vy] _ _ hr e0 bind (.cons u1 (.cons u2 .nil)) hq) fun r s' hq' => ?_)
  cases r with
  | error e => exact (cx_end hq').elim
  | ok fl =>
    cases fl with
    | ret u =>
      obtain ⟨v, H', I', rv, b, S', rfl, e', sr', q⟩ := I.after hq'
      exact ⟨b, S', H', rv, e', sr', I', q⟩
    | next => exact hq'.elim
    | brk => exact hq'.elim
    | cont => exact hq'.elim
def dEqK (sp : DSp) : R2D := fun x y S Q => isClk x = true ∧ isClk y = true ∧ sp [x, y] S (fun v S' => ∃ b, v = .bl b ∧ Q (.bl b) S') fun _ _ => False
def dNeK (sp : DSp) : R2D := fun x y S Q => isClk x = true ∧ isClk y = true ∧ sp [x, y] S (fun v S' => ∃ b, v = .bl b ∧ Q (.bl (!b)) S') fun _ _ => False
theorem od_neK (d : DfM X.prog X.w X.K X.mg X.base C "__eq__" k ps sp) (ke : CkEq X.K C) (hr : Room (k + 1) X.A) : OpR X (compareOp .NotEq) (lift2 X.K C (dNeK sp)) := by
  rintro pins s σ H x y v u Q I rx ry ⟨dx, dy, S, Qd, r1, r2, sr, ⟨c1, c2, h⟩, c⟩
  obtain ⟨f, fd, F, hm, hb⟩ := d.ex
  cases dx <;> first | (cases c1; done) | skip
  cases dy <;> first | (cases c2; done) | skip
  have r1' := r1
  have r2' := r2
  cases r1 with
  | clk e1 _ _ _ =>
    cases r2 with
    | clk e2 _ _ _ =>
      have rx' := rx
      have ry' := ry
      cases rx
      cases ry
      obtain ⟨_, od, J⟩ := ins_at I e1
      obtain ⟨_, od', J'⟩ := ins_at I e2
      obtain ⟨m, hF⟩ := I.fr
      change wpAny _ _ (richCompare .NotEq _ _) _ _ _
      refine ne_own (tb := .ref C.clk) (by have := hr.un; omega) hF I.ok.mod.kin J J'.type (by unfold PySem.W.notFirst; simp) ke.ne ke.hm hm.at_ hm.fn ?_
      refine wpAny_mono (eq_call (Qd := fun b S' => Qd (.bl (!b)) S') F hb hr.in1 I I.env0.in1 r1' r2' rx' ry' sr h) (fun w s' z => ?_) fun _ _ z => z
      obtain ⟨b, S', H', rfl, e', sr', I', q⟩ := z
      exact ⟨b, rfl, .bl (!b), H', I', rfl, c _ _ _ _ e' (.bl _) sr' q⟩
/-- a clock among things that are none -/
def plainD : D → Bool
  | .non => true
  | .int _ => true
  | .str _ => true
  | .tup _ => true
  | _ => false
def dInK (sp : DSp) : R2D := fun x y S Q => isClk x = true ∧ (match y with
  | .lst ds => ds.all plainD = true ∧ (∀ d ∈ ds, sp [x, d] S (fun v S' => ∃ b, v = .bl b ∧ b = false ∧ S' = S) fun _ _ => False) ∧ Q (.bl false) S
  | _ => False)
end
theorem dEqK_clk {sp : DSp} {h c h2 c2 : List D} {S : Sto} {Q : KD} : dEqK sp (.clk h c) (.clk h2 c2) S Q = sp [.clk h c, .clk h2 c2] S (fun v S' => ∃ b, v = .bl b ∧ Q (.bl b) S') fun _ _ => False := by simp [dEqK, isClk]
theorem dNeK_clk {sp : DSp} {h c h2 c2 : List D} {S : Sto} {Q : KD} : dNeK sp (.clk h c) (.clk h2 c2) S Q = sp [.clk h c, .clk h2 c2] S (fun v S' => ∃ b, v = .bl b ∧ Q (.bl (!b)) S') fun _ _ => False := by simp [dNeK, isClk]
theorem dInK_lst {sp : DSp} {h c ds : List D} {S : Sto} {Q : KD} : dInK sp (.clk h c) (.lst ds) S Q = (ds.all plainD = true ∧ (∀ d ∈ ds, sp [.clk h c, d] S (fun v S' => ∃ b, v = .bl b ∧ b = false ∧ S' = S) fun _ _ => False) ∧ Q (.bl false) S) := by simp [dInK, isClk]
theorem dIsK_clk {C : Cf} {h c : List D} {a : Addr} {S : Sto} {Q : KD} : dIsK C [.clk h c, .ref a] S Q = (a = C.clk ∧ Q (.bl true) S) := rfl
/-! ### what the head tells of the class -/
theorem kit_self {K : PySem.W.Frag} {C : Addr} : PySem.W.kitOne K (.ref C) (.ref C) = some true := by
  unfold PySem.W.kitOne
  rw [if_pos (by simp)]
theorem mro_no {T : String} {C : Addr} (h : (fastFind? T).isSome = true) : (fastBuiltinMro T).map (·.contains (Value.ref C)) = some false := by
  obtain ⟨r, hr⟩ := Option.isSome_iff_exists.mp h
  unfold fastBuiltinMro
  rw [hr]
  show some ((r.mro.map Value.type).contains (Value.ref C)) = _
  congr 1
  rw [Bool.eq_false_iff]
  intro z
  have z := List.contains_iff_mem.mp z
  obtain ⟨x, _, hx⟩ := List.mem_map.mp z
  cases hx
theorem kit_no {K : PySem.W.Frag} {C : Addr} (h1 : PySem.W.isClsIn K C = true) (h2 : PySem.W.typeIn K (.ref C) = some (.type "type")) : ∀ n ∈ ["NoneType", "bool", "int", "str", "tuple", "list"], PySem.W.kitOne K (.type n) (.ref C) = some false := by
  have h1 : (PySem.W.clsIn K C).isSome = true := h1
  have key : ∀ n, (fastFind? n).isSome = true → PySem.W.kitOne K (.type n) (.ref C) = some false := fun n a => by
    unfold PySem.W.kitOne PySem.W.kitCls
    rw [if_neg (by simp)]
    show (if _ then _ else _) = _
    rw [if_pos (by rw [h1, h2]; rfl)]
    exact mro_no a
  intro n hn
  simp only [List.mem_cons, List.not_mem_nil, or_false] at hn
  rcases hn with rfl | rfl | rfl | rfl | rfl | rfl
  all_goals exact key _ (by decide +kernel)
end RL
namespace RL
open PySem PySem.Spec PyProof.Rows
open L2 hiding WE
/-! ### xs.append(e), xs.clear() on a list that may change -/
section
variable {C : Cf} {B : Hp} {X : Cx} {e o : Expr} {we wo : RL.WE} {apos cpos : Pos}
/-- the outcome of x.append(y) -/
def apD (x y : D) (S : Sto) (Q : KD) : Prop := match x with
  | .ref p => ∃ ds, S p = some (.lst ds) ∧ ds.length < sizeLine ∧ Q .non (S.put p (.lst (ds ++ [y])))
  | _ => False
theorem apD_ref {p : Addr} {y : D} {S : Sto} {Q : KD} : apD (.ref p) y S Q = ∃ ds, S p = some (.lst ds) ∧ ds.length < sizeLine ∧ Q .non (S.put p (.lst (ds ++ [y]))) := rfl
def clD (x : D) (S : Sto) (Q : KD) : Prop := match x with
  | .ref p => ∃ ds, S p = some (.lst ds) ∧ Q .non (S.put p (.lst []))
  | _ => False
theorem clD_ref {p : Addr} {S : Sto} {Q : KD} : clD (.ref p) S Q = ∃ ds, S p = some (.lst ds) ∧ Q .non (S.put p (.lst [])) := rfl
/-- x is known to be a list that may change ahead of the arguments, too -/
def wApp (wo we : RL.WE) : RL.WE := fun E S Q => wo E S fun x S1 => (∃ p ds, x = .ref p ∧ S1 p = some (.lst ds)) ∧ we E S1 fun y S2 => apD x y S2 Q
def wClr (wo : RL.WE) : RL.WE := fun E S Q => wo E S fun x S1 => clD x S1 Q
theorem de_append (ho : DE C B X o wo) (he : DE C B X e we)
    (hbase : attributeBase o "append" X.env (eval o X.env) = eval o X.env := by rfl)
    (hfew : ((backTo cpos (starEach [e] X.env)).all (fun x => !x.1) && (backToKw cpos (keywordEach [] X.env)).all (fun x => x.1.isSome)
      && decide (([e] : List Expr).length + ([] : List Keyword).length + (if ([] : List Keyword).isEmpty then 0 else 1) < 30)) = true := by rfl)
    (hline : (apos.endLine == cpos.line) = true := by rfl) (hs : starEach [e] X.env = (false, eval e X.env) :: starEach [] X.env := by rfl) (hplain : (backTo cpos (starEach [] X.env)).any (·.1) = false := by rfl) :
    DE C B X (.Call (.Attribute o "append" apos) [e] [] cpos) (wApp wo we) := by
  have h := pe_bm F.plainAttrs_list F.slot_list_append (by kernel_rfl) mt_append ho.pe (pa_cons he.pe pa_nil (hs := hs)) hbase hfew hline hs hplain
  refine ⟨PEimp h fun σ H Q ⟨E, S, Qd, st, h, c⟩ => ⟨E, S, _, st, h, fun x S1 v H1 e1 r1 s1 ⟨⟨p, ds, ex, hp⟩, h1⟩ => ?_⟩⟩
  subst ex
  cases r1
  obtain ⟨xs, q1, _, _⟩ := s1.ob p ds hp
  refine ⟨.inl ⟨rfl, xs, .inl (.inl q1)⟩, E, S1, _, st.ext e1 s1, h1, fun y S2 u H2 e2 r2 s2 h2 => ?_⟩
  obtain ⟨ds2, hp2, hz, h2⟩ := h2
  obtain ⟨xs2, q2, q3, q4⟩ := s2.ob p ds2 hp2
  have ex : Ext C H2 (upd H2 p (.lst (xs2 ++ [u]))) := Ext.wr q2
  refine ⟨p, xs2, u, rfl, rfl, q2, by rw [← q3.length]; exact hz, ?_⟩
  exact c _ _ _ _ ((e1.trans e2).trans ex) .non (s2.wr hp2 (q3.app (.cons r2 .nil)) (by rw [List.length_append, ← q3.length]; simp only [List.length_cons, List.length_nil]; omega)) h2
end
/-! ### dicts with numbers for keys -/
def valD (kvs : List (Int × D)) (k : Int) : Option D := (kvs.find? fun kv => decide (kv.1 = k)).map (·.2)
section
variable {C : Cf} {B : Hp} {X : Cx} {a b i o : Expr} {wa wb wo wi : RL.WE} {pos p' : Pos}
/-- {} -/
def wDic : RL.WE := fun E S Q => ∀ p, S p = none → Q (.ref p) (S.put p (.dic []))
/-- k in d -/
def dInD : R2D := fun x y S Q => match x, y with
  | .int k, .ref p => ∃ kvs, S p = some (.dic kvs) ∧ Q (.bl (valD kvs k).isSome) S
  | _, _ => False
theorem dInD_eq {k : Int} {p : Addr} {S : Sto} {Q : KD} : dInD (.int k) (.ref p) S Q = ∃ kvs, S p = some (.dic kvs) ∧ Q (.bl (valD kvs k).isSome) S := rfl
/-- d[k] -/
def dIxD : R2D := fun x y S Q => match x, y with
  | .ref p, .int k => ∃ kvs d, S p = some (.dic kvs) ∧ valD kvs k = some d ∧ Q d S
  | _, _ => False
theorem dIxD_eq {k : Int} {p : Addr} {S : Sto} {Q : KD} : dIxD (.ref p) (.int k) S Q = ∃ kvs d, S p = some (.dic kvs) ∧ valD kvs k = some d ∧ Q d S := rfl
/-- d[k] = e, a new key -/
def gSubDic (wo wi : RL.WE) : WG := fun d E S Q => wo E S fun o S1 => wi E S1 fun ix S2 => match o, ix with
  | .ref p, .int k => ∃ kvs, S2 p = some (.dic kvs) ∧ valD kvs k = none ∧ kvs.length < sizeLine ∧ Q E (S2.put p (.dic (kvs ++ [(k, d)])))
  | _, _ => False
def sbDic (d : D) (o ix : D) (E : EV) (S2 : Sto) (Q : EV → Sto → Prop) : Prop := match o, ix with
  | .ref p, .int k => ∃ kvs, S2 p = some (.dic kvs) ∧ valD kvs k = none ∧ kvs.length < sizeLine ∧ Q E (S2.put p (.dic (kvs ++ [(k, d)])))
  | _, _ => False
theorem gSubDic_eq {d : D} {E : EV} {S : Sto} {Q : EV → Sto → Prop} : gSubDic wo wi d E S Q = wo E S fun o S1 => wi E S1 fun ix S2 => sbDic d o ix E S2 Q := rfl
theorem sbDic_ref {d : D} {E : EV} {S : Sto} {Q : EV → Sto → Prop} {p : Addr} {k : Int} : sbDic d (.ref p) (.int k) E S Q = ∃ kvs, S p = some (.dic kvs) ∧ valD kvs k = none ∧ kvs.length < sizeLine ∧ Q E (S.put p (.dic (kvs ++ [(k, d)]))) := rfl
end
/-! ### range(i, j, -1) -/
def rngDn (i : Int) (n : Nat) : List D := (List.range n).map fun k : Nat => .int (i - (k : Int))
section
variable {C : Cf} {B : Hp} {X : Cx} {tg a b c : Expr} {wa : WA} {p pos : Pos}
def rg3D (ds : List D) (S : Sto) (R : List D → Option Addr → Sto → Prop) : Prop := match ds with
  | [.int i, .int j, .int c] => (c = -1 ∧ -(2 ^ 62) ≤ i ∧ i < 2 ^ 62 ∧ -(2 ^ 62) ≤ j ∧ j < 2 ^ 62) ∧ R (rngDn i (i - j).toNat) none S
  | _ => False
def wRng3 (wa : WA) : WI := fun E S R => wa E S fun ds S1 => rg3D ds S1 R
theorem rg3D_int {i j c : Int} {S : Sto} {R : List D → Option Addr → Sto → Prop} : rg3D [.int i, .int j, .int c] S R = ((c = -1 ∧ -(2 ^ 62) ≤ i ∧ i < 2 ^ 62 ∧ -(2 ^ 62) ≤ j ∧ j < 2 ^ 62) ∧ R (rngDn i (i - j).toNat) none S) := rfl
end
end RL
/-! ### hands as plain lists: the sequence of steps, the normal form -/
namespace MH
/-- the n-th step of a hand -/
def sq {α : Type} (h c : List α) (n : Nat) : Option α := if n < h.length then h[n]? else c[(n - h.length) % c.length]?
def Per {α : Type} (s : Nat → α) (p : Nat) : Prop := ∀ n, s (n + p) = s n
section
variable {α : Type}
theorem Per.mul {s : Nat → α} {p : Nat} (h : Per s p) : ∀ k, Per s (p * k)
  | 0 => fun n => rfl
  | k + 1 => fun n => by
    rw [Nat.mul_succ, ← Nat.add_assoc, h, Per.mul h k]
theorem Per.mod {s : Nat → α} {p q : Nat} (hp : Per s p) (hq : Per s q) : Per s (q % p) := fun n => by
  have e := hp.mul (q / p) (n + q % p)
  rw [← e, Nat.add_assoc, Nat.mod_add_div]
  exact hq n
/-! the shortest cycle -/
/-! one turn of the cycle into the head -/
/-! the law's own search -/
/-- the step, where there is one -/
def stp (z : α) (h c : List α) (n : Nat) : α := (sq h c n).getD z
/-! a hand in another form -/
end
end MH
/-! sorted(..) of hands: pairs of tuples of pairs of numbers. -/
namespace RL
open PySem PySem.Spec PyProof.Rows
open L2 hiding WE
open SeqAt Ob
/-! ### orders -/
structure Lin {α : Type} (lt : α → α → Bool) : Prop where
  asym : ∀ x y, lt x y = true → lt y x = false
  tr : ∀ x y z, lt y x = false → lt z y = false → lt z x = false
  tri : ∀ x y, lt x y = false → lt y x = false → x = y
def ltI (x y : Int) : Bool := decide (x < y)
section
variable {α : Type} [DecidableEq α]
def lexG (lt : α → α → Bool) : List α → List α → Bool
  | [], [] => false
  | [], _ :: _ => true
  | _ :: _, [] => false
  | x :: xs, y :: ys => if x = y then lexG lt xs ys else lt x y
theorem lexG_cons {lt : α → α → Bool} {x y : α} {xs ys : List α} : lexG lt (x :: xs) (y :: ys) = if x = y then lexG lt xs ys else lt x y := rfl
end
theorem Lin.map {α β : Type} {lt : α → α → Bool} (L : Lin lt) (g : β → α) (inj : ∀ x y, g x = g y → x = y) : Lin fun x y => lt (g x) (g y) :=
  ⟨fun x y h => L.asym _ _ h, fun x y z h1 h2 => L.tr _ _ _ h1 h2, fun x y h1 h2 => inj _ _ (L.tri _ _ h1 h2)⟩
/-! ### values that compare so -/
inductive All2 {α : Type} (R : α → Value → Prop) : List α → List Value → Prop
  | nil : All2 R [] []
  | cons {x : α} {v : Value} {xs : List α} {vs : List Value} (h : R x v) (t : All2 R xs vs) : All2 R (x :: xs) (v :: vs)
theorem All2.length {α : Type} {R : α → Value → Prop} : ∀ {xs : List α} {vs : List Value}, All2 R xs vs → xs.length = vs.length
  | _, _, .nil => rfl
  | _, _, .cons _ t => congrArg Nat.succ (All2.length t)
theorem All2.get {α : Type} {R : α → Value → Prop} : ∀ {xs : List α} {vs : List Value} {i : Nat} (h1 : i < xs.length) (h2 : i < vs.length), All2 R xs vs → R xs[i] vs[i]
  | _, _, 0, _, _, .cons h _ => h
  | _, _, i + 1, h1, h2, .cons _ t => All2.get (i := i) (by simpa using h1) (by simpa using h2) t
theorem All2.fn {α : Type} {R : α → Value → Prop} (f : ∀ x y v, R x v → R y v → x = y) : ∀ {xs ys : List α} {vs : List Value}, All2 R xs vs → All2 R ys vs → xs = ys
  | _, _, _, .nil, .nil => rfl
  | _, _, _, .cons h t, .cons h' t' => by rw [f _ _ _ h h', All2.fn f t t']
theorem All2.imp {α : Type} {R R' : α → Value → Prop} (f : ∀ x v, R x v → R' x v) : ∀ {xs : List α} {vs : List Value}, All2 R xs vs → All2 R' xs vs
  | _, _, .nil => .nil
  | _, _, .cons h t => .cons (f _ _ h) (All2.imp f t)
def KpT (h h' : Heap) : Prop := ∀ b o, h.get? b = some o → o.cls = .type "tuple" → h'.get? b = some o
structure Good {α : Type} [DecidableEq α] (R : Heap → α → Value → Prop) (lt : α → α → Bool) (n : Nat) : Prop where
  eq : ∀ (A : Around) (s : Shared) x y u v, A.units + n < cLine → R s.heap x u → R s.heap y v → EqAt A s u v (decide (x = y))
  lt : ∀ (A : Around) (s : Shared) x y u v, A.units + n < cLine → R s.heap x u → R s.heap y v → x ≠ y → Ob.RcOp .Lt A s u v (lt x y)
  fn : ∀ h x y u, R h x u → R h y u → x = y
  kp : ∀ h h' x u, KpT h h' → R h x u → R h' x u
section
variable {α : Type} [DecidableEq α]
def RTup (R : Heap → α → Value → Prop) : Heap → List α → Value → Prop := fun h xs v => ∃ (a : Addr) (its : List Value), v = .ref a ∧ h.IsTuple a its.toArray ∧ All2 (R h) xs its
theorem lexAt_of {lt : α → α → Bool} {xs ys : List α} {e r : Nat → Bool} (he : ∀ i (h1 : i < xs.length) (h2 : i < ys.length), e i = decide (xs[i] = ys[i])) (hr : ∀ i (h1 : i < xs.length) (h2 : i < ys.length), r i = lt xs[i] ys[i]) :
    ∀ (k i : Nat), i + k = min xs.length ys.length → lexAt e r (decide (xs.length < ys.length)) i k = lexG lt (xs.drop i) (ys.drop i)
  | 0, i, h => by
    rw [lexAt_zero]
    rcases Nat.lt_or_ge xs.length ys.length with z | z
    · have e1 : i = xs.length := by omega
      rw [e1, List.drop_length, decide_eq_true z, List.drop_eq_getElem_cons z]
      rfl
    · have e1 : i = ys.length := by omega
      rw [e1, List.drop_length, decide_eq_false (by omega)]
      cases xs.drop ys.length <;> rfl
  | k + 1, i, h => by
    have h1 : i < xs.length := by omega
    have h2 : i < ys.length := by omega
    rw [lexAt_succ, List.drop_eq_getElem_cons h1, List.drop_eq_getElem_cons h2, lexG_cons, he i h1 h2, hr i h1 h2, lexAt_of he hr k (i + 1) (by omega)]
    by_cases q : xs[i] = ys[i]
    · rw [decide_eq_true q, if_pos rfl, if_pos q]
    · rw [decide_eq_false q, if_neg (by decide), if_neg q]
theorem all_of {xs ys : List α} {e : Nat → Bool} (he : ∀ i (h1 : i < xs.length) (h2 : i < ys.length), e i = decide (xs[i] = ys[i])) : ((List.range (min xs.length ys.length)).all e && xs.length == ys.length) = decide (xs = ys) := by
  by_cases q : xs = ys
  · subst q
    rw [decide_eq_true rfl, Bool.and_eq_true]
    refine ⟨List.all_eq_true.mpr fun i hi => ?_, by simp⟩
    have := List.mem_range.mp hi
    have h1 : i < xs.length := by omega
    rw [he i h1 h1]
    exact decide_eq_true rfl
  · rw [decide_eq_false q]
    cases hb : ((List.range (min xs.length ys.length)).all e && xs.length == ys.length) with
    | false => rfl
    | true =>
      exfalso
      rw [Bool.and_eq_true] at hb
      have hl : xs.length = ys.length := by simpa using hb.2
      refine q (List.ext_getElem hl fun i h1 h2 => ?_)
      have := List.all_eq_true.mp hb.1 i (List.mem_range.mpr (by omega))
      rw [he i h1 h2] at this
      exact of_decide_eq_true this
theorem Good.tup {R : Heap → α → Value → Prop} {lt : α → α → Bool} {n : Nat} (G : Good R lt n) : Good (RTup R) (lexG lt) (n + 1) := by
  have fn : ∀ h x y u, RTup R h x u → RTup R h y u → x = y := fun h x y u hx hy => by
    obtain ⟨a, its, rfl, ha, r1⟩ := hx
    obtain ⟨b, its2, e, hb, r2⟩ := hy
    cases e
    obtain ⟨o, g, c, k, d⟩ := ha
    obtain ⟨o', g', c', k', d'⟩ := hb
    rw [g] at g'
    cases g'
    rw [d] at d'
    have e : its.toArray = its2.toArray := (Data.seq.inj d').1
    have e : its = its2 := by simpa using e
    subst e
    exact All2.fn (fun x y v => G.fn h x y v) r1 r2
  have items : ∀ (A : Around) (s : Shared) (xs ys : List α) (its its2 : List Value), A.units + (n + 1) < cLine → All2 (R s.heap) xs its → All2 (R s.heap) ys its2 →
      ∀ j (h1 : j < its.toArray.size) (h2 : j < its2.toArray.size), ∃ (k1 : j < xs.length) (k2 : j < ys.length), EqAt A.in1 s its.toArray[j] its2.toArray[j] (decide (xs[j] = ys[j])) ∧ (xs[j] ≠ ys[j] → Ob.RcOp .Lt A.in1 s its.toArray[j] its2.toArray[j] (lt xs[j] ys[j])) := fun A s xs ys its its2 hu r1 r2 j h1 h2 => by
    have k1 : j < xs.length := by rw [r1.length]; simpa using h1
    have k2 : j < ys.length := by rw [r2.length]; simpa using h2
    have q1 := r1.get k1 (by simpa using h1)
    have q2 := r2.get k2 (by simpa using h2)
    have hu' : A.in1.units + n < cLine := by
      show A.units + 1 + n < cLine
      omega
    exact ⟨k1, k2, by simpa using G.eq A.in1 s _ _ _ _ hu' q1 q2, fun ne => by simpa using G.lt A.in1 s _ _ _ _ hu' q1 q2 ne⟩
  refine ⟨fun A s xs ys u v hu hx hy => ?_, fun A s xs ys u v hu hx hy ne => ?_, fn, fun h h' x u k r => ?_⟩
  · have hx0 := hx
    have hy0 := hy
    obtain ⟨a, its, rfl, ha, r1⟩ := hx
    obtain ⟨b, its2, rfl, hb, r2⟩ := hy
    by_cases e : a = b
    · subst e
      rw [fn _ _ _ _ hx0 hy0, decide_eq_true rfl]
      exact EqAt.same _
    · refine EqAt.of_refs e ?_
      have q := RcAt.tuples (A := A) (e := fun j => if h : j < xs.length ∧ j < ys.length then decide (xs[j]'h.1 = ys[j]'h.2) else false) ha hb (by omega) fun j h1 h2 => by
        obtain ⟨k1, k2, q, _⟩ := items A s xs ys its its2 hu r1 r2 j h1 h2
        rw [dif_pos ⟨k1, k2⟩]
        exact q
      have z := all_of (xs := xs) (ys := ys) (e := fun j => if h : j < xs.length ∧ j < ys.length then decide (xs[j]'h.1 = ys[j]'h.2) else false) fun i h1 h2 => by rw [dif_pos ⟨h1, h2⟩]
      rw [List.size_toArray, List.size_toArray, ← r1.length, ← r2.length, z] at q
      exact q
  · obtain ⟨a, its, rfl, ha, r1⟩ := hx
    obtain ⟨b, its2, rfl, hb, r2⟩ := hy
    have q := RcOp.tuples_lt (A := A) (e := fun j => if h : j < xs.length ∧ j < ys.length then decide (xs[j]'h.1 = ys[j]'h.2) else false) (r := fun j => if h : j < xs.length ∧ j < ys.length then lt (xs[j]'h.1) (ys[j]'h.2) else false) ha hb (by omega) (fun j h1 h2 => by
        obtain ⟨k1, k2, q, _⟩ := items A s xs ys its its2 hu r1 r2 j h1 h2
        rw [dif_pos ⟨k1, k2⟩]
        exact q) fun j h1 h2 z => by
        obtain ⟨k1, k2, _, q⟩ := items A s xs ys its its2 hu r1 r2 j h1 h2
        rw [dif_pos ⟨k1, k2⟩] at z ⊢
        exact q (of_decide_eq_false z)
    have z := lexAt_of (lt := lt) (xs := xs) (ys := ys) (e := fun j => if h : j < xs.length ∧ j < ys.length then decide (xs[j]'h.1 = ys[j]'h.2) else false) (r := fun j => if h : j < xs.length ∧ j < ys.length then lt (xs[j]'h.1) (ys[j]'h.2) else false) (fun i h1 h2 => by rw [dif_pos ⟨h1, h2⟩]) (fun i h1 h2 => by rw [dif_pos ⟨h1, h2⟩]) (min xs.length ys.length) 0 (Nat.zero_add _)
    rw [List.size_toArray, List.size_toArray, ← r1.length, ← r2.length, z, List.drop_zero, List.drop_zero] at q
    exact q
  · obtain ⟨a, its, rfl, ⟨o, g, c, m, d⟩, r1⟩ := r
    exact ⟨a, its, rfl, ⟨o, k _ _ g c, c, m, d⟩, r1.imp fun x v => G.kp h h' x v k⟩
theorem Good.map {β : Type} [DecidableEq β] {R : Heap → α → Value → Prop} {lt : α → α → Bool} {n : Nat} (G : Good R lt n) (g : β → α) (inj : ∀ x y, g x = g y → x = y) : Good (fun h b v => R h (g b) v) (fun x y => lt (g x) (g y)) n := by
  refine ⟨fun A s x y u v hu hx hy => ?_, fun A s x y u v hu hx hy ne => G.lt A s _ _ u v hu hx hy fun z => ne (inj _ _ z), fun h x y u hx hy => inj _ _ (G.fn h _ _ u hx hy), fun h h' x u k r => G.kp h h' _ u k r⟩
  have q := G.eq A s _ _ u v hu hx hy
  have e : decide (g x = g y) = decide (x = y) := decide_eq_decide.mpr ⟨inj _ _, fun z => by rw [z]⟩
  rw [e] at q
  exact q
end
/-! ### hands -/
abbrev Pr := Int × Int
abbrev Hnd := List Pr × List Pr
def prL (p : Pr) : List Int := [p.1, p.2]
def hdL (h : Hnd) : List (List Pr) := [h.1, h.2]
def ltPr (x y : Pr) : Bool := lexG ltI (prL x) (prL y)
def ltH (x y : Hnd) : Bool := lexG (lexG ltPr) (hdL x) (hdL y)
/-! ### as rules -/
def prD (p : Pr) : D := .tup [.int p.1, .int p.2]
def hdD (h : Hnd) : D := .tup [.tup (h.1.map prD), .tup (h.2.map prD)]
section
variable {X : Cx} {C : Cf} {pins : List (Addr × Obj)} {σ : L2.St} {H : Hp} {s : Shared}
def dSorted : RCD := fun ds S Q => match ds with
  | [.ref p] => ∃ hs : List Hnd, S p = some (.lst (hs.map hdD)) ∧ ∀ hs' : List Hnd, hs'.Perm hs → hs'.Pairwise (fun x y => ltH y x = false) → Q (.lst (hs'.map hdD)) S
  | [.lst ds] => ∃ hs : List Hnd, ds = hs.map hdD ∧ ∀ hs' : List Hnd, hs'.Perm hs → hs'.Pairwise (fun x y => ltH y x = false) → Q (.lst (hs'.map hdD)) S
  | _ => False
theorem dSorted_ref {p : Addr} {S : Sto} {Q : KD} : dSorted [.ref p] S Q = ∃ hs : List Hnd, S p = some (.lst (hs.map hdD)) ∧ ∀ hs' : List Hnd, hs'.Perm hs → hs'.Pairwise (fun x y => ltH y x = false) → Q (.lst (hs'.map hdD)) S := rfl
theorem dSorted_lst {ds : List D} {S : Sto} {Q : KD} : dSorted [.lst ds] S Q = ∃ hs : List Hnd, ds = hs.map hdD ∧ ∀ hs' : List Hnd, hs'.Perm hs → hs'.Pairwise (fun x y => ltH y x = false) → Q (.lst (hs'.map hdD)) S := rfl
end
end RL
namespace RL
open PySem PySem.Spec PyProof.Rows
open L2 hiding WE
end RL
namespace RL
open PySem PySem.Spec PyProof.Rows
open L2 hiding WE
section
variable {C : Cf} {B : Hp} {X : Cx} {a : Expr} {wa : RL.WE} {p p2 pos pos2 : Pos}
/-! ### list(range(n)) -/
def lrgD (d : D) (S : Sto) (Q : KD) : Prop := match d with
  | .int n => RgOk 0 n ∧ Q (.lst (rngD 0 n.toNat)) S
  | _ => False
def wLRg1 (wa : RL.WE) : RL.WE := fun E S Q => wa E S fun d S1 => lrgD d S1 Q
theorem lrgD_int {n : Int} {S : Sto} {Q : KD} : lrgD (.int n) S Q = (RgOk 0 n ∧ Q (.lst (rngD 0 n.toNat)) S) := rfl
end
end RL
/-! the heights that a clock keeps: opened, read, made longer, closed -/
namespace RL
open PySem PySem.Spec PyProof.Rows
open L2 hiding WE
/-! ### contents of one kind are one -/
/-! ### opened, closed -/
/-! ### what may be read -/
section
variable {C : Cf} {B : Hp} {X : Cx} {e i : Expr} {we wi : RL.WE} {p pos p2 : Pos}
/-- an opened clock, as a clock -/
def slD (x : D) (S : Sto) (Q : KD) : Prop := match x with
  | .ref p => ∃ h c n, S p = some (.lev h c n) ∧ Q (.clk h c) S
  | _ => False
def wSelf (we : RL.WE) : RL.WE := fun E S Q => we E S fun x S1 => slD x S1 Q
theorem slD_ref {a : Addr} {S : Sto} {Q : KD} : slD (.ref a) S Q = ∃ h c n, S a = some (.lev h c n) ∧ Q (.clk h c) S := rfl
/-- len(self.levels) -/
def llD (x : D) (S : Sto) (Q : KD) : Prop := match x with
  | .ref p => ∃ h c n, S p = some (.lev h c n) ∧ (n + 1 ≤ sizeLine → Q (.int ((n : Int) + 1)) S)
  | _ => False
def wLevLen (we : RL.WE) : RL.WE := fun E S Q => we E S fun x S1 => llD x S1 Q
theorem llD_ref {a : Addr} {S : Sto} {Q : KD} : llD (.ref a) S Q = ∃ h c n, S a = some (.lev h c n) ∧ (n + 1 ≤ sizeLine → Q (.int ((n : Int) + 1)) S) := rfl
/-- self.levels[i] -/
def lxD (x ix : D) (S : Sto) (Q : KD) : Prop := match x, ix with
  | .ref p, .int k => ∃ h c n j, S p = some (.lev h c n) ∧ j < n + 1 ∧ (k = (j : Int) ∨ k = (j : Int) - ((n : Int) + 1)) ∧ Q (.lst ((lvAt h c j).map D.int)) S
  | _, _ => False
theorem lxD_ref {a : Addr} {k : Int} {S : Sto} {Q : KD} : lxD (.ref a) (.int k) S Q = ∃ h c n j, S a = some (.lev h c n) ∧ j < n + 1 ∧ (k = (j : Int) ∨ k = (j : Int) - ((n : Int) + 1)) ∧ Q (.lst ((lvAt h c j).map D.int)) S := rfl
def wLevIx (we wi : RL.WE) : RL.WE := fun E S Q => we E S fun x S1 => (∃ p h c n, x = .ref p ∧ S1 p = some (.lev h c n)) ∧ wi E S1 fun y S2 => lxD x y S2 Q
end
/-! ### self.levels.append(..) -/
section
variable {C : Cf} {B : Hp} {X : Cx} {e o : Expr} {we wo : RL.WE} {apos cpos p2 : Pos}
def laD (x y : D) (S : Sto) (Q : KD) : Prop := match x with
  | .ref p => ∃ h c n, S p = some (.lev h c n) ∧ y = .lst ((lvAt h c (n + 1)).map D.int) ∧ n + 2 ≤ sizeLine ∧ Q .non (S.put p (.lev h c (n + 1)))
  | _ => False
theorem laD_ref {p : Addr} {y : D} {S : Sto} {Q : KD} : laD (.ref p) y S Q = ∃ h c n, S p = some (.lev h c n) ∧ y = .lst ((lvAt h c (n + 1)).map D.int) ∧ n + 2 ≤ sizeLine ∧ Q .non (S.put p (.lev h c (n + 1))) := rfl
def wLevApp (wo we : RL.WE) : RL.WE := fun E S Q => wo E S fun x S1 => (∃ p h c n, x = .ref p ∧ S1 p = some (.lev h c n)) ∧ we E S1 fun y S2 => laD x y S2 Q
end
end RL
namespace RL
open PySem PySem.Spec PyProof.Rows
open L2 hiding WE
/-! ### x is True, x is not False -/
def dIsB : R2D := fun x y S Q => match x, y with
  | .bl a, .bl b => Q (.bl (decide (a = b))) S
  | _, _ => False
def dIsNotB : R2D := fun x y S Q => match x, y with
  | .bl a, .bl b => Q (.bl (!decide (a = b))) S
  | _, _ => False
theorem dIsB_bl {a b : Bool} {S : Sto} {Q : KD} : dIsB (.bl a) (.bl b) S Q = Q (.bl (decide (a = b))) S := rfl
theorem dIsNotB_bl {a b : Bool} {S : Sto} {Q : KD} : dIsNotB (.bl a) (.bl b) S Q = Q (.bl (!decide (a = b))) S := rfl
end RL
/-! while an exception is handled: the ends of walks, tuples taken apart -/
namespace RLH
open PySem PySem.Spec PyProof.Rows HotX
section
variable {prog : Program} {w : World} {A : Around} {E : Value → Shared → Prop} {s : Shared}
theorem tuple_end_hot {it t x1 : Addr} {i : Nat} {items : Array Value} {Q : Option Value → Shared → Prop} (hot : HotAt A x1 s.heap) (hne : x1 ≠ it)
    (hit : s.heap.IsTupleIter it t i) (ht : s.heap.IsTuple t items) (hx : items[i]? = none)
    (hQ : ∀ h', Heap.ExtBut it s.heap h' → Q none { s with heap := h' }) : wpAny (model prog w) A (pyNext (.ref it)) Q E s := by
  obtain ⟨o, ho, hc, hd⟩ := id hit
  obtain ⟨ol, hol, _, nl, hdl⟩ := ht
  obtain ⟨hh, o1, vs1, h1, d1, c1⟩ := hot
  unfold pyNext
  refine wpAny_bind (wpAny_attempt (wpAny_callSpecial?_slot (name := Str.ofString "__next__") hit.typeIs F.slot_tuple_iterator_next
    (wpAny_call_entry F.slot_tuple_iterator_next hit.typeIs F.entry_tuple_iterator_next ?_ (F.args_tuple_iterator_next_1 _))))
  show wpAny _ _ (field (.ref it) 0 >>= _) _ _ s
  refine wpAny_bind (wpAny_field ho hd (x := .ref t) rfl ?_)
  show wpAny _ _ (if (Value.ref t == Value.none) = true then _ else _) _ _ s
  rw [if_neg (show ¬ ((Value.ref t == Value.none) = true) from Bool.false_ne_true)]
  show wpAny _ _ (field (.ref it) 1 >>= _) _ _ s
  refine wpAny_bind (wpAny_field ho hd (x := .int i 0) rfl ?_)
  show wpAny _ _ (seqItems? (.ref t) >>= _) _ _ s
  refine wpAny_bind (wpAny_seqItems hol hdl ?_)
  simp only [Int.toNat_natCast, hx]
  refine wpAny_bind (wpAny_rule (wpAny_bind (wpAny_setField ho hd (by simp) ?_)))
  show wpAny _ _ (newExc (.type "StopIteration") [] >>= _) _ _ _
  refine wpAny_bind ?_
  simp only [newExc, newTuple]
  refine wpAny_bind (wpAny_newObj_type ?_ (by size_fits))
  refine wpAny_bind (m := firstArgMember _ _) (wpAny_of_eq (a := Value.none) (by first | rfl | (simp only [firstArgMember]; rfl)) ?_)
  refine wpAny_newObj_type ?_ (by size_fits)
  have h1u : (s.heap.update it (Obj.mapFields fun x => x.setIfInBounds 0 .none)).get? x1 = some o1 := (Heap.get?_update_other _ _ (Ne.symm hne)).trans h1
  refine raiseNew_hot ⟨hh, o1, vs1, Heap.get?_push_of_some _ (Heap.get?_push_of_some _ h1u), d1, c1⟩ (Nat.ne_of_lt (Heap.lt_size (Heap.get?_push_of_some _ h1u))) (Heap.get?_push_size _ rfl) rfl (by first | (simp; done) | (simp; omega) | (simp only [Array.size_append]; simp; omega)) ?_
  refine wpAny_bind (wpAny_isInstance (T := "StopIteration") (b := true) ⟨_, Heap.get?_update_self _ (Heap.get?_push_size _ rfl) rfl, rfl⟩ isSubtype_stop ?_)
  refine wpAny_pure (hQ _ fun b o hb e => ?_)
  have e2 : (s.heap.update it (Obj.mapFields fun x => x.setIfInBounds 0 .none)).get? b = some o := (Heap.get?_update_other _ _ (Ne.symm hb)).trans e
  rw [Heap.get?_update_other _ _ (Nat.ne_of_gt (Heap.lt_size (Heap.get?_push_of_some _ e2)))]
  exact Heap.get?_push_of_some _ (Heap.get?_push_of_some _ e2)
theorem list_end_hot {it t x1 : Addr} {i : Nat} {items : Array Value} {Q : Option Value → Shared → Prop} (hot : HotAt A x1 s.heap) (hne : x1 ≠ it)
    (hit : s.heap.IsListIter it t i) (ht : s.heap.IsList t items) (hx : items[i]? = none)
    (hQ : ∀ h', Heap.ExtBut it s.heap h' → Q none { s with heap := h' }) : wpAny (model prog w) A (pyNext (.ref it)) Q E s := by
  obtain ⟨o, ho, hc, hd⟩ := id hit
  obtain ⟨ol, hol, _, nl, hdl⟩ := ht
  obtain ⟨hh, o1, vs1, h1, d1, c1⟩ := hot
  unfold pyNext
  refine wpAny_bind (wpAny_attempt (wpAny_callSpecial?_slot (name := Str.ofString "__next__") hit.typeIs slot_listiter_next
    (wpAny_call_entry slot_listiter_next hit.typeIs entry_listiter_next ?_ (args_listiter_next _))))
  show wpAny _ _ (field (.ref it) 0 >>= _) _ _ s
  refine wpAny_bind (wpAny_field ho hd (x := .ref t) rfl ?_)
  show wpAny _ _ (if (Value.ref t == Value.none) = true then _ else _) _ _ s
  rw [if_neg (show ¬ ((Value.ref t == Value.none) = true) from Bool.false_ne_true)]
  show wpAny _ _ (field (.ref it) 1 >>= _) _ _ s
  refine wpAny_bind (wpAny_field ho hd (x := .int i 0) rfl ?_)
  show wpAny _ _ (seqItems? (.ref t) >>= _) _ _ s
  refine wpAny_bind (wpAny_seqItems hol hdl ?_)
  simp only [Int.toNat_natCast, hx]
  refine wpAny_bind (wpAny_rule (wpAny_bind (wpAny_setField ho hd (by simp) ?_)))
  show wpAny _ _ (newExc (.type "StopIteration") [] >>= _) _ _ _
  refine wpAny_bind ?_
  simp only [newExc, newTuple]
  refine wpAny_bind (wpAny_newObj_type ?_ (by size_fits))
  refine wpAny_bind (m := firstArgMember _ _) (wpAny_of_eq (a := Value.none) (by first | rfl | (simp only [firstArgMember]; rfl)) ?_)
  refine wpAny_newObj_type ?_ (by size_fits)
  have h1u : (s.heap.update it (Obj.mapFields fun x => x.setIfInBounds 0 .none)).get? x1 = some o1 := (Heap.get?_update_other _ _ (Ne.symm hne)).trans h1
  refine raiseNew_hot ⟨hh, o1, vs1, Heap.get?_push_of_some _ (Heap.get?_push_of_some _ h1u), d1, c1⟩ (Nat.ne_of_lt (Heap.lt_size (Heap.get?_push_of_some _ h1u))) (Heap.get?_push_size _ rfl) rfl (by first | (simp; done) | (simp; omega) | (simp only [Array.size_append]; simp; omega)) ?_
  refine wpAny_bind (wpAny_isInstance (T := "StopIteration") (b := true) ⟨_, Heap.get?_update_self _ (Heap.get?_push_size _ rfl) rfl, rfl⟩ isSubtype_stop ?_)
  refine wpAny_pure (hQ _ fun b o hb e => ?_)
  have e2 : (s.heap.update it (Obj.mapFields fun x => x.setIfInBounds 0 .none)).get? b = some o := (Heap.get?_update_other _ _ (Ne.symm hb)).trans e
  rw [Heap.get?_update_other _ _ (Nat.ne_of_gt (Heap.lt_size (Heap.get?_push_of_some _ e2)))]
  exact Heap.get?_push_of_some _ (Heap.get?_push_of_some _ e2)
theorem hot_keep {A : Around} {x1 it : Addr} {h h' : Heap} (hot : HotAt A x1 h) (hne : x1 ≠ it) (k : Heap.ExtBut it h h') : HotAt A x1 h' := by
  obtain ⟨hh, o1, vs1, h1, d1, c1⟩ := hot
  exact ⟨hh, o1, vs1, k x1 o1 hne h1, d1, c1⟩
theorem unpackItems_hot {t x1 : Addr} {items : Array Value} {Q : List Value → Shared → Prop} (hot : HotAt A x1 s.heap) (ht : s.heap.IsTuple t items)
    (hQ : ∀ h', Heap.ExtBut s.heap.objs.size s.heap h' → Q items.toList { s with heap := h' }) : wpAny (model prog w) A (unpackItems (.ref t) items.size none) Q E s := by
  have hlt : t ≠ s.heap.objs.size := by obtain ⟨o, ho, _⟩ := ht; exact Nat.ne_of_lt (Heap.lt_size ho)
  have hx1 : x1 ≠ s.heap.objs.size := by obtain ⟨_, o1, _, h1, _⟩ := hot; exact Nat.ne_of_lt (Heap.lt_size h1)
  unfold unpackItems
  refine wpAny_bind ?_
  · unfold notIterableAtAll
    refine wpAny_bind (wpAny_specialOf ht.typeIs F.slot_tuple_iter.lookup ?_)
    refine wpAny_pure ?_
    simp only [Bool.false_eq_true, if_false]
    refine wpAny_bind (wpAny_holding (wpAny_pyIter_tuple ht ?_))
    refine wpAny_bind (wpAny_holding (wpAny_draw_tuple hlt items.size 0 _ _ ⟨_, Heap.get?_push_size _ rfl, rfl, rfl⟩ (ht.push _) (by omega) fun h₁ hit₁ hs₁ => ?_))
    have hall : List.take items.size (List.drop 0 items.toList) = items.toList := by
      rw [List.drop_zero]; exact List.take_of_length_le (by simp)
    rw [hall]
    rw [if_neg (by simp)]
    have ht₁ : h₁.IsTuple t items := (ht.push _).extBut hs₁.extBut hlt
    have hot1 : HotAt A x1 h₁ := hot_keep hot hx1 fun b o hb e => hs₁.extBut b o hb (Heap.get?_push_of_some _ e)
    refine wpAny_bind (wpAny_holding (tuple_end_hot (s := { s with heap := h₁ }) hot1 hx1 hit₁ ht₁ (by simp) fun h₂ he₂ => ?_))
    simp only [Option.isSome_none, Bool.false_eq_true, if_false]
    refine wpAny_pure (hQ h₂ fun b o hb e => he₂ b o hb (hs₁.extBut b o hb (Heap.get?_push_of_some _ e)))
theorem assign_Tuple_hot {env : Env} {elts : List Expr} {k} {pos : Pos} {t x1 : Addr} {items : Array Value} {Q : Unit → Shared → Prop} (hot : HotAt A x1 s.heap) (ht : s.heap.IsTuple t items)
    (hn : (assignEach elts env).length = items.size) (hstar : (assignEach elts env).findIdx? (·.1) = none)
    (h : ∀ h', Heap.ExtBut s.heap.objs.size s.heap h' → wpAny (model prog w) A (assignInOrder ((assignEach elts env).map (·.2)) items.toList) Q E { s with heap := h' }) :
    wpAny (model prog w) A (assign (.Tuple elts k pos) env (.ref t)) Q E s := by
  rw [arm_assign_Tuple]
  refine wpAny_bind (wpAny_standAt ?_)
  unfold unpack
  rw [hn, hstar]
  exact wpAny_bind (wpAny_holding (unpackItems_hot hot ht h))
end
end RLH
namespace RLH
open PySem PySem.Spec PyProof.Rows HotX L2
section
variable {X : Cx} {pos : Pos}
/-- (a, b, ..) = a tuple of that length -/
theorem pg_tupH {es : List Expr} {k : Nat} {t : TGs} {n : Nat} (hc : L2H.HotC X) (h : PGs X es t)
    (hn : (assignEach es X.env).length = n := by rfl) (hst : (assignEach es X.env).findIdx? (·.1) = none := by rfl) : PG X (.Tuple es k pos) (gTup X.K n t) := by
  refine ⟨fun pins s σ H v u Q I r hw => ?_⟩
  obtain ⟨a, xs, e1, hq, hl, hw⟩ := hw
  subst e1
  cases r
  obtain ⟨its, rv, ht, hz⟩ := I.tuple hq
  obtain ⟨x1, hot⟩ := hc.at I
  refine assign_Tuple_hot hot (show s.heap.IsTuple a its.toArray from ht) (by simp [hn, ← hl, rv.length]) hst fun h' hx => ?_
  have I1 : Inv X pins σ H { s with heap := h' } := I.kept (t' := s.toks) fun b o e => hx b o (Nat.ne_of_lt (Heap.lt_size e)) e
  exact h.run pins _ σ H xs _ Q I1 (by simpa using rv) hw
theorem turn_listH {P : Program} {w : World} {K : PySem.W.Frag} {tg : Expr} (a it : Addr) : L2H.TurnH P w K tg (Itl K a) [it] it (fun i h => h.IsListIter it a i) where
  mem := by simp
  obj := fun i h st b hb => by
    have e : b = it := by simpa using hb
    subst e
    obtain ⟨o, e, c, d⟩ := st
    exact ⟨o, e, fun v z => by rw [d] at z; cases z⟩
  keep := fun i h h' st k => st.at fun o e => k it (by simp) o e
  item := by
    intro X hP hw hK hc i pins s σ H E I hf st hg
    subst hP hw hK
    obtain ⟨xs, x, hq, hx⟩ := hg
    obtain ⟨its, rv, p, hz⟩ := I.list hq
    obtain ⟨u, hu, ru⟩ := rv.get hx
    obtain ⟨f0, f1, f2, f3, f4, f5⟩ := hf it (by simp)
    refine wpAny_pyNext_list_item st p.isList (x := u) (by simpa using hu) fun h' st' sb => ?_
    have I1 : Inv X pins σ H { s with heap := h' } := I.turned (t' := s.toks) (fun b o hb e => (sb.2 b hb).trans e) f0 f1 f3 f4 f5
    obtain ⟨o, e, c, d⟩ := id st'
    exact ⟨u, rfl, go_of (s := { s with heap := h' }) e c d (by decide) ⟨x, H, I1, ru, ⟨rfl, fun ys hy => by rw [I.list_inj hy hq]; exact hx⟩, st', fun b hb => (hf b hb).1⟩⟩
  done := by
    intro X hP hw hK hc i pins s σ H E I hf st hg
    subst hP hw hK
    obtain ⟨xs, hq, hx⟩ := hg
    obtain ⟨its, rv, p, hz⟩ := I.list hq
    obtain ⟨f0, f1, f2, f3, f4, f5⟩ := hf it (by simp)
    have hl := rv.length
    obtain ⟨q1, hq1, hq2⟩ := hc
    have pin := I.pin q1 (List.mem_append_left _ hq2)
    have ne : q1.1 ≠ it := f5 q1 (List.mem_append_left _ hq2)
    obtain ⟨hh, vs, hd, hv⟩ := hq1
    exact list_end_hot (x1 := q1.1) ⟨hh, q1.2, vs, pin.1, hd, hv⟩ ne st p.isList (by simp; omega) fun h' eb => ⟨rfl, I.turned (t' := s.toks) (fun b o hb e => eb b o hb e) f0 f1 f3 f4 f5⟩
  self := fun _ _ _ _ _ st h => wpAny_pyIter_listiter st h
end
end RLH
namespace RL
open PySem PySem.Spec PyProof.Rows
open L2 hiding WE
section
variable {C : Cf} {B : Hp} {X : Cx} {pos : Pos} {tg : Expr}
theorem dg_tupH {es : List Expr} {k n : Nat} {is : List Nat} {t : WGs} (hc : L2H.HotC X) (h : DGs C B X es is t)
    (hn : (assignEach es X.env).length = n := by rfl) (hst : (assignEach es X.env).findIdx? (·.1) = none := by rfl) : DG C B X (.Tuple es k pos) is (gTupD (lenIs n t)) :=
  ⟨PGimp (RLH.pg_tupH hc h.pgs hn hst) fun v σ H Q ⟨d, E, S, Qd, st, r, h, c⟩ => by
    cases d <;> first | exact False.elim h | skip
    cases r with
    | tup a b _ => exact ⟨_, _, rfl, a, by rw [← b.length]; exact h.1, _, E, S, Qd, st, b, h.2, fun E' S' σ' H' st' e' hw q => c _ _ _ _ e' st' hw q⟩⟩
structure DIH (C : Cf) (B : Hp) (X : Cx) (tg iter : Expr) (w : WI) : Prop where
  pi : L2H.PIH X tg iter (liftI X.K C B w)
theorem iter_listH {pins : List (Addr × Obj)} {s : Shared} {σ : L2.St} {H : Hp} {R : It → Hp → Prop} {E : Value → Shared → Prop} {a : Addr} {xs : List V} (I : Inv X pins σ H s) (h : SqL X.K H a xs) (q : R (Itl X.K a) H) : wpAny (model X.prog X.w) X.A (pyIter (.ref a)) (L2H.PIEH X pins σ tg R) E s := by
  rcases I.list h with ⟨its, rv, pl, -⟩
  have hf := I.hok.fresh (Nat.le_refl s.heap.objs.size)
  refine wpAny_pyIter_list pl.isList ⟨s.heap.objs.size, [s.heap.objs.size], _, _, H, rfl, I.kept (t' := s.toks) (fun _ _ => Heap.get?_push_of_some _), RLH.turn_listH a _, ⟨_, Heap.get?_push_size _ rfl, rfl, rfl⟩, ?_, q⟩
  intro b hb
  rw [List.mem_singleton.mp hb]
  exact I.fpOk (Nat.le_refl _) hf
/-- a locked list, walked while an exception is handled -/
theorem di_lstH {e : Expr} {w : RL.WE} (he : DE C B X e w) : DIH C B X tg e (fun E S R => w E S fun d S1 => match d with
    | .lst ds => ds.length ≤ sizeLine → R ds none S1
    | _ => False) := by
  refine ⟨⟨fun pins s σ H R I ⟨E, S, Rd, st, h, c⟩ => ?_⟩⟩
  refine thn (he.pe.run pins s σ H (fun v H1 => ∃ d S1, Ext C H H1 ∧ DR X.K C H1 d v ∧ SR X.K C S1 H1 ∧ (match d with
    | .lst ds => ds.length ≤ sizeLine → Rd ds none S1
    | _ => False)) I ⟨E, S, _, st, h, fun d S1 v H1 e1 r1 s1 h1 => ⟨d, S1, e1, r1, s1, h1⟩⟩) ?_
  rintro u s1 ⟨v, H1, I1, rv, d, S1, e1, r1, s1', h1⟩
  cases d <;> first | exact False.elim h1 | skip
  cases r1 with
  | lst a b z =>
    cases rv
    exact iter_listH I1 (.inl (.inr ⟨_, a⟩)) (c _ _ _ _ _ e1 s1' (feeds_lst a b) (h1 (by rw [b.length]; exact z)))
theorem ds_forH {iter : Expr} {body : List Stmt} {wi : WI} {is : List Nat} {g : WG} {wb : WS} (hp : PassesOwn (model X.prog X.w) X.A X.env X.xe) (hc : L2H.HotC X) (hi : DIH C B X tg iter wi) (hg : DG C B X tg is g) (hb : DSs C B X body wb)
    (hs : ∀ x, foldedSetIterable iter X.env x = pure x := by intro _; rfl) : DS C B X (.For tg iter body [] pos) (wFor wi g wb) :=
  ⟨PSimp (L2H.ps_forH hp hc hi.pi hg.pg hb.pss hs) fun D σ H ⟨E, S, Dd, st, h, cl⟩ => ⟨E, S, _, st, h, fun ds src S1 J H1 e1 s1 fd h1 => by
    refine ⟨fun i m σ H => ∃ E S, Stt X.K C B E S σ H ∧ Ext C H1 H ∧ i + m = ds.length ∧ wForL g wb src ds Dd (ds.drop i) E S, ⟨ds.length, E, S1, st.ext e1 s1, Ext.refl C H1, Nat.zero_add _, by rw [List.drop_zero]; exact h1⟩, fun i m σ H ⟨E, S, st, ex, em, hw⟩ => ?_⟩
    by_cases hi : i < ds.length
    · right
      have hd : ds[i]? = some ds[i] := List.getElem?_eq_getElem hi
      rw [List.drop_eq_getElem_cons hi] at hw
      obtain ⟨so, hw⟩ := hw
      obtain ⟨_, f2⟩ := fd S H ex st.sr (srcOk_iff so)
      obtain ⟨go, yl⟩ := f2 i _ hd
      refine ⟨go, fun σ' H' => ∃ E' S', Stt X.K C B E' S' σ' H' ∧ Ext C H1 H' ∧ wForL g wb src ds Dd (ds.drop (i + 1)) E' S', fun σ' H' ⟨E', S', st', ex', q⟩ => ⟨m - 1, by omega, E', S', st', ex', by omega, q⟩, fun x H' hy => ?_⟩
      obtain ⟨e2, r2, s2⟩ := yl x H' hy
      have cm := cl.mono (e1.trans (ex.trans e2))
      refine ⟨_, E, S, _, st.ext e2 s2, r2, hw, fun E' S' σ' H3 e3 st' _ q => ⟨E', S', _, st', q, ?_⟩⟩
      have cm' := cm.mono e3
      exact ⟨fun E' S' σ' H' e' st' q => ⟨E', S', st', ((ex.trans e2).trans e3).trans e', q⟩, cm'.rt, cm'.nx, fun E' S' σ' H' e' st' q => ⟨E', S', st', ((ex.trans e2).trans e3).trans e', q⟩⟩
    · left
      rw [List.drop_eq_nil_of_le (Nat.le_of_not_lt hi)] at hw
      obtain ⟨so, hw⟩ := hw
      obtain ⟨f1, _⟩ := fd S H ex st.sr (srcOk_iff so)
      have : i = ds.length := by omega
      subst this
      exact ⟨f1, cl.nx _ _ _ _ (e1.trans ex) st hw⟩⟩⟩
end
end RL
/-! while an exception is handled: lambdas as values, called in their own frame -/
namespace RL
open PySem PySem.Spec PyProof.Rows
open L2 hiding WE
/-- a new object is known as it stands from now on -/
theorem inv_track {X : Cx} {pins : List (Addr × Obj)} {σ : L2.St} {H H1 : Hp} {s s' : Shared} {f : Addr} {ob : Obj} (I : Inv X pins σ H s) (I1 : Inv X pins σ H1 s') (hf : s'.heap.get? f = some ob) (hn : H1 f = none) (hs : s.heap.objs.size ≤ f) : Inv X pins σ (upd H1 f (.frz ob (.own f))) s' := by
  have lt : ∀ {b o}, s.heap.get? b = some o → b ≠ f := fun {b o} e z => by
    have h1 := Heap.lt_size e
    rw [z] at h1
    exact Nat.lt_irrefl _ (Nat.lt_of_lt_of_le h1 hs)
  have nn : ∀ {b u}, H1 b = some u → b ≠ f := fun {b u} e => ne_of_none e hn
  have hok : HOk X.prog X.w (upd H1 f (.frz ob (.own f))) s'.heap := fun b u q => by
    by_cases hb : b = f
    · rw [hb, upd_same] at q
      cases q
      rw [hb]
      exact ⟨hf, ob, hf⟩
    · rw [upd_ne hb] at q
      refine (I1.hok b u q).stay (fun c v _ r => r) (fun c r => ?_) fun c zs r => ?_
      · rw [upd_ne (nn r)]
        exact r
      · rw [upd_ne (nn r)]
        exact r
  refine ⟨I1.ok, I1.os, I1.bare, ⟨I1.base.keep, I1.base.slot, fun b o q1 q2 q3 => ?_, I1.base.there, fun b zs q => ?_, fun b o u q => ?_, fun b ps q => ?_⟩, I1.loc, I1.cell, ?_, fun x c q => ?_, fun q hq => ?_, hok, I1.len⟩
  · have z := I1.base.free b o q1 q2 q3
    have h1 : b ≠ f := fun z => by
      have h1 := Heap.lt_size q1
      rw [z] at h1
      exact Nat.lt_irrefl _ (Nat.lt_of_lt_of_le h1 (Nat.le_trans I.sz hs))
    rw [upd_ne h1]
    exact z
  · have z := I1.base.tups b zs q
    rw [upd_ne (nn z)]
    exact z
  · have z := I1.base.frzs b o u q
    rw [upd_ne (nn z)]
    exact z
  · obtain ⟨m, z⟩ := I1.base.tbls b ps q
    exact ⟨m, by rw [upd_ne (nn z)]; exact z⟩
  · have h1 : X.env.locals ≠ f := fun z => by
      have h1 := I.lt
      rw [z] at h1
      exact Nat.lt_irrefl _ (Nat.lt_of_lt_of_le h1 hs)
    rw [upd_ne h1]
    exact I1.free
  · obtain ⟨v, o, ho, _⟩ := I.cell x c q
    rw [upd_ne (lt ho)]
    exact I1.freeC x c q
  · obtain ⟨a1, a2, a3, a4, a5⟩ := I1.pin q hq
    refine ⟨a1, ?_, a3, a4, a5⟩
    rw [upd_ne (lt (I.pin q hq).1)]
    exact a2
/-- the objects of a lambda's default -/
def DflD (dV : Value) (T : List (Addr × Obj)) : Option (Str × Int) → Prop
  | none => dV = .none
  | some (_, i) => ∃ (T0 : Addr) (t : Tok), dV = .ref T0 ∧ (T0, PySem.W.kdv_tup [.int i t]) ∈ T
/-- ob is the object of a lambda: _law_e.fld -/
def AskO (X : Cx) (fld : Str) (ob : Obj) (c' : Addr) (T : List (Addr × Obj)) : Prop := ∃ (params : Arguments) (scope : Scope) (dV doc pm ctv : Value) (o : Option (Str × Int)) (p3 p4 : Pos),
  ob = lamOb X params (.Attribute (.Name "_law_e" p3) fld p4) scope dV doc pm ctv c' ∧ LamG X.N X.env.scope scope o ∧ LamD params o ∧ DflD dV T o ∧ Vis scope "_law_e"
def wAskLam (X : Cx) (fld : Str) : RL.WE := fun _ S Q => ∀ (ob : Obj) (c' : Addr) (T : List (Addr × Obj)), AskO X fld ob c' T → Q (.fn ob c' (LamQ X) T) S
section
variable {C : Cf} {B : Hp} {X : Cx} {fld : Str} {params : Arguments} {scope : Scope} {o : Option (Str × Int)} {p3 p4 pos : Pos}
theorem de_lamH {c P : Addr} (TB : LamX.TabB X.base X.mg c P) (hcode : X.env.code = .ref c) (hmT : (P, LamQ X) ∈ C.T) (hu : ∀ q ∈ C.T, q.1 = P → q.2 = LamQ X) (hp : LamD params o) (L : LamG X.N X.env.scope scope o) (hv : Vis scope "_law_e" := by first | exact Or.inl rfl | exact Or.inr (Or.inl rfl) | exact Or.inr (Or.inr rfl)) :
    DE C B X (.Lambda params (.Attribute (.Name "_law_e" p3) fld p4) scope pos) (wAskLam X fld) := by
  refine ⟨⟨fun pins s σ H Q I ⟨E, S, Qd, stt, h, c0⟩ => ?_⟩⟩
  refine lam_new I TB hcode (stt.sr.tb _ hmT) hp (L.has I.ok) fun f c' dV doc pm ctv H1 s' I1 ts t1 hf hn hs nf hc hD hT => ?_
  have e1 : Ext C H H1 := ts.ext
  have sr1 : SR X.K C S H1 := ts.sr stt.sr t1 hmT hu
  cases o with
  | none =>
    have I2 := inv_track I I1 hf hn hs
    have e2 : Ext C H1 (upd H1 f (.frz (lamOb X params (.Attribute (.Name "_law_e" p3) fld p4) scope dV doc pm ctv c') (.own f))) := Ext.new hn
    exact ⟨.ref f, _, I2, rfl, c0 (.fn _ c' (LamQ X) []) S _ _ (e1.trans e2) (.fn upd_same (e2.co _ _ hc) (fun p hp => by cases hp)) (sr1.new hn trivial) (h _ c' [] ⟨params, scope, dV, doc, pm, ctv, none, p3, p4, rfl, L, hp, hD, hv⟩)⟩
  | some ai =>
    obtain ⟨a, i⟩ := ai
    obtain ⟨T0, t, rfl, hT0, hn0, _⟩ := hD
    have ne : f ≠ T0 := fun z => by
      rw [z, hT0] at hf
      have z := congrArg Obj.cls (Option.some.inj hf)
      exact absurd z (by show ¬ (Value.type "tuple" = Value.type "function"); decide)
    have I2 := inv_track I I1 hT0 hn0 (hT T0 rfl)
    have hn2 : upd H1 T0 (.frz (PySem.W.kdv_tup [.int i t]) (.own T0)) f = none := by rw [upd_ne ne]; exact hn
    have I3 := inv_track I I2 hf hn2 hs
    have e2 : Ext C H1 (upd H1 T0 (.frz (PySem.W.kdv_tup [.int i t]) (.own T0))) := Ext.new hn0
    have e3 : Ext C (upd H1 T0 (.frz (PySem.W.kdv_tup [.int i t]) (.own T0))) (upd (upd H1 T0 (.frz (PySem.W.kdv_tup [.int i t]) (.own T0))) f (.frz (lamOb X params (.Attribute (.Name "_law_e" p3) fld p4) scope (.ref T0) doc pm ctv c') (.own f))) := Ext.new hn2
    refine ⟨.ref f, _, I3, rfl, c0 (.fn _ c' (LamQ X) [(T0, PySem.W.kdv_tup [.int i t])]) S _ _ ((e1.trans e2).trans e3) (.fn upd_same (e3.co _ _ (e2.co _ _ hc)) (fun p hp => ?_)) ((sr1.new (o := .frz (PySem.W.kdv_tup [.int i t]) (.own T0)) hn0 trivial).new (o := .frz (lamOb X params (.Attribute (.Name "_law_e" p3) fld p4) scope (.ref T0) doc pm ctv c') (.own f)) hn2 trivial) (h _ c' _ ⟨params, scope, .ref T0, doc, pm, ctv, some (a, i), p3, p4, rfl, L, hp, ⟨T0, t, rfl, .head _⟩, hv⟩)⟩
    rw [List.mem_singleton.mp hp]
    exact e3.frz _ _ _ upd_same
end
/-- the frame of a lambda that is called in its maker's own frame, while an exception is handled -/
def lamCxH (X : Cx) (A : Around) (outer : List Env) (s : Shared) (H : Hp) (E : XK) (scope : Scope) (f c' : Addr) (p : Addr × Obj) : Cx :=
  { lamCxN X A outer s H E scope f c' with calm := false, pn := [p] }
theorem lam_inH {X : Cx} {pins : List (Addr × Obj)} {σ : L2.St} {H : Hp} {s : Shared} {A : Around} {outer : List Env} {E : XK} {scope : Scope} {f c' : Addr} {h₁ : Heap} {tk : Nat} {o : Option (Str × Int)} {bs : List (Str × Value)} {p : Addr × Obj} (I : Inv X pins σ H s) (L : LamG X.N X.env.scope scope o) (e0 : Env0 X.prog X.w X.K X.mg X.base A outer s H)
    (hpin : L2H.PinOk outer H s p) (hns : h₁.Ns s.heap.objs.size fun y => bs.reverse.lookup y) (kp : ∀ b u, s.heap.get? b = some u → h₁.get? b = some u) :
    Inv (lamCxH X A outer s H E scope f c' p) [] σ H { s with heap := h₁, toks := tk } := by
  have cl0 := L.has I.ok
  have back : ∀ {y c}, (cloFrom X.env.cells scope.names []).lookup y = some c → X.env.cells.lookup y = some c := fun {y c} e => by
    rcases cloFrom_mem (PySem.mem_of_lookup e) with m | ⟨h1, h2⟩
    · cases m
    · obtain ⟨c1, k⟩ := cl0 _ h1 rfl
      have k : X.env.cells.lookup y = some c1 := k
      have e2 : c = c1 := by
        rw [h2, k] <;> rfl
      rw [e2]
      exact k
  have forth : ∀ {y}, scope.names.lookup y = some .free → ∃ c, (cloFrom X.env.cells scope.names []).lookup y = some c := fun {y} hl => mem_lookup (cloFrom_has (cells := X.env.cells) (acc := []) (PySem.mem_of_lookup hl))
  have keepCell : ∀ {c : Addr} {v : Option Value}, s.heap.IsCell c v → h₁.IsCell c v := fun {c v} ⟨u, hu, d⟩ => ⟨_, kp _ _ hu, d⟩
  have out : ∀ b : Addr, b ∉ (lamCxH X A outer s H E scope f c' p).ex := fun b z => absurd (show b ∈ ([] : List Addr) from z) (by simp)
  refine ⟨⟨e0.mod, L.kind, rfl, rfl, Nat.le_refl _, fun y z c e1 e2 => I.ok.inj y z c (back e1) (back e2), fun y hy => ?_, fun y c z _ => ?_, (fun z => Bool.noConfusion (show false = true from z)), Around.frames_deeper e0.frames, .inr ⟨rfl, rfl⟩, fun b z => absurd z (out b), e0.bs, e0.bsz, fun b _ _ => out b, fun b z => absurd z (out b), e0.funs, e0.frf⟩,
    rfl, e0.bare, Un.kept kp, ⟨_, hns, fun i y v e1 e2 e3 => ?_⟩, fun y c e => ?_, e0.hok.fresh (Nat.le_refl _), fun y c e => ?_, fun q hq => ?_, e0.hok.kept kp, I.len⟩
  · rcases (show scope.names.lookup y = some .cell ∨ scope.names.lookup y = some .free from hy) with k | k
    · exact absurd rfl (L.nocell _ (PySem.mem_of_lookup k))
    · exact forth k
  · cases (show false = true from z)
  · rcases (show Vis scope y from e3) with k | k | k
    · exact absurd (List.mem_of_getElem? e1) (L.own _ (PySem.mem_of_lookup k) rfl)
    · exact absurd rfl (L.nocell _ (PySem.mem_of_lookup k))
    · obtain ⟨m, hn, hl⟩ := I.loc
      have seen : Vis X.env.scope y := (L.free _ (PySem.mem_of_lookup k) rfl).elim (fun k => .inr (.inl k)) fun k => .inr (.inr k)
      obtain ⟨w', r, q⟩ := hl i y v e1 e2 seen
      obtain ⟨c2, h2⟩ := forth k
      have c1 := back h2
      refine ⟨w', r, .inr ⟨.inr k, c2, h2, ?_⟩⟩
      rcases q with ⟨k', _⟩ | ⟨_, c3, e', z⟩
      · have k' : X.env.scope.names.lookup y = some .local := k'
        rcases L.free _ (PySem.mem_of_lookup k) rfl with k2 | k2 <;> rw [show X.env.scope.names.lookup y = _ from k2] at k' <;> cases k'
      · rw [c1] at e'
        cases e'
        exact keepCell z
  · obtain ⟨w', z⟩ := I.cell y c (back e)
    exact ⟨w', keepCell z⟩
  · exact I.freeC y c (back e)
  · have eq : q = p := by simpa using (show q ∈ [p] ++ ([] : List (Addr × Obj)) from hq)
    rw [eq]
    exact ⟨kp p.1 p.2 hpin.get, hpin.free, Nat.ne_of_lt (Heap.lt_size hpin.get), hpin.nofs, hpin.nocell⟩
/-- ask(), ask at slot i, the exception's name at slot j -/
def wAskCall (X : Cx) (i j : Nat) (a : Addr) (xn : Xn) : RL.WE := fun E S Q => ∃ (ob : Obj) (c : Addr) (T : List (Addr × Obj)) (fld : Str) (v : D), E[i]? = some (some (.fn ob c (LamQ X) T)) ∧ AskO X fld ob c T ∧ E[j]? = some (some (.ref a)) ∧ xn.fs.lookup fld = some v ∧ Q v S
theorem de_askCall {C : Cf} {B : Hp} {X : Cx} {a : Addr} {xn : Xn} {k i j : Nat} {x : Str} {p1 p2 : Pos} (kc : Caught C B X a xn) (hr : L2H.RoomH (k + 1) X.A) (hN : X.N[i]? = some x) (hv : Vis X.env.scope x) (hj : X.N[j]? = some ("_law_e" : Str)) (hd : (x == ("__debug__" : Str)) = false := by decide)
    (hcd : (x == ("__classdict__" : Str)) = false := by decide) : DE C B X (.Call (.Name x p1) [] [] p2) (wAskCall X i j a xn) := by
  obtain ⟨oe, dd, hmem, hz, hf, hxr⟩ := kc.ex
  refine ⟨⟨fun pins s σ H Q I ⟨E, S, Qd, st, ⟨ob, c, T, fld, y, h1, h2, h3, h4, h5⟩, c0⟩ => ?_⟩⟩
  obtain ⟨v, v1, v2⟩ := st.env i _ h1
  cases v2 with
  | @fn f _ _ _ _ hfz hco hTs =>
  obtain ⟨params, scope, dV, doc, pm, ctv, o, p3, p4, rfl, L, hp, hD, hve⟩ := h2
  refine wpAny_Call_Name_kw (thn ((pe_var (pos := p1) (i := i) hN hv hd hcd).run pins s σ H (fun v H1 => v = .ref f ∧ H1 = H) I ⟨.ref f, v1, rfl, rfl⟩) fun u s1 ⟨v, H1, I1, r1, q1⟩ => ?_)
  obtain ⟨rfl, eH⟩ := q1
  rw [eH] at I1
  obtain rfl : u = Value.ref f := r1
  have atF : s1.heap.get? f = some (lamOb X params (.Attribute (.Name "_law_e" p3) fld p4) scope dV doc pm ctv c) := (I1.hok f _ hfz).1
  have atD : DflAt s1.heap (fun _ => none) [] dV o := by
    cases o with
    | none => exact hD
    | some ai =>
      obtain ⟨b, i0⟩ := ai
      obtain ⟨T0, t, e, hm⟩ := hD
      exact ⟨T0, t, e, (I1.hok T0 _ (hTs _ hm)).1, rfl, by simp⟩
  refine PySem.W.callWith_F0 ⟨_, _, _, _, atF⟩ ?_
  obtain ⟨⟨oc, vs, t, hoc, hdc, hvc⟩, _, _⟩ := I1.hok c _ hco
  obtain ⟨tt, hb⟩ := lam_binds (X := X) (body := .Attribute (.Name "_law_e" p3) fld p4) (scope := scope) (cl := cloFrom X.env.cells scope.names []) (doc := doc) (pm := pm) (ctv := ctv) (cv := .ref c) (q := LamQ X) hp atD
  have P1 := I1.pin (a, oe) (List.mem_append_left _ hmem)
  have pin : L2H.PinOk X.stack H s1 (a, oe) := ⟨P1.1, P1.2.1, fun z => (List.mem_cons.mp (I1.stkSub a z)).elim P1.2.2.1 P1.2.2.2.1, P1.2.2.2.2⟩
  have rc : codeAny (model X.prog X.w) X.A (.call (.ref f) ⟨[], []⟩) (CR (L2N.CX X.prog X.w) X.stack X.prog X.w H s1 Q (fun _ _ _ => False)) s1 := by
    refine PySem.W.kla_callFunE hr.depth atF rfl L.co L.gen rfl ⟨c, oc, vs, t, rfl, hoc, hdc, hvc⟩ (hb _ _ _ _ ?_)
    refine wpAny_newFunctionEnv (fun y hy => L.nocell y hy) (fun y hy => ?_) (fun h₁ hns hsb => ⟨I1.nolimit.fresh _ hsb, ?_⟩) L.kind
    · cases o with
      | none => cases hy
      | some ai =>
        obtain ⟨a0, i0⟩ := ai
        have ey : y = (a0, Value.int i0 tt) := List.mem_singleton.mp hy
        rw [ey]
        exact L.par a0 i0 rfl
    · show codeAny _ _ (.expr (.Attribute (.Name "_law_e" p3) fld p4) (LamX.lamEnv X scope s1.heap.objs.size f c)) _ _
      have kp : ∀ b u, s1.heap.get? b = some u → h₁.get? b = some u := fun b u e => hsb.extBut b u (Nat.ne_of_lt (Heap.lt_size e)) (Heap.get?_push_of_some _ e)
      have J : Inv (lamCxH X X.A X.stack s1 H (fun _ _ _ => False) scope f c (a, oe)) [] σ H { s1 with heap := h₁, toks := s1.toks + (bindsOf tt o).length } :=
        lam_inH I1 L I1.env0 pin hns kp
      have kc2 : Caught C H (lamCxH X X.A X.stack s1 H (fun _ _ _ => False) scope f c (a, oe)) a xn := ⟨⟨oe, dd, .head _, hz, hf, hxr.ext st.base⟩, kc.hand, kc.cls, kc.no⟩
      have de : DE C H (lamCxH X X.A X.stack s1 H (fun _ _ _ => False) scope f c (a, oe)) (.Attribute (.Name "_law_e" p3) fld p4) (wXf a xn fld (wVar j)) := de_xf kc2 (de_var j hj hve)
      refine PySem.W.kla_codeExpr (wpAny_mono (de.pe.run [] _ _ H Q J ⟨E, S, Qd, st.rebase (Ext.refl C H), ?_, c0⟩) (fun v s' hq => ?_) fun e s' hq => hq)
      · show wVar j E S _
        unfold wVar
        rw [h3]
        exact ⟨rfl, y, h4, h5⟩
      · obtain ⟨w', H', J', rv, q⟩ := hq
        exact ⟨w', H', J'.os, J'.bare, J'.base, J'.hok, rv, q⟩
  refine wpAny_call (codeAny_mono rc fun r s' hq => ?_)
  cases r with
  | error e => exact (cx_end hq).elim
  | ok fl =>
    cases fl with
    | ret u => exact I1.after hq
    | next => exact hq.elim
    | brk => exact hq.elim
    | cont => exact hq.elim
/-- a def that is handed the exception that is handled, its code object known -/
theorem dfx_ofC {P : Program} {w : World} {K : PySem.W.Frag} {mg : Str → Option Value} {base : Heap} {C : Cf} {x qual p : Str} {st : Stmt} {f c : Addr} {oc kV doc pm ct : Value} {od an : Option Addr} {osl : Array (Option Value)} {N : List Str} {k : Nat} {sp : XSp}
    (lk : K.lookup f = some ⟨oc, od, .func (PySem.W.fnOf x qual (defArgs st) (defBody st) (defScope st) .none kV doc pm an (.ref c) ct), osl⟩) (hcd : PySem.W.codeIn K (.ref c) qual = true) (hkp : PySem.W.keepIn K (.ref f) = true) (S : FnScope N [p] (defScope st)) (hm : mg x = some (.ref f)) (hb : Binds K (PySem.W.fnOf x qual (defArgs st) (defBody st) (defScope st) .none kV doc pm an (.ref c) ct) [p] [])
    (hbody : ∀ (A : Around) (outer : List Env) (s : Shared) (B : Hp) (a : Addr) (oe : Obj) (xn : Xn) (S : Sto) (Q : KD), Caught C B (L2H.cxH (L2N.CX P w) P w K mg base N qual (defScope st) f (.ref c) A outer s B (fun _ _ _ => False) (a, oe)) a xn → L2H.RoomH k (L2H.cxH (L2N.CX P w) P w K mg base N qual (defScope st) f (.ref c) A outer s B (fun _ _ _ => False) (a, oe)).A → sp xn S Q →
      ∃ t, DSs C B (L2H.cxH (L2N.CX P w) P w K mg base N qual (defScope st) f (.ref c) A outer s B (fun _ _ _ => False) (a, oe)) (defBody st) t ∧ t { nx := fun _ S' => UpK Q .non S', rt := UpK Q } (startD N.length [.ref a]) S) : DfX P w K mg base C x (k + 1) sp := by
  refine ⟨f, _, p, hm, hkp, hb, fun A outer s H args us Q a dd oe xn S0 Qd hr hh hpin e0 hbd hv hz hf hx xc xno sr hsp cl => ?_⟩
  have KX : K.In s.heap := e0.mod.kin.keeps fun b o e => (e0.bs b o e).1
  have nl : s.heap.NoLimit := e0.mod.nolimit.keeps fun b o e => (e0.bs b o e).1
  have kinds : ∀ y ∈ [p].zip us, (defScope st).names.lookup y.1 = some .local ∨ ((defScope st).names.lookup y.1 = some .cell ∧ ((cellsFrom (s.heap.objs.size + 1) (defScope st).names []).lookup y.1).isSome = true) := fun ⟨m, v⟩ hy => by
    rcases S.par m (List.of_mem_zip hy).1 with q | q
    · exact .inl q
    · exact .inr ⟨q, PySem.W.cellsFrom_some _ _ _ (.inl q)⟩
  refine codeAny_call_function hr.depth (KX _ _ lk) rfl S.co S.gen rfl (PySem.W.codeRec_of KX hcd) (hbd _ _ _ _ ?_)
  refine wpAny_newFunctionEnv_cells S.kind kinds fun env he s1 x1 => ?_
  subst he
  refine ⟨nl.keeps x1.toInCall.keep, codeAny_func ?_⟩
  have I := L2H.inv_startH (CX := L2N.CX P w) (E := fun _ _ _ => False) (cd := .ref c) (f := f) (N := N) S hpin e0 rfl hv x1
  have kc := (⟨⟨oe, dd, .head _, hz, hf, hx⟩, hh, xc, xno⟩ : Caught C H (L2H.cxH (L2N.CX P w) P w K mg base N qual (defScope st) f (.ref c) A outer s H (fun _ _ _ => False) (a, oe)) a xn)
  obtain ⟨t, ht, hq⟩ := hbody A outer s H a oe xn S0 Qd kc (hr.deeper _) hsp
  have st0 : Stt K C H (startD N.length [.ref a]) S0 (L2.start N [.ref a]) H := start_rel (.cons (.ref a) .nil) sr
  refine wpAny_mono (ht.pss.run [] s1 (L2.start N [.ref a]) H { nx := fun _ H' => Q .non H', rt := Q } I ⟨_, S0, _, st0, hq, ⟨fun E S2 σ H2 e2 st2 q => cl.up _ _ _ _ e2 .non st2.sr q, cl.up, fun _ _ _ _ _ _ q => q, fun _ _ _ _ _ _ q => q⟩⟩) (fun fl s' hs => ?_) fun e s' hs => hs
  cases fl with
  | ret u =>
    obtain ⟨v, σ', H', J, rv, q⟩ := hs
    exact ⟨v, H', J.os, J.bare, J.base, J.hok, rv, q⟩
  | next =>
    obtain ⟨σ', H', J, q⟩ := hs
    exact ⟨.non, H', J.os, J.bare, J.base, J.hok, rfl, q⟩
  | brk =>
    obtain ⟨_, _, _, q⟩ := hs
    exact q.elim
  | cont =>
    obtain ⟨_, _, _, q⟩ := hs
    exact q.elim
/-! ### the field of an exception, by its word -/
def fldTab : List (Str × Str) := [("invalidname", "name"), ("duplicatename", "name"), ("nameinuse", "name"), ("unknownname", "name"), ("toofar", "floor"), ("invalidfloor", "floor"), ("invalidtable", "index"), ("limitexceeded", "limit"), ("invalidroom", "room"), ("invalidrank", "rank"), ("invalidhand", "step"), ("invalidcount", "count"), ("invalidstay", "stay"), ("endreached", "available"), ("noshow", "found"), ("capacityexceeded", "capacity"), ("invalidcommand", "position"), ("invalidfile", "line")]
def askTab : List (Str × Str) := [("invalidtable", "index"), ("limitexceeded", "limit"), ("invalidroom", "room"), ("invalidrank", "rank"), ("invalidhand", "step"), ("invalidcount", "count"), ("invalidstay", "stay"), ("endreached", "available"), ("noshow", "found"), ("capacityexceeded", "capacity"), ("invalidcommand", "position"), ("invalidfile", "line")]
theorem fldTab_rest {wd : Str} (c1 : wd ∉ (["invalidname", "duplicatename", "nameinuse", "unknownname"] : List Str)) (c2 : wd ∉ (["toofar", "invalidfloor"] : List Str)) : fldTab.lookup wd = askTab.lookup wd := by
  simp only [List.mem_cons, List.not_mem_nil, or_false, not_or] at c1 c2
  obtain ⟨a1, a2, a3, a4⟩ := c1
  obtain ⟨a5, a6⟩ := c2
  have b1 := beq_eq_false_iff_ne.mpr a1
  have b2 := beq_eq_false_iff_ne.mpr a2
  have b3 := beq_eq_false_iff_ne.mpr a3
  have b4 := beq_eq_false_iff_ne.mpr a4
  have b5 := beq_eq_false_iff_ne.mpr a5
  have b6 := beq_eq_false_iff_ne.mpr a6
  unfold fldTab askTab
  rw [List.lookup, b1]
  show List.lookup wd _ = _
  rw [List.lookup, b2]
  show List.lookup wd _ = _
  rw [List.lookup, b3]
  show List.lookup wd _ = _
  rw [List.lookup, b4]
  show List.lookup wd _ = _
  rw [List.lookup, b5]
  show List.lookup wd _ = _
  rw [List.lookup, b6]
def spFld : XSp := fun xn S Q => ∃ wd, xn.fs.lookup ("word" : Str) = some (.str wd) ∧ PyData.strOk wd = true ∧ match fldTab.lookup wd with
  | some f => ∃ v, xn.fs.lookup f = some v ∧ Q v S
  | none => Q .non S
/-! ### == of texts -/
theorem dEq_str {x y : Str} {S : Sto} {Q : KD} (hx : PyData.strOk x = true) (hy : PyData.strOk y = true) (h1 : x = y → Q (.bl true) S) (h2 : x ≠ y → Q (.bl false) S) : dEq (.str x) (.str y) S Q :=
  dEq_of (m := 0) (n := 0) (.str hx) (.str hy) (fun e => h1 (by cases e; rfl)) fun e => h2 fun z => e (by rw [z])
theorem inD_strs {r : Str} {ns : List Str} : inD (.str r) (ns.map D.str) = decide (r ∈ ns) := by
  unfold inD L2.inV
  induction ns with
  | nil => rfl
  | cons n ns ih =>
    rw [List.map_cons, List.map_cons, List.any_cons, ih]
    have e : L2.eqV (vOf (.str n)) (vOf (.str r)) = decide (r = n) := by
      show L2.eqV (.str n) (.str r) = _
      by_cases h : r = n
      · subst h
        simp [L2.eqV]
      · simp [L2.eqV, h, Ne.symm h]
    rw [e]
    by_cases h : r = n
    · simp [h]
    · simp [h]
abbrev AskRow := Str × Str × Obj × Addr × List (Addr × Obj)
def askD (X : Cx) (r : AskRow) : D := .tup [.str r.1, .fn r.2.2.1 r.2.2.2.1 (LamQ X) r.2.2.2.2]
theorem ask_loop {X : Cx} {xn : Xn} {a : Addr} {wd : Str} (hw : xn.fs.lookup ("word" : Str) = some (.str wd)) (ok : PyData.strOk wd = true) {all : List D} {Z : WEnds} {L : D} {S : Sto} :
    ∀ (rows : List AskRow), (∀ r ∈ rows, PyData.strOk r.1 = true ∧ AskO X r.2.1 r.2.2.1 r.2.2.2.1 r.2.2.2.2) → (∀ f, (rows.map fun r => (r.1, r.2.1)).lookup wd = some f → ∃ v, xn.fs.lookup f = some v ∧ Z.rt v S) → ((rows.map fun r => (r.1, r.2.1)).lookup wd = none → ∀ E, Z.nx E S) → ∀ e2 e3,
      wForL (gTupD (lenIs 2 (gsCons (gSet 2) (gsCons (gSet 3) gsNil)))) (wIfS (wTest (wBin dEq (wVar 2) (wXf a xn "word" (wVar 0)))) (wRet (wAskCall X 3 0 a xn)) wNext) none all Z (rows.map (askD X)) [some (.ref a), some L, e2, e3] S
  | [], _, _, h0, _, _ => ⟨trivial, h0 rfl _⟩
  | r :: rows, hr, h1, h0, e2, e3 => by
    obtain ⟨w, fld, ob, c, T⟩ := r
    obtain ⟨o1, o2⟩ := hr _ List.mem_cons_self
    refine ⟨trivial, rfl, ?_⟩
    simp only [wIfS, wTest_eq, wBin, wVar, wXf, gSet, gsCons_cons, gsNil_nil, List.set_cons_zero, List.set_cons_succ, List.getElem?_cons_zero, List.getElem?_cons_succ, true_and]
    refine ⟨.str wd, hw, ?_⟩
    refine dEq_str o1 ok (fun e => ?_) fun e => ?_
    · subst e
      obtain ⟨v, h, q⟩ := h1 fld (by simp [List.lookup])
      exact ⟨ob, c, T, fld, v, rfl, o2, rfl, h, q⟩
    · have qb : (wd == w) = false := beq_eq_false_iff_ne.mpr fun z => e z.symm
      exact ask_loop hw ok rows (fun r h => hr r (List.mem_cons_of_mem _ h)) (fun f h => h1 f (by simpa [List.lookup, qb] using h)) (fun h => h0 (by simpa [List.lookup, qb] using h)) _ _
end RL
/-! raise of own classes without fields; small lemmas; a promise weakened -/
namespace RL
open PySem PySem.Spec PyProof.Rows
open L2 hiding WE
/-! ### raise C() -/
def wRaise0 (C : Addr) (wd : Str) (Xd : Xn → EV → Sto → Prop) : WS := fun _ E S => Xd ⟨C, [("word", .str wd)]⟩ E S
/-! ### a promise weakened -/
theorem DOk.imp {P : Program} {w : World} {K : PySem.W.Frag} {mg : Str → Option Value} {base : Heap} {C : Cf} {k : Nat} {f : Addr} {fd : FuncData} {ps : List Str} {sp sp' : DSp} (F : DOk P w K mg base C k f fd ps sp) (h : ∀ ds S Q Xd, sp' ds S Q Xd → sp ds S Q Xd) : DOk P w K mg base C k f fd ps sp' := by
  have key : ∀ vs H Q E, liftSp K C sp' vs H Q E → liftSp K C sp vs H Q E := fun vs H Q E ⟨ds, S, Qd, Xd, r, sr, hh, c, cx⟩ => ⟨ds, S, Qd, Xd, r, sr, h _ _ _ _ hh, c, cx⟩
  exact ⟨fun vs H Q E hh => F.len vs H Q E (key vs H Q E hh), fun A outer s H args us vs Q E hr e0 hb hv hh => F.run A outer s H args us vs Q E hr e0 hb hv (key vs H Q E hh)⟩
theorem Df.imp {P : Program} {w : World} {K : PySem.W.Frag} {mg : Str → Option Value} {base : Heap} {C : Cf} {x : Str} {k : Nat} {ps : List Str} {sp sp' : DSp} (d : Df P w K mg base C x k ps sp) (h : ∀ ds S Q Xd, sp' ds S Q Xd → sp ds S Q Xd) : Df P w K mg base C x k ps sp' := by
  obtain ⟨f, fd, F, r⟩ := d.ex
  exact ⟨f, fd, F.imp h, r⟩
/-! ### steps that the walk may take by itself -/
theorem exAt0 {a : D} {l : List D} {P : D → Prop} : (∃ d, atI (a :: l) 0 = some d ∧ P d) = P a := by
  have e : atI (a :: l) 0 = some a := atI_nat (j := 0) rfl
  rw [e]
  exact propext ⟨fun ⟨d, h, p⟩ => (Option.some.inj h) ▸ p, fun p => ⟨a, rfl, p⟩⟩
theorem exAt1 {a b : D} {l : List D} {P : D → Prop} : (∃ d, atI (a :: b :: l) 1 = some d ∧ P d) = P b := by
  have e : atI (a :: b :: l) 1 = some b := atI_nat (j := 1) rfl
  rw [e]
  exact propext ⟨fun ⟨d, h, p⟩ => (Option.some.inj h) ▸ p, fun p => ⟨b, rfl, p⟩⟩
theorem exAt2 {a b c : D} {l : List D} {P : D → Prop} : (∃ d, atI (a :: b :: c :: l) 2 = some d ∧ P d) = P c := by
  have e : atI (a :: b :: c :: l) 2 = some c := atI_nat (j := 2) rfl
  rw [e]
  exact propext ⟨fun ⟨d, h, p⟩ => (Option.some.inj h) ▸ p, fun p => ⟨c, rfl, p⟩⟩
theorem exAt3 {a b c e : D} {l : List D} {P : D → Prop} : (∃ d, atI (a :: b :: c :: e :: l) 3 = some d ∧ P d) = P e := by
  have e : atI (a :: b :: c :: e :: l) 3 = some e := atI_nat (j := 3) rfl
  rw [e]
  exact propext ⟨fun ⟨d, h, p⟩ => (Option.some.inj h) ▸ p, fun p => ⟨_, rfl, p⟩⟩
theorem sz0 : (0 ≤ sizeLine) = True := eq_true (by decide)
theorem sz1 : (0 + 1 ≤ sizeLine) = True := eq_true (by decide)
theorem sz2 : (0 + 1 + 1 ≤ sizeLine) = True := eq_true (by decide)
theorem sz3 : (0 + 1 + 1 + 1 ≤ sizeLine) = True := eq_true (by decide)
theorem sz4 : (0 + 1 + 1 + 1 + 1 ≤ sizeLine) = True := eq_true (by decide)
theorem sz5 : (0 + 1 + 1 + 1 + 1 + 1 ≤ sizeLine) = True := eq_true (by decide)
theorem sz6 : (0 + 1 + 1 + 1 + 1 + 1 + 1 ≤ sizeLine) = True := eq_true (by decide)
theorem sz7 : (0 + 1 + 1 + 1 + 1 + 1 + 1 + 1 ≤ sizeLine) = True := eq_true (by decide)
theorem sz8 : (0 + 1 + 1 + 1 + 1 + 1 + 1 + 1 + 1 ≤ sizeLine) = True := eq_true (by decide)
theorem sz9 : (0 + 1 + 1 + 1 + 1 + 1 + 1 + 1 + 1 + 1 ≤ sizeLine) = True := eq_true (by decide)
theorem sz10 : (0 + 1 + 1 + 1 + 1 + 1 + 1 + 1 + 1 + 1 + 1 ≤ sizeLine) = True := eq_true (by decide)
theorem sz11 : (0 + 1 + 1 + 1 + 1 + 1 + 1 + 1 + 1 + 1 + 1 + 1 ≤ sizeLine) = True := eq_true (by decide)
theorem sz12 : (0 + 1 + 1 + 1 + 1 + 1 + 1 + 1 + 1 + 1 + 1 + 1 + 1 ≤ sizeLine) = True := eq_true (by decide)
theorem sz13 : (0 + 1 + 1 + 1 + 1 + 1 + 1 + 1 + 1 + 1 + 1 + 1 + 1 + 1 ≤ sizeLine) = True := eq_true (by decide)
end RL
namespace RL
open PySem PySem.Spec PyProof.Rows
open L2 hiding WE
theorem NoLevS.put {S : Sto} {q : Addr} {xs : List D} (h : NoLevS S) : NoLevS (S.put q (.lst xs)) := fun a hh c n e => by
  by_cases hq : a = q
  · rw [hq, Sto.put_same] at e
    cases e
  · rw [Sto.put_ne hq] at e
    exact h a hh c n e
/-- plain contents, by a look at the term -/
theorem ok_cons {n : Nat} {d : D} {ds : List D} (h1 : Ok n d) (h2 : ∀ e ∈ ds, Ok n e) : ∀ e ∈ d :: ds, Ok n e := fun e he => by
  rcases List.mem_cons.mp he with rfl | he
  · exact h1
  · exact h2 e he
theorem ok_nil {n : Nat} : ∀ e ∈ ([] : List D), Ok n e := fun e he => by cases he
end RL
/-! keyword-only parameters -/
namespace RL
open PySem PySem.Spec PyProof.Rows
open L2 hiding WE
def wCallK (sp : DSp) (n m : Nat) (Xd : Xn → EV → Sto → Prop) (wa wk : WA) : RL.WE := fun E S Q => wa E S fun ds S1 => wk E S1 fun zs S2 => ds.length = n ∧ zs.length = m ∧ sp (ds ++ zs) S2 Q fun xn S3 => Xd xn E S3
end RL
/-! sorted(..) of ints -/
namespace RL
open PySem PySem.Spec PyProof.Rows
open L2 hiding WE
def dSortedI : RCD := fun ds S Q => match ds with
  | [.lst xs] => ∃ ns : List Int, xs = ns.map D.int ∧ ∀ ns' : List Int, ns'.Perm ns → ns'.Pairwise (· ≤ ·) → Q (.lst (ns'.map D.int)) S
  | [.ref p] => ∃ ns : List Int, S p = some (.lst (ns.map D.int)) ∧ ∀ ns' : List Int, ns'.Perm ns → ns'.Pairwise (· ≤ ·) → Q (.lst (ns'.map D.int)) S
  | _ => False
theorem dSortedI_lst {ds : List D} {S : Sto} {Q : KD} : dSortedI [.lst ds] S Q = ∃ ns : List Int, ds = ns.map D.int ∧ ∀ ns' : List Int, ns'.Perm ns → ns'.Pairwise (· ≤ ·) → Q (.lst (ns'.map D.int)) S := rfl
theorem dSortedI_ref {p : Addr} {S : Sto} {Q : KD} : dSortedI [.ref p] S Q = ∃ ns : List Int, S p = some (.lst (ns.map D.int)) ∧ ∀ ns' : List Int, ns'.Perm ns → ns'.Pairwise (· ≤ ·) → Q (.lst (ns'.map D.int)) S := rfl
end RL
/-! xs < ys of lists of ints -/
namespace RL
open PySem PySem.Spec PyProof.Rows
open L2 hiding WE
end RL
/-! pairs of ints: in, <; a comprehension with a test and a state -/
namespace RL
open PySem PySem.Spec PyProof.Rows
open L2 hiding WE
end RL
/-! dicts whose keys are tuples of ints and of such tuples: {}, in, d[k], d[k] = e of a new key -/
namespace RL
open PySem PySem.Spec PyProof.Rows
open L2 hiding WE
/-! ### the rules -/
end RL
/-! x in xs, xs.index(x) of lists of data -/
namespace RL
open PySem PySem.Spec PyProof.Rows
open L2 hiding WE
section
variable {C : Cf} {B : Hp} {X : Cx} {e o : Expr} {we wo : RL.WE} {apos cpos : Pos}
/-- x in y, of a list of data -/
def dInS : R2D := fun x y S Q => (okEq (see S x) = true ∧ okEq (see S y) = true) ∧ ∃ ds, see S y = .lst ds ∧ Q (.bl (ds.any fun z => eqD z (see S x))) S
theorem any_eqD (t : PyData) : ∀ ds : List D, ((toPys ds).any fun z => PyData.eqv z t) = ds.any fun z => PyData.eqv (toPy z) t
  | [] => rfl
  | d :: ds => by
    show ((toPy d :: toPys ds).any _) = _
    rw [List.any_cons, List.any_cons, any_eqD t ds]
theorem od_inS (hu : X.A.units + 65 < cLine) : OpR X (compareOp .In) (lift2 X.K C dInS) := by
  rintro pins s σ H x y v u Q I rx ry ⟨dx, dy, S, Qd, r1, r2, sr, ⟨⟨o1, o2⟩, ds, ey, h⟩, c⟩
  obtain ⟨p1, q1⟩ := see_dp sr r1 o1
  obtain ⟨p2, q2⟩ := see_dp sr r2 o2
  rw [ey] at p2 q2
  refine op_inD hu pins s σ H x y v u Q I rx ry ⟨_, _, p1, p2, q1, q2, ?_⟩
  rw [any_eqD]
  exact c.now (.bl _) sr h
end
end RL
/-! max(a, b, c) of ints, max(xs) of a list of ints -/
namespace RL
open PySem PySem.Spec PyProof.Rows
open L2 hiding WE
theorem _root_.L2.Room.units5 {k : Nat} {A : Around} (r : L2.Room k A) : A.units + 65 < cLine := by have := r.un; omega
def dMax3 : RCD := fun ds S Q => match ds with
  | [.int i, .int j, .int k] => Q (.int (max (max i j) k)) S
  | _ => False
theorem dMax3_int {i j k : Int} {S : Sto} {Q : KD} : dMax3 [.int i, .int j, .int k] S Q = Q (.int (max (max i j) k)) S := rfl
/-- the greatest of a list of ints that is not empty -/
def dMaxL : RCD := fun ds S Q => match ds with
  | [.lst xs] => ∃ ns : List Int, xs = ns.map D.int ∧ 0 < ns.length ∧ ∀ m, m ∈ ns → (∀ y ∈ ns, y ≤ m) → Q (.int m) S
  | _ => False
theorem dMaxL_lst {xs : List D} {S : Sto} {Q : KD} : dMaxL [.lst xs] S Q = ∃ ns : List Int, xs = ns.map D.int ∧ 0 < ns.length ∧ ∀ m, m ∈ ns → (∀ y ∈ ns, y ≤ m) → Q (.int m) S := rfl
section
variable {C : Cf} {X : Cx}
theorem cd_maxL (hc : X.calm = true) : CallR X (.builtin "max") (liftC X.K C dMaxL) := by
  rintro pins s σ H vs us Q I rv ⟨ds, S, Qd, rs, sr, h, c⟩
  rcases ds with _ | ⟨d, _ | ⟨d2, ds⟩⟩
  · exact False.elim h
  · obtain ⟨v, rfl, r⟩ := one_of rfl rs
    cases d <;> first | exact False.elim h | skip
    cases r with
    | lst a b z =>
      obtain ⟨ns, e, h0, h⟩ := h
      subst e
      have e2 := b.ints
      subst e2
      exact cr_max hc pins s σ H _ us Q I rv ⟨_, ns, rfl, .inl (.inr ⟨_, a⟩), h0, fun m hm hy => c.now (.int _) sr (h m hm hy)⟩
  · cases d <;> exact False.elim h
end
end RL
/-! sorted({d for r in t for d in r}), xs.index(x) of a list held by value -/
namespace RL
open PySem PySem.Spec PyProof.Rows
open L2 hiding WE
def wSortSet (it0 : Nat) : RL.WE := fun E S Q => ∃ rows : List (List Int), E[it0]? = some (some (.tup (rows.map fun r => .tup (r.map D.int)))) ∧ rows.flatten.length ≤ 4000 ∧ (∀ ds : List Int, ds.Nodup → (∀ k, k ∈ ds ↔ k ∈ rows.flatten) → ds.length < 64) ∧ ∀ ns : List Int, ns.Pairwise (· < ·) → (∀ k, k ∈ ns ↔ k ∈ rows.flatten) → Q (.lst (ns.map D.int)) S
section
variable {C : Cf} {B : Hp} {X : Cx} {e o : Expr} {we wo : RL.WE} {apos cpos : Pos}
/-- xs.index(x) of what is there, of a list held by value -/
def wIdxL (wo we : RL.WE) : RL.WE := fun E S Q => wo E S fun x S1 => (∃ ds, x = .lst ds) ∧ we E S1 fun y S2 => (okEq (see S2 x) = true ∧ okEq (see S2 y) = true) ∧ ∃ ds j z, see S2 x = .lst ds ∧ ds[j]? = some z ∧ eqD z (see S2 y) = true ∧ (∀ m z', m < j → ds[m]? = some z' → eqD z' (see S2 y) = false) ∧ Q (.int (j : Nat)) S2
end
end RL
/-! sorted(set(xs)) of a list of ints -/
namespace RL
open PySem PySem.Spec PyProof.Rows
open L2 hiding WE
/-- sorted(set(xs)) -/
def wSortSetL (we : RL.WE) : RL.WE := fun E S Q => we E S fun x S1 => ∃ ns : List Int, (x = .lst (ns.map D.int) ∨ ∃ p, x = .ref p ∧ S1 p = some (.lst (ns.map D.int))) ∧ ns.length ≤ 4000 ∧ (∀ ds : List Int, ds.Nodup → (∀ k, k ∈ ds ↔ k ∈ ns) → ds.length < 64) ∧ ∀ vs : List Int, vs.Pairwise (· < ·) → (∀ k, k ∈ vs ↔ k ∈ ns) → Q (.lst (vs.map D.int)) S1
end RL
/-! a, b, *c = a tuple; defs called with some of their keywords -/
namespace RL
open PySem PySem.Spec PyProof.Rows
open L2 hiding WE
section
variable {C : Cf} {B : Hp} {X : Cx} {pos : Pos}
def gStar3 (i j m : Nat) : WG := fun d E S Q => match d with
  | .tup (d1 :: d2 :: ds) => ds.length ≤ 1000 ∧ Q (((E.set i (some d1)).set j (some d2)).set m Option.none) S
  | _ => False
theorem gStar3_tup {i j m : Nat} {d1 d2 : D} {ds : List D} {E : EV} {S : Sto} {Q : EV → Sto → Prop} : gStar3 i j m (.tup (d1 :: d2 :: ds)) E S Q = (ds.length ≤ 1000 ∧ Q (((E.set i (some d1)).set j (some d2)).set m Option.none) S) := rfl
end
def wCallKP (sp : DSp) (n m : Nat) (dvs : List D) (Xd : Xn → EV → Sto → Prop) (wa wk : WA) : RL.WE := fun E S Q => wa E S fun ds S1 => wk E S1 fun zs S2 => ds.length = n ∧ zs.length = m ∧ sp (ds ++ zs ++ dvs) S2 Q fun xn S3 => Xd xn E S3
/-! // and % by whatever but 0 -/
section
variable {X : Cx} {C : Cf}
def CDivN (_ j : Int) : Prop := j ≠ 0 ∧ j.natAbs.log2 < 9000
def dFdivN : R2D := dII CDivN fun i j => .int (i.fdiv j)
def dModN : R2D := dII (fun _ j => j ≠ 0) fun i j => .int (i.fmod j)
end
end RL
/-! xs.extend(ys), xs[::-1] -/
namespace RL
open PySem PySem.Spec PyProof.Rows
open L2 hiding WE
section
variable {C : Cf} {B : Hp} {X : Cx} {e o : Expr} {we wo : RL.WE} {apos cpos : Pos}
/-- the outcome of x.extend(y) -/
def exD (x y : D) (S : Sto) (Q : KD) : Prop := match x, y with
  | .ref p, .lst zs => ∃ ds, S p = some (.lst ds) ∧ ds.length + zs.length ≤ sizeLine ∧ Q .non (S.put p (.lst (ds ++ zs)))
  | _, _ => False
theorem exD_lst {p : Addr} {zs : List D} {S : Sto} {Q : KD} : exD (.ref p) (.lst zs) S Q = ∃ ds, S p = some (.lst ds) ∧ ds.length + zs.length ≤ sizeLine ∧ Q .non (S.put p (.lst (ds ++ zs))) := rfl
def wExt (wo we : RL.WE) : RL.WE := fun E S Q => wo E S fun x S1 => (∃ p ds, x = .ref p ∧ S1 p = some (.lst ds)) ∧ we E S1 fun y S2 => exD x y S2 Q
end
/-! ### {k: v for tg in iter if ..}, keys ints, each new -/
def wDcL (g : WG) (tt : WT) (tk tv : RL.WE) (E : EV) (src : Option Addr) (all : List D) (Z : Addr) (Q : Sto → Prop) : List D → List (Int × D) → Sto → Prop
  | [], acc, S => srcOk src all S ∧ S Z = some (.dic acc) ∧ Q S
  | d :: ds, acc, S => srcOk src all S ∧ g d E S fun E2 S2 => tt E2 S2 fun b S3 => if b = true then tk E2 S3 fun y S4 => tv E2 S4 fun z S5 => ∃ k, y = .int k ∧ S5 Z = some (.dic acc) ∧ valD acc k = none ∧ acc.length < sizeLine ∧ wDcL g tt tk tv E src all Z Q ds (acc ++ [(k, z)]) (S5.put Z (.dic (acc ++ [(k, z)]))) else wDcL g tt tk tv E src all Z Q ds acc S3
def wDc (wi : WI) (g : WG) (tt : WT) (tk tv : RL.WE) (vs : List Nat) : RL.WE := fun E S Qd => wi E S fun ds src S1 => ∀ Z, S1 Z = none → wDcL g tt tk tv (wipeD E vs) src ds Z (fun S2 => Qd (.ref Z) S2) ds [] (S1.put Z (.dic []))
end RL
/-! [elt for tg in iter if .. for tg1 in iter1 if ..] -/
namespace RL
open PySem PySem.Spec PyProof.Rows
open L2 hiding WE
/-- the inner loop; K: what follows it -/
def wLc2J (g1 : WG) (tt1 : WT) (te : RL.WE) (E : EV) (src : Option Addr) (all : List D) (Z : Addr) (K : List D → Sto → Prop) : List D → List D → Sto → Prop
  | [], acc, S => srcOk src all S ∧ K acc S
  | d :: ds, acc, S => srcOk src all S ∧ g1 d E S fun E2 S2 => tt1 E2 S2 fun b S3 => if b = true then te E2 S3 fun y S4 => S4 Z = some (.lst acc) ∧ acc.length < sizeLine ∧ wLc2J g1 tt1 te E src all Z K ds (acc ++ [y]) (S4.put Z (.lst (acc ++ [y]))) else wLc2J g1 tt1 te E src all Z K ds acc S3
def wLc2L (g : WG) (tt : WT) (wi1 : WI) (g1 : WG) (tt1 : WT) (te : RL.WE) (vs1 : List Nat) (E : EV) (src : Option Addr) (all : List D) (Z : Addr) (Q : Sto → Prop) : List D → List D → Sto → Prop
  | [], acc, S => srcOk src all S ∧ S Z = some (.lst acc) ∧ Q S
  | d :: ds, acc, S => srcOk src all S ∧ g d E S fun E2 S2 => tt E2 S2 fun b S3 => if b = true then wi1 E2 S3 fun ds1 src1 S4 => wLc2J g1 tt1 te (wipeD E2 vs1) src1 ds1 Z (fun acc' S' => wLc2L g tt wi1 g1 tt1 te vs1 E src all Z Q ds acc' S') ds1 acc S4 else wLc2L g tt wi1 g1 tt1 te vs1 E src all Z Q ds acc S3
def wLc2 (fz : Bool) (wi : WI) (g : WG) (tt : WT) (wi1 : WI) (g1 : WG) (tt1 : WT) (te : RL.WE) (vs vs1 : List Nat) : RL.WE := fun E S Qd => wi E S fun ds src S1 => ∀ Z, S1 Z = none → wLc2L g tt wi1 g1 tt1 te vs1 (wipeD E vs) src ds Z (fun S2 => if fz = true then asF Z S2 Qd else asL Z S2 Qd) ds [] (S1.put Z (.lst []))
section
variable {C : Cf} {B : Hp} {X : Cx} {pos : Pos}
theorem PIbase {tg iter : Expr} {w : WI} (h : ∀ B, DI C B X tg iter w) : PI X tg iter (fun σ1 H1 R1 => liftI X.K C H1 w σ1 H1 R1) := ⟨fun pins s σ H R I q => (h H).pi.run pins s σ H R I q⟩
theorem lift_lc2 {is is1 vs vs1 : List Nat} {wi wi1 : WI} {g g1 : WG} {tt tt1 : WT} {te : RL.WE} {fz : Bool} {σ : L2.St} {H : Hp} {Q : VK} (his : ∀ i ∈ is, i ∈ vs) (his1 : ∀ i ∈ is1, i ∈ vs1) (h : liftE X.K C B (wLc2 fz wi g tt wi1 g1 tt1 te vs vs1) σ H Q) :
    tLc2 (liftI X.K C B wi) (fun v σ1 H1 Q1 => liftG X.K C H1 is g v σ1 H1 Q1) (fun σ1 H1 Q1 => liftT X.K C H1 tt σ1 H1 Q1) (fun σ1 H1 R1 => liftI X.K C H1 wi1 σ1 H1 R1) (fun v σ1 H1 Q1 => liftG X.K C H1 is1 g1 v σ1 H1 Q1) (fun σ1 H1 Q1 => liftT X.K C H1 tt1 σ1 H1 Q1) (fun σ1 H1 Q1 => liftE X.K C H1 te σ1 H1 Q1) vs vs1 σ H (if fz = true then fzK Q else Q) := by
  obtain ⟨E, S, Qd, st, h, c⟩ := h
  refine ⟨E, S, _, st, h, fun ds src S1 J H1 e1 s1 fd h1 Z hZ => ?_⟩
  have h1 := h1 Z (s1.none hZ)
  refine ⟨fun i m H' => ∃ acc S', Ext C H1 H' ∧ SR X.K C S' H' ∧ i + m = ds.length ∧ wLc2L g tt wi1 g1 tt1 te vs1 (wipeD E vs) src ds Z (fun S2 => if fz = true then asF Z S2 Qd else asL Z S2 Qd) (ds.drop i) acc S', ?_, ?_⟩
  · exact ⟨ds.length, [], _, Ext.new hZ, s1.newL hZ .nil (Nat.zero_le _), Nat.zero_add _, by rw [List.drop_zero]; exact h1⟩
  · rintro i m H' ⟨acc, S', ex, sr, em, hw⟩
    by_cases hi : i < ds.length
    · right
      have hd : ds[i]? = some ds[i] := List.getElem?_eq_getElem hi
      rw [List.drop_eq_getElem_cons hi] at hw
      obtain ⟨so, hw⟩ := hw
      obtain ⟨_, f2⟩ := fd S' H' ex sr (srcOk_iff so)
      obtain ⟨go, yl⟩ := f2 i _ hd
      refine ⟨go, fun H3 => ∃ acc S3, Ext C H1 H3 ∧ SR X.K C S3 H3 ∧ wLc2L g tt wi1 g1 tt1 te vs1 (wipeD E vs) src ds Z (fun S2 => if fz = true then asF Z S2 Qd else asL Z S2 Qd) (ds.drop (i + 1)) acc S3,
        fun H3 ⟨acc3, S3, q1, q2, q4⟩ => ⟨m - 1, by omega, acc3, S3, q1, q2, by omega, q4⟩, fun x H2 hy => ?_⟩
      obtain ⟨e2, r2, s2⟩ := yl x H2 hy
      have stw : Stt X.K C H2 (wipeD E vs) S' (L2.wipe σ vs) H2 := ((((st.ext e1 s1).ext (ex.trans e2) s2).wipe vs).rebase (Ext.refl C H2))
      refine ⟨_, _, S', _, stw, r2, hw, fun E3 S3 σ3 H3 e3 st3 hwp q3 => ⟨?_, ?_⟩⟩
      · rw [hwp vs his]
        exact wipe_idem σ vs
      · refine ⟨E3, S3, _, st3.rebase (Ext.refl C H3), q3, fun b S4 H4 e4 s4 q4 => ?_⟩
        have ex4 : Ext C H1 H4 := ((ex.trans e2).trans e3).trans e4
        cases b with
        | false =>
          exact ⟨acc, S4, ex4, s4, q4⟩
        | true =>
          have st4 := ((st3.ext e4 s4).rebase (Ext.refl C H4))
          refine ⟨E3, S4, _, st4, q4, fun ds1 src1 S5 J1 H5 e5 s5 fd1 q5 => ?_⟩
          refine ⟨fun j k H' => ∃ acc S', Ext C H5 H' ∧ SR X.K C S' H' ∧ j + k = ds1.length ∧ wLc2J g1 tt1 te (wipeD E3 vs1) src1 ds1 Z (fun acc' S' => wLc2L g tt wi1 g1 tt1 te vs1 (wipeD E vs) src ds Z (fun S2 => if fz = true then asF Z S2 Qd else asL Z S2 Qd) (ds.drop (i + 1)) acc' S') (ds1.drop j) acc S', ⟨ds1.length, acc, S5, Ext.refl C H5, s5, Nat.zero_add _, by rw [List.drop_zero]; exact q5⟩, ?_⟩
          rintro j k H6 ⟨acc6, S6, ex6, sr6, em6, hw6⟩
          by_cases hj : j < ds1.length
          · right
            have hd1 : ds1[j]? = some ds1[j] := List.getElem?_eq_getElem hj
            rw [List.drop_eq_getElem_cons hj] at hw6
            obtain ⟨so6, hw6⟩ := hw6
            obtain ⟨_, f6⟩ := fd1 S6 H6 ex6 sr6 (srcOk_iff so6)
            obtain ⟨go6, yl6⟩ := f6 j _ hd1
            refine ⟨go6, fun H7 => ∃ acc S', Ext C H5 H7 ∧ SR X.K C S' H7 ∧ wLc2J g1 tt1 te (wipeD E3 vs1) src1 ds1 Z (fun acc' S' => wLc2L g tt wi1 g1 tt1 te vs1 (wipeD E vs) src ds Z (fun S2 => if fz = true then asF Z S2 Qd else asL Z S2 Qd) (ds.drop (i + 1)) acc' S') (ds1.drop (j + 1)) acc S',
              fun H7 ⟨acc7, S7, q1, q2, q4⟩ => ⟨k - 1, by omega, acc7, S7, q1, q2, by omega, q4⟩, fun x1 H7 hy1 => ?_⟩
            obtain ⟨e7, r7, s7⟩ := yl6 x1 H7 hy1
            have stw1 : Stt X.K C H7 (wipeD E3 vs1) S6 (L2.wipe σ3 vs1) H7 := ((((st4.ext e5 s5).ext (ex6.trans e7) s7).wipe vs1).rebase (Ext.refl C H7))
            refine ⟨_, _, S6, _, stw1, r7, hw6, fun E8 S8 σ8 H8 e8 st8 hwp8 q8 => ⟨?_, ?_⟩⟩
            · rw [hwp8 vs1 his1]
              exact wipe_idem σ3 vs1
            · refine ⟨E8, S8, _, st8.rebase (Ext.refl C H8), q8, fun b9 S9 H9 e9 s9 q9 => ?_⟩
              have ex9 : Ext C H5 H9 := ((ex6.trans e7).trans e8).trans e9
              cases b9 with
              | false => exact ⟨acc6, S9, ex9, s9, q9⟩
              | true =>
                refine ⟨E8, S9, _, ((st8.ext e9 s9).rebase (Ext.refl C H9)), q9, fun y SA vA HA eA rA sA qA => ?_⟩
                obtain ⟨z1, z2, z3⟩ := qA
                obtain ⟨xs, p1, p2, p3⟩ := sA.ob Z _ z1
                exact ⟨xs, p1, by rw [← p2.length]; exact z2, _, _, (ex9.trans eA).trans (Ext.wr p1), sA.wr z1 (p2.app (.cons rA .nil)) (by rw [List.length_append, ← p2.length]; exact z2), z3⟩
          · left
            rw [List.drop_eq_nil_of_le (Nat.le_of_not_lt hj)] at hw6
            obtain ⟨so6, hw6⟩ := hw6
            obtain ⟨f6, _⟩ := fd1 S6 H6 ex6 sr6 (srcOk_iff so6)
            have : j = ds1.length := by omega
            subst this
            exact ⟨f6, acc6, S6, (ex4.trans e5).trans ex6, sr6, hw6⟩
    · left
      rw [List.drop_eq_nil_of_le (Nat.le_of_not_lt hi)] at hw
      obtain ⟨so, hz, hw⟩ := hw
      obtain ⟨f1, _⟩ := fd S' H' ex sr (srcOk_iff so)
      have : i = ds.length := by omega
      subst this
      refine ⟨f1, ?_⟩
      obtain ⟨xs, p1, p2, p3⟩ := sr.ob Z _ hz
      cases fz with
      | true =>
        refine ⟨Z, xs, rfl, p1, fun ob => ?_⟩
        have e9 : Ext C H' (upd H' Z (.frz ob (.lst xs))) := Ext.fz p1
        exact c _ _ _ _ ((e1.trans ex).trans e9) (.lst upd_same (p2.ext e9) p3) (sr.fzS hz p1) (hw _ hz)
      | false => exact c _ _ _ _ (e1.trans ex) (.ref Z) sr hw
theorem de_lc2 (fz : Bool) {elt tg iter tg1 iter1 : Expr} {ifs ifs1 : List Expr} {scope : Scope} (own : List (Str × Nat)) (vs1 : List Nat) {wi wi1 : WI} {is is1 : List Nat} {g g1 : WG} {tt tt1 : WT} {te : RL.WE} (hc : X.calm = true) (hN : X.N.Nodup) (ok : BlkOk X.N X.env.scope scope own) (hi : DI C B X tg iter wi)
    (hg : ∀ (s : Shared) (H : Hp) (L : Addr) (cl : List (Str × Addr)) (fp : List Addr) (B : Hp), DG C B (X.blk s H scope (compEnvC scope cl L X.env) fp) tg is g) (ht : ∀ (s : Shared) (H : Hp) (L : Addr) (cl : List (Str × Addr)) (fp : List Addr) (B : Hp), DTs C B (X.blk s H scope (compEnvC scope cl L X.env) fp) ifs tt)
    (hi1 : ∀ (s : Shared) (H : Hp) (L : Addr) (cl : List (Str × Addr)) (fp : List Addr) (B : Hp), DI C B (X.blk s H scope (compEnvC scope cl L X.env) fp) tg1 iter1 wi1)
    (hg1 : ∀ (s : Shared) (H : Hp) (L : Addr) (cl : List (Str × Addr)) (fp : List Addr) (B : Hp), DG C B (X.blk s H scope (compEnvC scope cl L X.env) fp) tg1 is1 g1) (ht1 : ∀ (s : Shared) (H : Hp) (L : Addr) (cl : List (Str × Addr)) (fp : List Addr) (B : Hp), DTs C B (X.blk s H scope (compEnvC scope cl L X.env) fp) ifs1 tt1)
    (he : ∀ (s : Shared) (H : Hp) (L : Addr) (cl : List (Str × Addr)) (fp : List Addr) (B : Hp), DE C B (X.blk s H scope (compEnvC scope cl L X.env) fp) elt te) (his : ∀ i ∈ is, i ∈ own.map (·.2) := by decide) (his1 : ∀ i ∈ is1, i ∈ vs1 := by decide) (hv : ∀ i ∈ vs1, i ∈ own.map (·.2) := by decide) (hs : ∀ x, foldedSetIterable iter X.env x = pure x := by intro _; rfl) (hs1 : ∀ env x, foldedSetIterable iter1 env x = pure x := by intro _ _; rfl) :
    DE C B X (.ListComp elt [⟨tg, iter, ifs, 0⟩, ⟨tg1, iter1, ifs1, 0⟩] scope pos) (wLc2 fz wi g tt wi1 g1 tt1 te (own.map (·.2)) vs1) := by
  have p := pe_lc2 (pos := pos) (vs1 := vs1) (g := fun v σ1 H1 Q1 => liftG X.K C H1 is g v σ1 H1 Q1) (tt := fun σ1 H1 Q1 => liftT X.K C H1 tt σ1 H1 Q1) (wi1 := fun σ1 H1 R1 => liftI X.K C H1 wi1 σ1 H1 R1) (g1 := fun v σ1 H1 Q1 => liftG X.K C H1 is1 g1 v σ1 H1 Q1) (tt1 := fun σ1 H1 Q1 => liftT X.K C H1 tt1 σ1 H1 Q1) (te := fun σ1 H1 Q1 => liftE X.K C H1 te σ1 H1 Q1) hc hN hi.pi ok hv (fun s H L cl fp => PGbase (hg s H L cl fp)) (fun s H L cl fp => PTsbase (ht s H L cl fp)) (fun s H L cl fp => PIbase (hi1 s H L cl fp)) (fun s H L cl fp => PGbase (hg1 s H L cl fp)) (fun s H L cl fp => PTsbase (ht1 s H L cl fp)) (fun s H L cl fp => PEbase (he s H L cl fp)) hs hs1
  cases fz with
  | true => exact ⟨PEimp (PEfz p) fun σ H Q h => lift_lc2 his his1 h⟩
  | false => exact ⟨PEimp p fun σ H Q h => lift_lc2 his his1 h⟩
end
end RL
/-! dicts with int keys that are locked: their keys walked, d[k] -/
namespace RL
open PySem PySem.Spec PyProof.Rows
open L2 hiding WE
/-! ### a dict is locked -/
/-- ahead of a statement: the dict in slot i is locked from here on -/
def wLockD (i : Nat) (w : WS) : WS := fun D E S => match E[i]? with
  | some (some (.ref p)) => ∃ kvs, S p = some (.dic kvs) ∧ w D (E.set i (some (.dct (kvs.map (·.1)) (kvs.map (·.2))))) (S.del p)
  | _ => False
section
variable {C : Cf} {B : Hp} {X : Cx} {w : WS} {o i e : Expr} {wo wi we : RL.WE} {tg : Expr} {pos : Pos}
/-! for k in d -/
def wKeys (we : RL.WE) : WI := fun E S R => we E S fun d S1 => match d with
  | .dct ks _ => R (ks.map .int) none S1
  | _ => False
def kyD (R : List D → Option Addr → Sto → Prop) (d : D) (S1 : Sto) : Prop := match d with
  | .dct ks _ => R (ks.map .int) none S1
  | _ => False
theorem wKeys_eq {E : EV} {S : Sto} {R : List D → Option Addr → Sto → Prop} : wKeys we E S R = we E S fun d S1 => kyD R d S1 := rfl
theorem kyD_dct {R : List D → Option Addr → Sto → Prop} {ks : List Int} {ds : List D} {S : Sto} : kyD R (.dct ks ds) S = R (ks.map .int) none S := rfl
/-! d[k] -/
def dDx : R2D := fun x y S Q => match x, y with
  | .dct ks ds, .int k => ∃ d, valD (ks.zip ds) k = some d ∧ Q d S
  | _, _ => False
theorem dDx_eq {ks : List Int} {ds : List D} {k : Int} {S : Sto} {Q : KD} : dDx (.dct ks ds) (.int k) S Q = ∃ d, valD (ks.zip ds) k = some d ∧ Q d S := rfl
end
/-! ### sorted(hands), a list that may change -/
def dSortedL : RCD := fun ds S Q => match ds with
  | [.ref p] => ∃ hs : List Hnd, S p = some (.lst (hs.map hdD)) ∧ ∀ hs' : List Hnd, hs'.Perm hs → hs'.Pairwise (fun x y => ltH y x = false) → ∀ q, S q = none → Q (.ref q) (S.put q (.lst (hs'.map hdD)))
  | _ => False
theorem dSortedL_ref {p : Addr} {S : Sto} {Q : KD} : dSortedL [.ref p] S Q = ∃ hs : List Hnd, S p = some (.lst (hs.map hdD)) ∧ ∀ hs' : List Hnd, hs'.Perm hs → hs'.Pairwise (fun x y => ltH y x = false) → ∀ q, S q = none → Q (.ref q) (S.put q (.lst (hs'.map hdD))) := rfl
/-! ### isinstance of a list that may change -/
def dIsiL : RCD := fun ds S Q => match ds with
  | [.ref p, c] => match c with
    | .ty n => ∃ xs, S p = some (.lst xs) ∧ okT n = true ∧ Q (.bl (isT (.lst []) n)) S
    | .tup cs => ∃ xs ns, S p = some (.lst xs) ∧ (tyNs cs = some ns ∧ ns.all okT = true) ∧ Q (.bl (ns.any (isT (.lst [])))) S
    | _ => False
  | _ => dIsi ds S Q
theorem dIsiL_ty {p : Addr} {n : String} {S : Sto} {Q : KD} : dIsiL [.ref p, .ty n] S Q = ∃ xs, S p = some (.lst xs) ∧ okT n = true ∧ Q (.bl (isT (.lst []) n)) S := rfl
theorem dIsiL_tup {p : Addr} {cs : List D} {S : Sto} {Q : KD} : dIsiL [.ref p, .tup cs] S Q = ∃ xs ns, S p = some (.lst xs) ∧ (tyNs cs = some ns ∧ ns.all okT = true) ∧ Q (.bl (ns.any (isT (.lst [])))) S := rfl
theorem dIsiL_lst {ds : List D} {c : D} {S : Sto} {Q : KD} : dIsiL [.lst ds, c] S Q = dIsi [.lst ds, c] S Q := rfl
theorem cd_isiL {C : Cf} {X : Cx} : CallR X (.builtin "isinstance") (liftC X.K C dIsiL) := by
  rintro pins s σ H vs us Q I rv ⟨ds, S, Qd, rs, sr, h, c⟩
  have old : dIsi ds S Qd → wpAny (model X.prog X.w) X.A (call (.builtin "isinstance") us) (EP X pins σ Q) X.xe s := fun h => cd_isi pins s σ H vs us Q I rv ⟨ds, S, Qd, rs, sr, h, c⟩
  rcases ds with _ | ⟨d, _ | ⟨d2, _ | ⟨d3, ds⟩⟩⟩
  · exact old h
  · cases d <;> exact old h
  · cases d <;> first | exact old h | skip
    obtain ⟨v, v2, rfl, r, r2⟩ := two_of rfl rs
    cases r
    have ty : ∀ {p xs}, S p = some (.lst xs) → TyX X.K H (.ref p) (.type (tyN (.lst []))) := fun {p xs} e => by
      obtain ⟨ys, q1, _, _⟩ := sr.ob p xs e
      exact .base (.lst q1)
    cases d2 <;> first | exact False.elim h | skip
    · cases r2
      obtain ⟨xs, h1, h2, h3⟩ := h
      exact call_isi pins s σ H _ us Q I rv ⟨_, _, _, _, _, rfl, .ty _, ty h1, kit_isT rfl h2, c.now (.bl _) sr h3⟩
    · obtain ⟨xs, ns, h1, ⟨h2, h3⟩, h⟩ := h
      cases r2 with
      | tup a b z =>
        have e := tyNs_vals h2 b
        subst e
        obtain ⟨u1, u2, rfl, q1, q2⟩ := vals2 rv
        cases (show u2 = Value.ref _ from q2)
        obtain ⟨P, Z, hP, hx⟩ := kit_of I q1 (ty h1)
        obtain ⟨its, vv, ⟨⟨oc, od, dt, sl⟩, g1, g2, n, g3⟩, _⟩ := I.tuple a
        simp only at g2 g3
        subst g2 g3
        have e := vals_tys vv
        subst e
        exact PySem.W.kia_tup Z I.kIn hP g1 (kitAny_isT rfl h3) hx fun tk => ⟨.bl _, H, I.tok tk, rfl, c.now (.bl _) sr h⟩
  · cases d <;> exact old h
end RL
/-! a comprehension over zip(xs, ys) where xs may change -/
namespace RL
open PySem PySem.Spec PyProof.Rows
open L2 hiding WE
abbrev WIG := EV → Sto → (List D → (Sto → Prop) → Sto → Prop) → Prop
def FeedsG (K : PySem.W.Frag) (C : Cf) (J : It) (ds : List D) (G : Sto → Prop) (H0 : Hp) : Prop := ∀ S H, Ext C H0 H → SR K C S H → G S →
  J.stop ds.length H ∧ ∀ (i : Nat) (d : D), ds[i]? = some d → J.go i H ∧ ∀ x H', J.yld i H x H' → Ext C H H' ∧ DR K C H' d x ∧ SR K C S H'
def liftIG (K : PySem.W.Frag) (C : Cf) (H0 : Hp) (w : WIG) : TI := fun σ H R => ∃ E S Rd, Stt K C H0 E S σ H ∧ w E S Rd ∧ ∀ ds G S' J H', Ext C H H' → SR K C S' H' → FeedsG K C J ds G H' → Rd ds G S' → R J H'
structure DIG (C : Cf) (B : Hp) (X : Cx) (tg iter : Expr) (w : WIG) : Prop where
  pi : PI X tg iter (liftIG X.K C B w)
def wLcLG (g : WG) (tt : WT) (te : RL.WE) (E : EV) (G : Sto → Prop) (Z : Addr) (Q : Sto → Prop) : List D → List D → Sto → Prop
  | [], acc, S => G S ∧ S Z = some (.lst acc) ∧ Q S
  | d :: ds, acc, S => G S ∧ g d E S fun E2 S2 => tt E2 S2 fun b S3 => if b = true then te E2 S3 fun y S4 => S4 Z = some (.lst acc) ∧ acc.length < sizeLine ∧ wLcLG g tt te E G Z Q ds (acc ++ [y]) (S4.put Z (.lst (acc ++ [y]))) else wLcLG g tt te E G Z Q ds acc S3
def wLcG (wi : WIG) (g : WG) (tt : WT) (te : RL.WE) (vs : List Nat) : RL.WE := fun E S Qd => wi E S fun ds G S1 => ∀ Z, S1 Z = none → wLcLG g tt te (wipeD E vs) G Z (fun S2 => asF Z S2 Qd) ds [] (S1.put Z (.lst []))
section
variable {C : Cf} {B : Hp} {X : Cx} {pos : Pos}
theorem lift_lcG {is vs : List Nat} {wi : WIG} {g : WG} {tt : WT} {te : RL.WE} {σ : L2.St} {H : Hp} {Q : VK} (his : ∀ i ∈ is, i ∈ vs) (h : liftE X.K C B (wLcG wi g tt te vs) σ H Q) :
    tLc (liftIG X.K C B wi) (fun v σ1 H1 Q1 => liftG X.K C H1 is g v σ1 H1 Q1) (fun σ1 H1 Q1 => liftT X.K C H1 tt σ1 H1 Q1) (fun σ1 H1 Q1 => liftE X.K C H1 te σ1 H1 Q1) vs σ H (fzK Q) := by
  obtain ⟨E, S, Qd, st, h, c⟩ := h
  refine ⟨E, S, _, st, h, fun ds G S1 J H1 e1 s1 fd h1 Z hZ => ?_⟩
  have h1 := h1 Z (s1.none hZ)
  refine ⟨fun i m H' => ∃ acc S', Ext C H1 H' ∧ SR X.K C S' H' ∧ i + m = ds.length ∧ wLcLG g tt te (wipeD E vs) G Z (fun S2 => asF Z S2 Qd) (ds.drop i) acc S', ?_, ?_⟩
  · exact ⟨ds.length, [], _, Ext.new hZ, s1.newL hZ .nil (Nat.zero_le _), Nat.zero_add _, by rw [List.drop_zero]; exact h1⟩
  · rintro i m H' ⟨acc, S', ex, sr, em, hw⟩
    by_cases hi : i < ds.length
    · right
      have hd : ds[i]? = some ds[i] := List.getElem?_eq_getElem hi
      rw [List.drop_eq_getElem_cons hi] at hw
      obtain ⟨so, hw⟩ := hw
      obtain ⟨_, f2⟩ := fd S' H' ex sr so
      obtain ⟨go, yl⟩ := f2 i _ hd
      refine ⟨go, fun H3 => ∃ acc S3, Ext C H1 H3 ∧ SR X.K C S3 H3 ∧ wLcLG g tt te (wipeD E vs) G Z (fun S2 => asF Z S2 Qd) (ds.drop (i + 1)) acc S3,
        fun H3 ⟨acc3, S3, q1, q2, q4⟩ => ⟨m - 1, by omega, acc3, S3, q1, q2, by omega, q4⟩, fun x H2 hy => ?_⟩
      obtain ⟨e2, r2, s2⟩ := yl x H2 hy
      have stw : Stt X.K C H2 (wipeD E vs) S' (L2.wipe σ vs) H2 := ((((st.ext e1 s1).ext (ex.trans e2) s2).wipe vs).rebase (Ext.refl C H2))
      refine ⟨_, _, S', _, stw, r2, hw, fun E3 S3 σ3 H3 e3 st3 hwp q3 => ⟨?_, ?_⟩⟩
      · rw [hwp vs his]
        exact wipe_idem σ vs
      · refine ⟨E3, S3, _, st3.rebase (Ext.refl C H3), q3, fun b S4 H4 e4 s4 q4 => ?_⟩
        have ex4 : Ext C H1 H4 := ((ex.trans e2).trans e3).trans e4
        cases b with
        | false =>
          exact ⟨acc, S4, ex4, s4, q4⟩
        | true =>
          refine ⟨E3, S4, _, ((st3.ext e4 s4).rebase (Ext.refl C H4)), q4, fun y S5 v5 H5 e5 r5 s5 q5 => ?_⟩
          obtain ⟨z1, z2, z3⟩ := q5
          obtain ⟨xs, p1, p2, p3⟩ := s5.ob Z _ z1
          exact ⟨xs, p1, by rw [← p2.length]; exact z2, _, _, (ex4.trans e5).trans (Ext.wr p1), s5.wr z1 (p2.app (.cons r5 .nil)) (by rw [List.length_append, ← p2.length]; exact z2), z3⟩
    · left
      rw [List.drop_eq_nil_of_le (Nat.le_of_not_lt hi)] at hw
      obtain ⟨so, hz, hw⟩ := hw
      obtain ⟨f1, _⟩ := fd S' H' ex sr so
      have : i = ds.length := by omega
      subst this
      refine ⟨f1, ?_⟩
      obtain ⟨xs, p1, p2, p3⟩ := sr.ob Z _ hz
      refine ⟨Z, xs, rfl, p1, fun ob => ?_⟩
      have e9 : Ext C H' (upd H' Z (.frz ob (.lst xs))) := Ext.fz p1
      exact c _ _ _ _ ((e1.trans ex).trans e9) (.lst upd_same (p2.ext e9) p3) (sr.fzS hz p1) (hw _ hz)
theorem de_lcG {elt tg iter : Expr} {ifs : List Expr} {scope : Scope} (own : List (Str × Nat)) {wi : WIG} {is : List Nat} {g : WG} {tt : WT} {te : RL.WE} (hc : X.calm = true) (hN : X.N.Nodup) (ok : BlkOk X.N X.env.scope scope own) (hi : DIG C B X tg iter wi)
    (hg : ∀ (s : Shared) (H : Hp) (L : Addr) (cl : List (Str × Addr)) (fp : List Addr) (B : Hp), DG C B (X.blk s H scope (compEnvC scope cl L X.env) fp) tg is g) (ht : ∀ (s : Shared) (H : Hp) (L : Addr) (cl : List (Str × Addr)) (fp : List Addr) (B : Hp), DTs C B (X.blk s H scope (compEnvC scope cl L X.env) fp) ifs tt)
    (he : ∀ (s : Shared) (H : Hp) (L : Addr) (cl : List (Str × Addr)) (fp : List Addr) (B : Hp), DE C B (X.blk s H scope (compEnvC scope cl L X.env) fp) elt te) (his : ∀ i ∈ is, i ∈ own.map (·.2) := by decide) (hs : ∀ x, foldedSetIterable iter X.env x = pure x := by intro _; rfl) :
    DE C B X (.ListComp elt [⟨tg, iter, ifs, 0⟩] scope pos) (wLcG wi g tt te (own.map (·.2))) := by
  have p := pe_lc (pos := pos) (g := fun v σ1 H1 Q1 => liftG X.K C H1 is g v σ1 H1 Q1) (tt := fun σ1 H1 Q1 => liftT X.K C H1 tt σ1 H1 Q1) (te := fun σ1 H1 Q1 => liftE X.K C H1 te σ1 H1 Q1) hc hN hi.pi ok (fun s H L cl fp => PGbase (hg s H L cl fp)) (fun s H L cl fp => PTsbase (ht s H L cl fp)) (fun s H L cl fp => PEbase (he s H L cl fp)) hs
  exact ⟨PEimp (PEfz p) fun σ H Q h => lift_lcG his h⟩
end
/-! zip -/
def wZipG (wa : WA) : WIG := fun E S R => wa E S fun ds S1 => match ds with
  | [.ref p, .lst ys] => ∃ xs, S1 p = some (.lst xs) ∧ (xs.length ≤ sizeLine ∧ ys.length ≤ sizeLine → R (zipD xs ys) (fun S => S p = some (.lst xs)) S1)
  | [.lst xs, .lst ys] => xs.length ≤ sizeLine ∧ ys.length ≤ sizeLine → R (zipD xs ys) (fun _ => True) S1
  | _ => False
def zgD (ds : List D) (S1 : Sto) (R : List D → (Sto → Prop) → Sto → Prop) : Prop := match ds with
  | [.ref p, .lst ys] => ∃ xs, S1 p = some (.lst xs) ∧ (xs.length ≤ sizeLine ∧ ys.length ≤ sizeLine → R (zipD xs ys) (fun S => S p = some (.lst xs)) S1)
  | [.lst xs, .lst ys] => xs.length ≤ sizeLine ∧ ys.length ≤ sizeLine → R (zipD xs ys) (fun _ => True) S1
  | _ => False
theorem wZipG_eq {w : WA} {E : EV} {S : Sto} {R : List D → (Sto → Prop) → Sto → Prop} : wZipG w E S R = w E S fun ds S1 => zgD ds S1 R := rfl
theorem zgD_ref {p : Addr} {ys : List D} {S : Sto} {R : List D → (Sto → Prop) → Sto → Prop} : zgD [.ref p, .lst ys] S R = ∃ xs, S p = some (.lst xs) ∧ (xs.length ≤ sizeLine ∧ ys.length ≤ sizeLine → R (zipD xs ys) (fun S => S p = some (.lst xs)) S) := rfl
theorem zgD_lst {xs ys : List D} {S : Sto} {R : List D → (Sto → Prop) → Sto → Prop} : zgD [.lst xs, .lst ys] S R = (xs.length ≤ sizeLine ∧ ys.length ≤ sizeLine → R (zipD xs ys) (fun _ => True) S) := rfl
theorem feedsG_zip {K : PySem.W.Frag} {C : Cf} {H1 : Hp} {a b : Addr} {xs ys : List D} {G : Sto → Prop} (f1 : ∀ S2 H2, Ext C H1 H2 → SR K C S2 H2 → G S2 → ∃ ws, SqL K H2 a ws ∧ DRs K C H2 xs ws) (f2 : ∀ H2, Ext C H1 H2 → ∃ ws, SqL K H2 b ws ∧ DRs K C H2 ys ws) : FeedsG K C (Itz K a b) (zipD xs ys) G H1 := fun S2 H2 ex sr hG => by
  obtain ⟨ws, w1, w2⟩ := f1 S2 H2 ex sr hG
  obtain ⟨us, u1, u2⟩ := f2 H2 ex
  refine ⟨by rw [zipD_length]; exact ⟨_, _, w1, u1, by rw [w2.length, u2.length]; omega⟩, fun i d hd => ?_⟩
  obtain ⟨x, y, h1, h2, rfl⟩ := zipD_get hd
  obtain ⟨vx, q1, rx⟩ := w2.get h1
  obtain ⟨vy, q3, ry⟩ := u2.get h2
  refine ⟨⟨_, _, vx, vy, w1, u1, q1, q3⟩, fun v H' ⟨T, x', y', z1, z2, z3, z4, z5⟩ => ?_⟩
  have v1 := z4 _ w1
  have v2 := z5 _ u1
  rw [q1] at v1
  rw [q3] at v2
  cases v1
  cases v2
  subst z1 z3
  have e2 : Ext C H2 (upd H2 T (.tup [vx, vy])) := Ext.new z2
  exact ⟨e2, .tup (.inl (.inl upd_same)) (.cons (rx.ext e2) (.cons (ry.ext e2) .nil)) (by show 2 ≤ sizeLine; decide), sr.new z2 trivial⟩
section
variable {C : Cf} {B : Hp} {X : Cx} {tg : Expr} {pos p : Pos}
theorem PIimpG {tg iter : Expr} {t t' : TI} (p : PI X tg iter t) (h : ∀ σ H R, t' σ H R → t σ H R) : PI X tg iter t' := ⟨fun pins s σ H R I q => p.run pins s σ H R I (h σ H R q)⟩
theorem di_zipG {a b : Expr} {wa : WA} {tpos : Pos} {elts : List Expr} {kk : Nat} (hm : X.mg "zip" = none) (ha : DA C B X [a, b] wa) (hg : Gl X "zip" := by rfl)
    (hs : starEach [a, b] X.env = (false, eval a X.env) :: starEach [b] X.env := by rfl) (hpl : (backTo pos (starEach [b] X.env)).any (·.1) = false := by rfl) : DIG C B X (.Tuple elts kk tpos) (.Call (.Name "zip" p) [a, b] [] pos) (wZipG wa) :=
  ⟨PIimpG (RZ.pi_zipA hg hm ha.pa hs hpl) fun σ H R ⟨E, S, Rd, st, h, c⟩ => ⟨E, S, _, st, h, fun ds S1 vs H1 e1 r1 s1 h1 => by
    rcases ds with _ | ⟨d, _ | ⟨d2, _ | ⟨d3, ds⟩⟩⟩
    · exact False.elim h1
    · cases d <;> exact False.elim h1
    · obtain ⟨v, v2, rfl, ra, rb⟩ := two_of rfl r1
      cases d <;> first | exact False.elim h1 | skip
      · rename_i pp
        cases d2 <;> first | exact False.elim h1 | skip
        rename_i ys
        obtain ⟨xs, hx, h1⟩ := h1
        cases ra
        cases rb with
        | lst a2 b2 k2 =>
          obtain ⟨ws, w1, w2, w3⟩ := s1.ob _ _ hx
          refine ⟨_, _, _, _, rfl, .inl ⟨.inl (.inl w1), .inl (.inr ⟨_, a2⟩), c _ _ _ _ _ e1 s1 (feedsG_zip (fun S2 H2 ex sr hG => ?_) fun H2 ex => ⟨_, .inl (.inr ⟨_, ex.frz _ _ _ a2⟩), b2.ext ex⟩) (h1 ⟨by rw [w2.length]; exact w3, by rw [b2.length]; exact k2⟩)⟩⟩
          obtain ⟨us, u1, u2, u3⟩ := sr.ob _ _ hG
          exact ⟨us, .inl (.inl u1), u2⟩
      · rename_i xs
        cases d2 <;> first | exact False.elim h1 | skip
        rename_i ys
        cases ra with
        | lst a1 b1 k1 =>
          cases rb with
          | lst a2 b2 k2 =>
            exact ⟨_, _, _, _, rfl, .inl ⟨.inl (.inr ⟨_, a1⟩), .inl (.inr ⟨_, a2⟩), c _ _ _ _ _ e1 s1 (feedsG_zip (fun S2 H2 ex sr hG => ⟨_, .inl (.inr ⟨_, ex.frz _ _ _ a1⟩), b1.ext ex⟩) fun H2 ex => ⟨_, .inl (.inr ⟨_, ex.frz _ _ _ a2⟩), b2.ext ex⟩) (h1 ⟨by rw [b1.length]; exact k1, by rw [b2.length]; exact k2⟩)⟩⟩
    · cases d <;> first | exact False.elim h1 | skip
      all_goals (cases d2 <;> exact False.elim h1)⟩⟩
end
theorem lc_mapG {g : WG} {te : RL.WE} {E : EV} {Q : KD} {S : Sto} {G : Sto → Prop} (f : D → D) {ds : List D} (hG : ∀ S', S.Le S' → G S') (hl : ds.length ≤ sizeLine) (hs : ∀ d ∈ ds, ∀ (S1 : Sto) (K1 : KD), S.Le S1 → K1 (f d) S1 → g d E S1 fun E2 S2 => te E2 S2 K1) (h : Q (.lst (ds.map f)) S) :
    ∀ Z, S Z = none → wLcLG g wYes te E G Z (fun S2 => asF Z S2 Q) ds [] (S.put Z (.lst [])) := fun Z hZ => by
  have key : ∀ (es acc : List D), acc.length + es.length ≤ sizeLine → (∀ d ∈ es, d ∈ ds) → acc ++ es.map f = ds.map f → wLcLG g wYes te E G Z (fun S2 => asF Z S2 Q) es acc (S.put Z (.lst acc)) := by
    intro es
    induction es with
    | nil =>
      intro acc _ _ e
      refine ⟨hG _ (Sto.le_put hZ), Sto.put_same, fun a ha => ?_⟩
      rw [Sto.put_same] at ha
      cases ha
      rw [List.map_nil, List.append_nil] at e
      rw [Sto.del_put hZ, e]
      exact h
    | cons d es ih =>
      intro acc hz hm e
      refine ⟨hG _ (Sto.le_put hZ), hs d (hm d List.mem_cons_self) _ _ (Sto.le_put hZ) ⟨Sto.put_same, by simp only [List.length_cons] at hz; omega, ?_⟩⟩
      rw [Sto.put_put]
      refine ih _ (by rw [List.length_append]; simp only [List.length_cons, List.length_nil] at hz ⊢; omega) (fun x hx => hm x (List.mem_cons_of_mem _ hx)) ?_
      rw [← e, List.map_cons, List.append_assoc]
      rfl
  exact key ds [] (by simpa using hl) (fun _ h => h) rfl
end RL
/-! len and repr of clocks, str of ints, f-strings; specs side by side -/
namespace RL
open PySem PySem.Spec PyProof.Rows
open L2 hiding WE
theorem FnOk.or {P : Program} {w : World} {K : PySem.W.Frag} {mg : Str → Option Value} {base : Heap} {C : Cf} {k : Nat} {f : Addr} {fd : FuncData} {ps : List Str} {sp1 sp2 : DSp} (a : DOk P w K mg base C k f fd ps sp1) (b : DOk P w K mg base C k f fd ps sp2) : DOk P w K mg base C k f fd ps (fun ds S Q Xd => sp1 ds S Q Xd ∨ sp2 ds S Q Xd) := by
  have key : ∀ {vs H Q E}, liftSp K C (fun ds S Q Xd => sp1 ds S Q Xd ∨ sp2 ds S Q Xd) vs H Q E → liftSp K C sp1 vs H Q E ∨ liftSp K C sp2 vs H Q E := fun {vs H Q E} ⟨ds, S, Qd, Xd, r, sr, h, c⟩ => by
    rcases h with h | h
    · exact .inl ⟨ds, S, Qd, Xd, r, sr, h, c⟩
    · exact .inr ⟨ds, S, Qd, Xd, r, sr, h, c⟩
  refine ⟨fun vs H Q E h => ?_, fun A outer s H args us vs Q E h1 h2 h3 h4 h => ?_⟩
  · rcases key h with h | h
    · exact a.len _ _ _ _ h
    · exact b.len _ _ _ _ h
  · rcases key h with h | h
    · exact a.run A outer s H args us vs Q E h1 h2 h3 h4 h
    · exact b.run A outer s H args us vs Q E h1 h2 h3 h4 h
theorem FnOk.up {P : Program} {w : World} {K : PySem.W.Frag} {mg : Str → Option Value} {base : Heap} {C : Cf} {k : Nat} {f : Addr} {fd : FuncData} {ps : List Str} {sp : DSp} (a : DOk P w K mg base C k f fd ps sp) : DOk P w K mg base C (k + 1) f fd ps sp :=
  ⟨a.len, fun A outer s H args us vs Q E h1 h2 h3 h4 h => a.run A outer s H args us vs Q E (h1.mono (by omega)) h2 h3 h4 h⟩
section
variable {C : Cf} {X : Cx} {pins : List (Addr × Obj)} {σ : L2.St} {H : Hp} {s : Shared} {k : Nat} {ps : List Str} {sp : DSp}
def dLenK (sp : DSp) : RCD := fun ds S Q => match ds with
  | [x] => isClk x = true ∧ sp [x] S (fun v S' => ∃ n, v = .int n ∧ 0 ≤ n ∧ n < 2 ^ 63 ∧ Q (.int n) S') fun _ _ => False
  | _ => False
theorem dLenK_eq {sp : DSp} {x : D} {S : Sto} {Q : KD} : dLenK sp [x] S Q = (isClk x = true ∧ sp [x] S (fun v S' => ∃ n, v = .int n ∧ 0 ≤ n ∧ n < 2 ^ 63 ∧ Q (.int n) S') fun _ _ => False) := rfl
def dReprK (sp : DSp) : RCD := fun ds S Q => match ds with
  | [x] => isClk x = true ∧ sp [x] S (fun v S' => ∃ y, v = .str y ∧ Q (.str y) S') fun _ _ => False
  | _ => False
theorem dReprK_eq {sp : DSp} {x : D} {S : Sto} {Q : KD} : dReprK sp [x] S Q = (isClk x = true ∧ sp [x] S (fun v S' => ∃ y, v = .str y ∧ Q (.str y) S') fun _ _ => False) := rfl
/-! str(int) -/
def dStr : RCD := fun ds S Q => match ds with
  | [.int i] => i.natAbs.log2 < 1920 ∧ Q (.str (toString i)) S
  | _ => False
theorem dStr_int {i : Int} {S : Sto} {Q : KD} : dStr [.int i] S Q = (i.natAbs.log2 < 1920 ∧ Q (.str (toString i)) S) := rfl
end
/-! f-strings -/
def fmtD (x : D) (S : Sto) (Q : KD) : Prop := match x with
  | .int i => i.natAbs.log2 < 1920 ∧ Q (.str (toString i)) S
  | .str y => y.length ≤ sizeLine ∧ Q (.str y) S
  | _ => False
theorem fmtD_int {i : Int} {S : Sto} {Q : KD} : fmtD (.int i) S Q = (i.natAbs.log2 < 1920 ∧ Q (.str (toString i)) S) := rfl
theorem fmtD_str {y : Str} {S : Sto} {Q : KD} : fmtD (.str y) S Q = (y.length ≤ sizeLine ∧ Q (.str y) S) := rfl
def wFmt (we : RL.WE) : RL.WE := fun E S Q => we E S fun x S1 => fmtD x S1 Q
def wJs : List RL.WE → Str → EV → Sto → (Str → Sto → Prop) → Prop
  | [], acc, _, S, Q => Q acc S
  | t :: ts, acc, E, S, Q => t E S fun x S1 => ∃ y, x = .str y ∧ (acc ++ y).length ≤ sizeLine ∧ wJs ts (acc ++ y) E S1 Q
theorem wJs_nil {acc : Str} {E : EV} {S : Sto} {Q : Str → Sto → Prop} : wJs [] acc E S Q = Q acc S := rfl
theorem wJs_cons {t : RL.WE} {ts : List RL.WE} {acc : Str} {E : EV} {S : Sto} {Q : Str → Sto → Prop} : wJs (t :: ts) acc E S Q = t E S fun x S1 => ∃ y, x = .str y ∧ (acc ++ y).length ≤ sizeLine ∧ wJs ts (acc ++ y) E S1 Q := rfl
def wJoined (ws : List RL.WE) : RL.WE := fun E S Q => wJs ws Str.empty E S fun out S1 => Q (.str out) S1
section
variable {C : Cf} {B : Hp} {X : Cx} {e v1 v2 : Expr} {es rest : List Expr} {we : RL.WE} {ws : List RL.WE} {pos : Pos}
theorem de_fmt (he : DE C B X e we) : DE C B X (.FormattedValue e (-1) none pos) (wFmt we) :=
  ⟨PEimp (pe_fmt he.pe) fun σ H Q ⟨E, S, Qd, st, h, c⟩ => ⟨E, S, _, st, h, fun x S1 v H1 e1 r1 s1 h1 => by
    cases x <;> first | exact False.elim h1 | skip
    · cases r1
      exact .inr ⟨_, rfl, h1.1, c _ _ _ _ e1 (.str _) s1 h1.2⟩
    · cases r1
      exact .inl ⟨_, rfl, h1.1, c _ _ _ _ e1 (.str _) s1 h1.2⟩⟩⟩
structure DJ (C : Cf) (B : Hp) (X : Cx) (es : List Expr) (ws : List RL.WE) : Prop where
  pj : PJ X es (ws.map fun w => liftE X.K C B w)
theorem dj_nil : DJ C B X [] [] := ⟨.nil⟩
theorem dj_cons (h : DE C B X e we) (r : DJ C B X es ws) : DJ C B X (e :: es) (we :: ws) := ⟨.cons h.pe r.pj⟩
theorem js_lift : ∀ (ws : List RL.WE) (acc : Str) (σ : L2.St) (H : Hp) {E : EV} {S : Sto} (st : Stt X.K C B E S σ H) (Q : Str → Hp → Prop) (Qd : Str → Sto → Prop), wJs ws acc E S Qd → (∀ out S' H', Ext C H H' → SR X.K C S' H' → Qd out S' → Q out H') → tJs (ws.map fun w => liftE X.K C B w) acc σ H Q
  | [], acc, σ, H, E, S, st, Q, Qd, h, c => c acc S H (Ext.refl C H) st.sr h
  | w :: ws, acc, σ, H, E, S, st, Q, Qd, h, c => ⟨E, S, _, st, h, fun x S1 v H1 e1 r1 s1 ⟨y, ex, hl, h1⟩ => by
    subst ex
    cases r1
    exact ⟨y, rfl, hl, js_lift ws _ σ H1 (st.ext e1 s1) Q Qd h1 fun out S' H' e' sr' q => c out S' H' (e1.trans e') sr' q⟩⟩
theorem de_joined (h : DJ C B X (v1 :: v2 :: rest) ws) : DE C B X (.JoinedStr (v1 :: v2 :: rest) pos) (wJoined ws) :=
  ⟨PEimp (pe_joined h.pj) fun σ H Q ⟨E, S, Qd, st, h, c⟩ => js_lift ws _ σ H st (fun out H1 => Q (.str out) H1) (fun out S1 => Qd (.str out) S1) h fun out S' H' e' sr' q => c _ _ _ _ e' (.str out) sr' q⟩
end
end RL
/-! xs + ys, a list that may change -/
namespace RL
open PySem PySem.Spec PyProof.Rows
open L2 hiding WE
def dAddLL : R2D := fun x y S Q => match x, y with
  | .ref p, .lst ys => ∃ xs, S p = some (.lst xs) ∧ xs.length + ys.length ≤ sizeLine ∧ ∀ q, S q = none → Q (.ref q) (S.put q (.lst (xs ++ ys)))
  | _, _ => False
theorem dAddLL_eq {p : Addr} {ys : List D} {S : Sto} {Q : KD} : dAddLL (.ref p) (.lst ys) S Q = ∃ xs, S p = some (.lst xs) ∧ xs.length + ys.length ≤ sizeLine ∧ ∀ q, S q = none → Q (.ref q) (S.put q (.lst (xs ++ ys))) := rfl
theorem od_addLL {C : Cf} {X : Cx} : OpR X (binaryOp .Add) (lift2 X.K C dAddLL) := by
  rintro pins s σ H x y v u Q I rx ry ⟨dx, dy, S, Qd, r1, r2, sr, h, c⟩
  cases dx <;> first | exact False.elim h | skip
  cases dy <;> first | exact False.elim h | skip
  obtain ⟨xs, hp, hl, h⟩ := h
  obtain ⟨ws, w1, w2, w3⟩ := sr.ob _ _ hp
  cases r1
  cases r2 with
  | lst a2 b2 z2 =>
    exact op_catR pins s σ H _ _ v u Q I rx ry ⟨_, _, _, _, rfl, rfl, .inl w1, .inr ⟨_, a2⟩, by rw [← w2.length, ← b2.length]; exact hl, fun p hp => c.newL hp (w2.app b2) (by rw [List.length_append, ← w2.length, ← b2.length]; exact hl) sr (h p (sr.none hp))⟩
end RL
/-! tuple(range(a, b)) -/
namespace RL
open PySem PySem.Spec PyProof.Rows
open L2 hiding WE
section
variable {C : Cf} {B : Hp} {X : Cx} {a b : Expr} {wa wb : RL.WE} {p p2 pos pos2 : Pos}
def trgD (x y : D) (S : Sto) (Q : KD) : Prop := match x, y with
  | .int i, .int j => RgOk i j ∧ Q (.tup (rngD i (j - i).toNat)) S
  | _, _ => False
def wTRg (wa wb : RL.WE) : RL.WE := fun E S Q => wa E S fun x S1 => wb E S1 fun y S2 => trgD x y S2 Q
theorem trgD_int {i j : Int} {S : Sto} {Q : KD} : trgD (.int i) (.int j) S Q = (RgOk i j ∧ Q (.tup (rngD i (j - i).toNat)) S) := rfl
end
end RL
/-! enumerate(a tuple) -/
namespace RL
open PySem PySem.Spec PyProof.Rows
open Sem (wp)
open AutoSeq1 (wpAny_loadPart')
theorem meets_enum_newT (l : Addr) (items : Array Value) (n : Nat) (dct : Option Addr) (sl : Array (Option Value)) :
    Meets (Builtin.«enumerate.__new__» ⟨[.type "enumerate", .ref l], []⟩) (fun _ R s => s.heap.get? l = some { cls := .type "tuple", dict := dct, data := .seq items n, slots := sl } ∧
      R (.ok (.ret (.ref (s.heap.push { cls := .type "tuple_iterator", data := .fields #[.ref l, .int 0 0] }).objs.size)))
        { s with heap := (s.heap.push { cls := .type "tuple_iterator", data := .fields #[.ref l, .int 0 0] }).push { cls := .type "enumerate", data := .fields #[.none, .bool false, .ref s.heap.objs.size, rawInt 0, .none, .none] } }) :=
  .of_wp fun prog w A R s h => by
    obtain ⟨hp, g, d, tk, os⟩ := s; obtain ⟨hl, h⟩ := h
    have hsub := sub_enumerate
    have hL : Heap.IsTuple (Shared.heap ⟨hp, g, d, tk, os⟩) l items := ⟨_, hl, rfl, n, rfl⟩
    wp_walk using wpAny_loadPart' hl
    refine wpAny_stack_any fun st => wpAny_pure ?_
    split
    · rename_i c _ _ _ _ _
      cases (c == Value.type "enumerate")
      · wp_walk using wpAny_loadPart' hl, wpAny_pyIter_tuple hL
        exact ⟨_, rfl, h⟩
      · wp_walk using wpAny_loadPart' hl, wpAny_pyIter_tuple hL
        exact ⟨_, rfl, h⟩
    · wp_walk using wpAny_loadPart' hl, wpAny_pyIter_tuple hL
      exact ⟨_, rfl, h⟩
section
variable {prog : Program} {w : World} {A : Around} {E : Value → Shared → Prop} {s : Shared}
theorem call_enum_tuple {l : Addr} {items : Array Value} {Q : Value → Shared → Prop} (hL : s.heap.IsTuple l items)
    (h : ∀ h', IsEnum h' (s.heap.objs.size + 1) s.heap.objs.size 0 .none → h'.IsTupleIter s.heap.objs.size l 0 → h'.objs.size = s.heap.objs.size + 2 →
      (∀ b o, s.heap.get? b = some o → h'.get? b = some o) → Q (.ref (s.heap.objs.size + 1)) { s with heap := h' }) :
    wpAny (model prog w) A (call (.type "enumerate") [.ref l]) Q E s := by
  obtain ⟨⟨c, dct, dt, sl⟩, hl, hc, n, hd⟩ := hL
  replace hc : c = .type "tuple" := hc
  replace hd : dt = .seq items n := hd
  subst hc hd
  refine callType_new F.called_enumerate (by decide) (F.typeCall_enumerate_1 _) (F.newCall_enumerate_1 _) (fun obj => F.args_object_init_2 obj _) F.entry_enumerate_new
    (meets_enum_newT l items n dct sl) ⟨hl, ?_⟩
  have hz : (s.heap.push { cls := .type "tuple_iterator", data := .fields #[.ref l, .int 0 0] }).objs.size = s.heap.objs.size + 1 := Heap.size_push ..
  show _ ∧ _
  rw [hz]
  have he : IsEnum ((s.heap.push { cls := .type "tuple_iterator", data := .fields #[.ref l, .int 0 0] }).push
      { cls := .type "enumerate", data := .fields #[.none, .bool false, .ref s.heap.objs.size, rawInt 0, .none, .none] }) (s.heap.objs.size + 1) s.heap.objs.size 0 .none := by
    have := Heap.get?_push_size (s.heap.push { cls := .type "tuple_iterator", data := .fields #[.ref l, .int 0 0] })
      (o := { cls := .type "enumerate", data := .fields #[.none, .bool false, .ref s.heap.objs.size, rawInt 0, .none, .none] }) rfl
    rw [hz] at this; exact this
  refine ⟨⟨_, he, rfl⟩, h _ he ⟨_, Heap.get?_push_of_some _ (Heap.get?_push_size _ rfl), rfl, rfl⟩ (by rw [Heap.size_push, hz]) fun b o x => Heap.get?_push_of_some _ (Heap.get?_push_of_some _ x)⟩
theorem pyNext_enum_endT {e it l : Addr} {i : Nat} {items : Array Value} {old : Value} {Q : Option Value → Shared → Prop} (hh : A.handled = none)
    (he : IsEnum s.heap e it i old) (hit : s.heap.IsTupleIter it l i) (hl : s.heap.IsTuple l items) (hx : items[i]? = none)
    (hQ : ∀ h', Heap.ExtBut it s.heap h' → Q none { s with heap := h' }) : wpAny (model prog w) A (pyNext (.ref e)) Q E s := by
  have hT : s.TypeIs (.ref e) "enumerate" := ⟨_, he, rfl⟩
  unfold pyNext
  refine wpAny_bind (wpAny_attempt (wpAny_callSpecial?_slot (name := Str.ofString "__next__") hT F.slot_enumerate_next
    (wpAny_call_entry F.slot_enumerate_next hT F.entry_enumerate_next ?_ (F.args_enumerate_next_1 _))))
  show wpAny _ _ (field (.ref e) 2 >>= _) _ _ _
  refine wpAny_bind (wpAny_field he rfl (x := .ref it) rfl ?_)
  refine wpAny_bind (wpAny_nextOf_tuple_end hh hit hl hx fun h' x he' hx' => ?_)
  obtain ⟨o, ho, hc⟩ := hx'
  refine wpAny_bind (wpAny_isInstance (T := "StopIteration") (b := true) ⟨o, ho, hc⟩ isSubtype_stop ?_)
  exact wpAny_pure (hQ _ he')
end
end RL
namespace L2
open PySem PySem.Spec PyProof.Rows
/-- the tuple at a as it stands at each turn, each item in a new pair -/
def IteT (K : PySem.W.Frag) (a : Addr) : It :=
  ⟨fun i H => ∃ (xs : List V) (x : V), SqT K H a xs ∧ xs[i]? = some x, fun i H v H' => ∃ T x, v = .ref T ∧ H T = none ∧ H' = upd H T (.tup [.int (i : Nat), x]) ∧ ∀ xs, SqT K H a xs → xs[i]? = some x, fun i H => ∃ xs : List V, SqT K H a xs ∧ xs.length ≤ i⟩
theorem turn_enumT {P : Program} {w : World} {K : PySem.W.Frag} {elts : List Expr} {kk : Nat} {tpos : Pos} (a e it : Addr) (hai : a ≠ it) :
    Turn P w K (.Tuple elts kk tpos) (IteT K a) [e, it] e (fun i h => (∃ old, IsEnum h e it ((i : Nat) : Int) old) ∧ h.IsTupleIter it a i ∧ e ≠ it) where
  mem := by simp
  obj := fun i h st b hb => by
    obtain ⟨⟨old, he⟩, ⟨o, ho, hc, hd⟩, _⟩ := st
    have e' : b = e ∨ b = it := by simpa using hb
    rcases e' with z | z
    · rw [z]; exact ⟨_, he, fun v q => nomatch q⟩
    · rw [z]; exact ⟨o, ho, fun v q => by rw [hd] at q; cases q⟩
  keep := fun i h h' st k => let ⟨⟨old, he⟩, hi, hne⟩ := st; ⟨⟨old, k e (by simp) _ he⟩, let ⟨o, ho, r⟩ := hi; ⟨o, k it (by simp) o ho, r⟩, hne⟩
  item := by
    intro X hP hw hK hc i pins s σ H E I hf st hg
    subst hP hw hK
    obtain ⟨⟨old, he⟩, hit, hne⟩ := st
    obtain ⟨xs, x, hq, hx⟩ := hg
    obtain ⟨its, rv, p, hz⟩ := I.tuple hq
    obtain ⟨u, hu, ru⟩ := rv.get hx
    have hel : e < s.heap.objs.size := Heap.lt_size he
    have hil : it < s.heap.objs.size := by obtain ⟨_, q, _⟩ := hit; exact Heap.lt_size q
    have hea : e ≠ a := fun z => by
      obtain ⟨o, ho, hcl, _⟩ := p
      rw [← z, he] at ho
      obtain rfl := Option.some.inj ho
      injection hcl with q
      exact absurd q (by decide)
    have hp : s.heap.IsTuple a its.toArray := p
    have D := Draws.tuple (prog := X.prog) (w := X.w) (A := X.A.in1) (show X.A.in1.handled = none from I.ok.hd hc) it a hai its.toArray
    have hil2 : i < its.toArray.size := by
      have := (List.getElem?_eq_some_iff.mp hu).1
      simpa using this
    refine wpAny_pyNext_enum_itemD D he ⟨hit, hp⟩ hil2 hne (by simp [hne, hea]) fun u' h' tk hu' ho st' hT hsz hk => ?_
    obtain rfl : u' = u := by
      have : its[i]? = some u' := by simpa using hu'
      rw [hu] at this
      exact (Option.some.inj this).symm
    obtain ⟨hit', _⟩ := st'
    refine ⟨_, rfl, wpAny_letOwnedTupleGo_enum (s := { s with heap := h', toks := tk + 1 }) ho fun h'' he' sb => ?_⟩
    have hT2 : h''.get? s.heap.objs.size = some { cls := .type "tuple", data := .seq #[.int i tk, u'] } := (sb.2 _ (Nat.ne_of_gt hel)).trans hT
    have new : ObjOk X.prog X.w (upd H s.heap.objs.size (.tup [.int (i : Nat), x])) h'' s.heap.objs.size (.tup [.int (i : Nat), x]) :=
      ⟨by show 2 ≤ sizeLine; decide, [.int i tk, u'], .cons ⟨_, rfl⟩ (.cons ru .nil), ⟨_, hT2, rfl, _, rfl⟩⟩
    have I1 : Inv X pins σ (upd H s.heap.objs.size (.tup [.int (i : Nat), x])) { s with heap := h'', toks := tk + 1 } :=
      I.turnedNew (t' := tk + 1) (ch := [e, it]) (fun b ob hb q => (sb.2 b (fun z => hb (by simp [z]))).trans (hk b ob (fun z => hb (by simp [z])) (fun z => hb (by simp [z])) q)) hf (Nat.le_refl _) new
    refine ⟨.ref s.heap.objs.size, _, I1, rfl, ⟨_, x, rfl, I.hok.fresh (Nat.le_refl _), rfl, fun ys hy => by rw [I.tuple_inj hy hq]; exact hx⟩, ⟨⟨u', ?_⟩, ?_, hne⟩, fun b hb => ?_⟩
    · have e1 : ((i + 1 : Nat) : Int) = (i : Int) + 1 := by omega
      rw [e1]; exact he'
    · obtain ⟨o, ho2, r⟩ := hit'
      exact ⟨o, (sb.2 it (Ne.symm hne)).trans ho2, r⟩
    · have hb' : b < s.heap.objs.size := by
        have e' : b = e ∨ b = it := by simpa using hb
        rcases e' with z | z
        · rw [z]; exact hel
        · rw [z]; exact hil
      rw [upd_ne (Nat.ne_of_lt hb')]
      exact (hf b hb).1
  done := by
    intro X hP hw hK hc i pins s σ H E I hf st hg
    subst hP hw hK
    obtain ⟨⟨old, he⟩, hit, hne⟩ := st
    obtain ⟨xs, hq, hx⟩ := hg
    obtain ⟨its, rv, p, hz⟩ := I.tuple hq
    obtain ⟨f0, f1, f2, f3, f4, f5⟩ := hf it (by simp)
    have hl := rv.length
    have hp : s.heap.IsTuple a its.toArray := p
    exact RL.pyNext_enum_endT (I.ok.hd hc) he hit hp (by simp; omega) fun h' eb => ⟨rfl, I.turned (t' := s.toks) (fun b o hb q => eb b o hb q) f0 f1 f3 f4 f5⟩
  self := fun A i s Q E st h => let ⟨⟨_, he⟩, _⟩ := st; wpAny_pyIter_enum he h
def iEnumT (K : PySem.W.Frag) (ta : TA) : TI := fun σ H R => ta σ H fun vs H1 => ∃ a xs, vs = [.ref a] ∧ ((SqL K H1 a xs ∧ R (Ite K a) H1) ∨ (SqT K H1 a xs ∧ R (IteT K a) H1))
theorem pi_enumT {X : Cx} {e : Expr} {ta : TA} {p pos tpos : Pos} {elts : List Expr} {kk : Nat} (hg : Gl X "enumerate") (hm : X.mg "enumerate" = none) (ha : PA X [e] ta) (hs : starEach [e] X.env = [(false, eval e X.env)] := by rfl) :
    PI X (.Tuple elts kk tpos) (.Call (.Name "enumerate" p) [e] [] pos) (iEnumT X.K ta) := by
  refine ⟨fun pins s σ H R I h => ?_⟩
  refine Call_ (ld_blt I hg hm boot_enumerate (PyProof.Rows.callWith_type1 (thn (ha.run pos pins s σ H _ I h) fun us s1 ⟨vs, H1, I1, r1, q1⟩ => ?_) hs rfl))
  obtain ⟨a, xs, ex, q1⟩ := q1
  subst ex
  cases r1 with
  | cons r rr =>
    cases rr
    cases r
    rcases q1 with ⟨hq, q⟩ | ⟨hq, q⟩
    · obtain ⟨its, rv, p', hz⟩ := I1.list hq
      refine call_enumerate_list p'.isList fun h' he hit hsz hk => wpAny_pyIter_enum he ?_
      have I2 : Inv X pins σ H1 { s1 with heap := h' } := I1.kept (t' := s1.toks) hk
      refine ⟨s1.heap.objs.size + 1, [s1.heap.objs.size + 1, s1.heap.objs.size], _, _, H1, rfl, I2, turn_enum a (s1.heap.objs.size + 1) s1.heap.objs.size, ⟨⟨.none, he⟩, hit, Nat.succ_ne_self _⟩, fun b hb => ?_, q⟩
      have e' : b = s1.heap.objs.size + 1 ∨ b = s1.heap.objs.size := by simpa using hb
      have hle : s1.heap.objs.size ≤ b := by
        rcases e' with z | z
        · rw [z]; exact Nat.le_add_right _ _
        · rw [z]; exact Nat.le_refl _
      exact I1.fpOk hle (I1.hok.fresh hle)
    · obtain ⟨its, rv, p', hz⟩ := I1.tuple hq
      have hp : s1.heap.IsTuple a its.toArray := p'
      refine RL.call_enum_tuple hp fun h' he hit hsz hk => wpAny_pyIter_enum he ?_
      have I2 : Inv X pins σ H1 { s1 with heap := h' } := I1.kept (t' := s1.toks) hk
      have hai : a ≠ s1.heap.objs.size := fun z => by
        obtain ⟨o, ho, _⟩ := p'
        exact absurd z (Nat.ne_of_lt (Heap.lt_size ho))
      refine ⟨s1.heap.objs.size + 1, [s1.heap.objs.size + 1, s1.heap.objs.size], _, _, H1, rfl, I2, turn_enumT a (s1.heap.objs.size + 1) s1.heap.objs.size hai, ⟨⟨.none, he⟩, hit, Nat.succ_ne_self _⟩, fun b hb => ?_, q⟩
      have e' : b = s1.heap.objs.size + 1 ∨ b = s1.heap.objs.size := by simpa using hb
      have hle : s1.heap.objs.size ≤ b := by
        rcases e' with z | z
        · rw [z]; exact Nat.le_add_right _ _
        · rw [z]; exact Nat.le_refl _
      exact I1.fpOk hle (I1.hok.fresh hle)
end L2
namespace RL
open PySem PySem.Spec PyProof.Rows
open L2 hiding WE
theorem feeds_enumT {K : PySem.W.Frag} {C : Cf} {H0 : Hp} {a : Addr} {xs : List V} {ds : List D} (h : SqT K H0 a xs) (hx : ∀ H, Ext C H0 H → SqT K H a xs) (r : DRs K C H0 ds xs) : Feeds K C (IteT K a) (enumD 0 ds) none H0 := fun S H ex sr _ => by
  have hl : SqT K H a xs := hx H ex
  have r1 := r.ext ex
  refine ⟨⟨xs, hl, by rw [enumD_length, r.length]; exact Nat.le_refl _⟩, fun i d hd => ?_⟩
  obtain ⟨y, hy, rfl⟩ := enumD_get hd
  obtain ⟨v, hv, rv⟩ := r1.get hy
  refine ⟨⟨xs, v, hl, hv⟩, fun x H' hh => ?_⟩
  obtain ⟨T, z, rfl, hT, rfl, e⟩ := hh
  have e1 := e xs hl
  rw [hv] at e1
  obtain rfl := Option.some.inj e1
  have e2 : Ext C H (upd H T (.tup [.int (i : Nat), v])) := Ext.new hT
  exact ⟨e2, .tup (.inl (.inl upd_same)) (.cons (by rw [Nat.zero_add]; exact .int _) (.cons (rv.ext e2) .nil)) (by show 2 ≤ sizeLine; decide), sr.new hT trivial⟩
def enTD (R : List D → Option Addr → Sto → Prop) (S : Sto) : List D → Prop
  | [.lst xs] => xs.length ≤ sizeLine → R (enumD 0 xs) none S
  | [.tup xs] => xs.length ≤ sizeLine → R (enumD 0 xs) none S
  | _ => False
def wEnumT (wa : WA) : WI := fun E S R => wa E S fun ds S1 => enTD R S1 ds
theorem enTD_lst {R : List D → Option Addr → Sto → Prop} {S : Sto} {xs : List D} : enTD R S [.lst xs] = (xs.length ≤ sizeLine → R (enumD 0 xs) none S) := rfl
theorem enTD_tup {R : List D → Option Addr → Sto → Prop} {S : Sto} {xs : List D} : enTD R S [.tup xs] = (xs.length ≤ sizeLine → R (enumD 0 xs) none S) := rfl
theorem di_enumerateT {C : Cf} {B : Hp} {X : Cx} {e : Expr} {wa : WA} {p pos tpos : Pos} {elts : List Expr} {kk : Nat} (hm : X.mg "enumerate" = none) (ha : DA C B X [e] wa) (hg : Gl X "enumerate" := by rfl) (hs : starEach [e] X.env = [(false, eval e X.env)] := by rfl) :
    DI C B X (.Tuple elts kk tpos) (.Call (.Name "enumerate" p) [e] [] pos) (wEnumT wa) :=
  ⟨PIimp (pi_enumT hg hm ha.pa hs) fun σ H R ⟨E, S, Rd, st, h, c⟩ => ⟨E, S, _, st, h, fun ds S1 vs H1 e1 r1 s1 h1 => by
    rcases ds with _ | ⟨d, _ | ⟨d2, ds⟩⟩
    · exact False.elim h1
    · obtain ⟨v, rfl, ra⟩ := one_of rfl r1
      cases d <;> first | exact False.elim h1 | skip
      · cases ra with
        | tup a b z => exact ⟨_, _, rfl, .inr ⟨a, c _ _ _ _ _ e1 s1 (feeds_enumT a (fun H ex => ex.sqT a) b) (h1 (by rw [b.length]; exact z))⟩⟩
      · cases ra with
        | lst a b z => exact ⟨_, _, rfl, .inl ⟨.inl (.inr ⟨_, a⟩), c _ _ _ _ _ e1 s1 (feeds_enum a b) (h1 (by rw [b.length]; exact z))⟩⟩
    · cases d <;> exact False.elim h1⟩⟩
end RL
/-! y = [elt for tg in iter] whose elt may raise: the exception leaves the block -/
namespace RL
open PySem PySem.Spec PyProof.Rows
open L2 hiding WE
section
variable {M : Model} {A : Around} {E : Value → Shared → Prop} {s : Shared} {env : Env}
/-- a block's end, its store made; or its exception, the frame known -/
def cpX (M : Model) (A : Around) (E : Value → Shared → Prop) (u : Value → Sem Unit) (Q : Value → Shared → Prop) (fr : Option Addr) (acc : Value) (L : Addr) : Result → Shared → Prop
  | .ok _, s1 => wpAny M A (u acc) (fun _ s2 => ∃ m, s2.heap.Ns L m ∧ ∀ h2, Heap.SameBut L s2.heap h2 → Q .none { s2 with heap := h2 }) E s1
  | .error x, s1 => ∃ m, s1.heap.Ns L m ∧ ∀ h2, Heap.SameBut L s1.heap h2 → ∀ ce : Env, ce.frame = fr → wpAny M A (passOn "comprehension.variables-let-go" x ce : Sem Value) (fun _ _ => False) E { s1 with heap := h2 }
theorem comp_useX {e : Expr} {scope : Scope} {pos : Pos} {na ft : Sem Value} {g : Comprehension} {gs : List Comprehension} {cl : List (Str × Addr)} {u : Value → Sem Unit} {Q : Value → Shared → Prop}
    (hcl : clausesOf e = g :: gs) (hs : ∀ x, foldedSetIterable g.iter env x = pure x) (hclos : closureFor scope env = pure cl) (hk : scope.kind = .function) (hn : ∀ x ∈ scope.names, x.2 = .local → scope.names.lookup x.1 = some .local)
    (h : wpAny M A ft (fun x s1 => wpAny M A (pyIter x) (fun it s2 => wpAny M A na (fun acc s3 => wpAny M A (newFunctionEnv scope env.globals cl [] env.qual none .none (some env)) (fun ce s4 =>
      ce.frame = env.frame ∧ codeAny M A (.compStart e 0 it acc { ce with scope := relabel scope env }) (cpX M A E u Q env.frame acc ce.locals) s4) E s3) E s2) E s1) E s) :
    wpAny M A (comprehension e scope env pos na false ft (some u)) Q E s := by
  unfold comprehension
  rw [hclos, hcl]
  apply wpAny_bind
  refine wpAny_mono h (fun x s1 h1 => ?_) fun _ _ z => z
  apply wpAny_bind
  apply wpAny_standAt
  apply wpAny_bind
  refine wpAny_of_eq (hs x) ?_
  apply wpAny_bind
  apply wpAny_holding
  refine wpAny_mono h1 (fun it s2 h2 => ?_) fun _ _ z => z
  apply wpAny_standIf
  apply wpAny_bind
  refine wpAny_mono h2 (fun acc s3 h3 => ?_) fun _ _ z => z
  apply wpAny_bind
  apply wpAny_pure
  apply wpAny_bind
  refine wpAny_mono h3 (fun ce s4 h4 => ?_) fun _ _ z => z
  obtain ⟨hf, h4⟩ := h4
  dsimp only
  have own1 : ∀ x ∈ (scope.names.filter fun x => (x.2 == .local || x.2 == .cell) && x.1 != (".0" : Str)).reverse, x.2 = .local → Env.kindOf { ce with scope := relabel scope env } x.1 = some .local :=
    fun x hx hl => lookup_relabel_local (hn x (List.mem_filter.mp (List.mem_reverse.mp hx)).1 hl)
  refine wpAny_holding (wpAny_bind (wpAny_attempt (wpAny_holding (wpAny_run (codeAny_mono h4 fun r s5 hr => ?_)))))
  cases r with
  | ok f =>
    apply wpAny_bind
    apply wpAny_rule
    apply wpAny_bind
    apply wpAny_holding
    refine wpAny_mono hr (fun _ s6 h6 => ?_) fun _ _ z => z
    obtain ⟨m, hm, h6⟩ := h6
    refine wpAny_bind (wpAny_comp_letGo (cenv := { ce with scope := relabel scope env }) hk _ s6 m (fun x hx hl => ?_) hm fun h2 m2 _ sb => wpAny_pure (h6 h2 sb))
    rcases List.mem_append.mp hx with z | z
    · exact own1 x (List.mem_of_mem_drop z) hl
    · exact own1 x (List.mem_of_mem_take z) hl
  | error x =>
    obtain ⟨m, hm, h6⟩ := hr
    exact wpAny_bind (wpAny_holding (wpAny_comp_letGo (cenv := { ce with scope := relabel scope env }) hk _ s5 m own1 hm fun h2 m2 _ sb => wpAny_mono (h6 h2 sb _ hf) (fun _ _ z => z.elim) fun _ _ z => z))
end
/-! ### contexts that differ in their wish about exceptions -/
section
variable {X : Cx} {xe : Value → Shared → Prop} {pins : List (Addr × Obj)} {σ : L2.St} {H : Hp} {s : Shared}
theorem ok_xe (o : X.Ok) : L2.Cx.Ok { X with xe := xe } := ⟨o.mod, o.kind, o.glob, o.blt, o.above, o.inj, o.has, o.cab, o.hd, o.frames, o.stk, o.exf, o.bs, o.bsz, o.noex, o.exfs, o.funs, o.frf⟩
theorem ok_ex (o : L2.Cx.Ok { X with xe := xe }) : X.Ok := ⟨o.mod, o.kind, o.glob, o.blt, o.above, o.inj, o.has, o.cab, o.hd, o.frames, o.stk, o.exf, o.bs, o.bsz, o.noex, o.exfs, o.funs, o.frf⟩
theorem inv_xe (I : Inv X pins σ H s) : Inv { X with xe := xe } pins σ H s := ⟨ok_xe I.ok, I.os, I.bare, I.base, I.loc, I.cell, I.free, I.freeC, I.pin, I.hok, I.len⟩
theorem inv_ex (I : Inv { X with xe := xe } pins σ H s) : Inv X pins σ H s := ⟨ok_ex I.ok, I.os, I.bare, I.base, I.loc, I.cell, I.free, I.freeC, I.pin, I.hok, I.len⟩
end
abbrev blx (X : Cx) (s : Shared) (H : Hp) (scope : Scope) (ce : Env) (fp : List Addr) (xe : Value → Shared → Prop) : Cx := { X.blk s H scope ce fp with xe := xe }
/-- what is wanted of an exception that a call lets out, within a block -/
structure DY (C : Cf) (B : Hp) (X : Cx) (X0 : Xn → Sto → Prop) : Prop where
  ex : ∃ W : WX, (∀ σ, PassesAt (L2N.CX X.prog X.w) X σ (L2.WE W σ)) ∧ ∀ xn E S σ H dd, Stt X.K C B E S σ H → XR X.K C H xn dd → X0 xn S → W (.ref xn.cls) (some dd) σ H
theorem de_callY {C : Cf} {B : Hp} {X : Cx} {k : Nat} {ps : List Str} {sp : DSp} {x : Str} {p pos : Pos} {e : Expr} {es : List Expr} {wa : WA} {X0 : Xn → Sto → Prop} (d : Df X.prog X.w X.K X.mg X.base C x k ps sp) (hr : Room k X.A) (dy : DY C B X X0) (ha : DA C B X (e :: es) wa) (hg : Gl X x := by rfl)
    (hdb : (x == ("__debug__" : Str)) = false := by decide) (he : starEach (e :: es) X.env = (false, eval e X.env) :: starEach es X.env := by rfl) (hpl : (backTo pos (starEach es X.env)).any (·.1) = false := by rfl) :
    DE C B X (.Call (.Name x p) (e :: es) [] pos) (wCall sp [] (fun xn _ S => X0 xn S) wa) := by
  obtain ⟨f, fd, F, hm, hk, hb⟩ := d.ex
  obtain ⟨W, pa, hW⟩ := dy.ex
  refine ⟨PEimp (pe_callSD (E := L2.WE W) F hr hg hm hk hb (dvs := []) .nil pa ha.pa hdb he hpl) fun σ H Q ⟨E, S, Qd, st, h, c⟩ => ⟨E, S, _, st, h, fun ds S1 vs H1 e1 r1 s1 h1 => ?_⟩⟩
  refine ⟨ds ++ [], S1, Qd, _, r1.app .nil, s1, h1, c.mono e1, fun xn S' dd H' e2 s2 x2 q2 => ?_⟩
  exact hW xn E S' σ H' dd (st.ext (e1.trans e2) s2) x2 q2
theorem note_same {u : Value} {a b : Env} (h : a.frame = b.frame) : noteFrame u a = noteFrame u b := by
  unfold noteFrame PySem.frameOf
  rw [h]
/-- noted, whatever it was -/
theorem sky_noted {M : Model} {A : Around} {E : Value → Shared → Prop} {s : Shared} {B : Heap} {env : Env} {outer : List Env} {L a : Addr} {Z : Obj → Prop} {Q : Unit → Shared → Prop} (hZ : PXN.Steady1 Z) (hfr : A.frames = some (env :: outer)) (hf : env.frame = some L)
    (x : Sky B (env :: outer) a Z L s.heap) (hQ : ∀ h2, HandSPX.HeldZ B (env :: outer) a Z L h2 → s.heap.UpToSlots h2 → Q () { s with heap := h2 }) : wpAny M A (noteFrame (.ref a) env) Q E s := by
  rcases x with ⟨hB, hn, hl, oe, vs, he, hz, hd, h1⟩ | fl | hh
  · exact PXN.look_newZ hZ hfr hl hf he hB hn hd h1 hz hQ
  · exact PXN.looks_onZ hZ hfr hf fl hQ
  · exact HandSPX.againZ hf hh.2.2.2 (hQ s.heap hh (Heap.UpToSlots.refl _))
/-- the heap without one address -/
theorem hide1 (h : Heap) (L : Addr) : ∃ G : Heap, (∀ b o, G.get? b = some o → h.get? b = some o ∧ b ≠ L) ∧ (∀ b o, h.get? b = some o → b ≠ L → G.get? b = some o) := by
  refine ⟨PySem.W.hideAll h [L], fun b o e => ⟨PySem.W.of_hideAll _ e, fun z => ?_⟩, fun b o e n => PySem.W.hideAll_get _ e (by simpa using n)⟩
  rw [z, PySem.W.hideAll_none _ List.mem_cons_self] at e
  cases e
theorem get_hidden {h G : Heap} {L b : Addr} (g : ∀ b o, G.get? b = some o → h.get? b = some o ∧ b ≠ L) (e : h.get? b = none) : G.get? b = none := by
  cases q : G.get? b with
  | none => rfl
  | some o =>
    have := (g b o q).1
    rw [e] at this
    cases this
theorem held_hidden {B G h1 h2 : Heap} {l : List Env} {a L f : Addr} {Z : Obj → Prop} {oL : Obj} (g : ∀ b o, G.get? b = some o → B.get? b = some o ∧ b ≠ L) (sb : Heap.SameBut L h1 h2) (eL : h1.get? L = some oL) (dL : ∀ vs, oL.data ≠ .fields vs) (nf : L ∉ frs l) (x : HandSPX.HeldZ B l a Z f h1) : HandSPX.HeldZ G l a Z f h2 := by
  obtain ⟨k1, k2, k3, oe, vs, T, oT, ts, he, hz, hd, h1e, hnT, hTe, hT, hdT, h3⟩ := x
  have na : a ≠ L := fun z => by
    rw [z, eL] at he
    cases he
    exact dL _ hd
  have nT : T ≠ L := fun z => by
    rw [z, eL] at hT
    cases hT
    exact dL _ hdT
  refine ⟨fun b o e => ?_, get_hidden g k2, ?_, oe, vs, T, oT, ts, by rw [sb.2 a na]; exact he, hz, hd, h1e, get_hidden g hnT, hTe, by rw [sb.2 T nT]; exact hT, hdT, h3⟩
  · obtain ⟨e1, n⟩ := g b o e
    rw [sb.2 b n]
    exact k1 b o e1
  · have key : ∀ l : List Env, L ∉ frs l → h1.FunFrames B l → h2.FunFrames G l := fun l => by
      induction l with
      | nil => exact fun _ _ => trivial
      | cons env rest ih =>
        intro nf ff
        obtain ⟨hk, ⟨L', o, hf, hn, ho, hd'⟩, hr⟩ := ff
        have n1 : L' ≠ L := fun z => nf (List.mem_filterMap.mpr ⟨env, List.mem_cons_self, by rw [hf, z]⟩)
        refine ⟨hk, ⟨L', o, hf, get_hidden g hn, by rw [sb.2 L' n1]; exact ho, hd'⟩, ih (fun z => nf ?_) hr⟩
        obtain ⟨e, he, q⟩ := List.mem_filterMap.mp z
        exact List.mem_filterMap.mpr ⟨e, List.mem_cons_of_mem _ he, q⟩
    exact key l nf k3
section
variable {C : Cf} {B : Hp} {X : Cx} {pos : Pos}
/-- an exception of the block, handed to the def -/
theorem leave_blk {u : Value} {s1 s3 : Shared} {H H3 Hx : Hp} {pins px : List (Addr × Obj)} {σ σx : L2.St} {sx : Shared} {E : EV} {S : Sto} {X0 : Xn → Sto → Prop} {scope : Scope} {ce : Env} {fp : List Addr} {uu : Value → Sem Unit} {Qf : Value → Shared → Prop} {acc : Value}
    (dx : DX C B X (fun xn _ S => X0 xn S)) (hst : X.stack = X.env :: X.outer) (hf : X.env.frame = some X.env.locals) (I3 : Inv X pins σ H3 s3) (f3 : ∀ b ∈ fp, FpOk X pins H3 b ∧ b < s3.heap.objs.size) (st : Stt X.K C B E S σ H) (cL : ce.locals = s3.heap.objs.size) (cF : ce.frame = X.env.frame)
    (Ix : Inv (X.blk s3 H3 scope ce fp) px σx Hx sx) (cx : L2N.CX X.prog X.w X.stack Hx sx (L2.WE (fun cls d _ H' => ∃ xn S' dd, cls = .ref xn.cls ∧ d = some dd ∧ Ext C H H' ∧ SR X.K C S' H' ∧ XR X.K C H' xn dd ∧ X0 xn S') σx) u s1) :
    notedBy (model X.prog X.w) X.A ce (fun e s' => cpX (model X.prog X.w) X.A X.xe uu Qf X.env.frame acc s3.heap.objs.size (.error e) s') u s1 := by
  generalize hL : s3.heap.objs.size = L at cL ⊢
  obtain ⟨W0, tk, hW0⟩ := dx.ex
  have nC : Hx L = none := by
    have z : Hx ce.locals = none := Ix.free
    rwa [cL] at z
  have gX : FpOk X pins Hx L := I3.fpOk (Nat.le_of_eq hL) nC
  obtain ⟨g0, g1, g2, g3, g4, g5⟩ := gX
  have nfr : L ∉ frs X.stack := fun z => by
    rw [hst] at z
    obtain ⟨e, he, q⟩ := List.mem_filterMap.mp z
    rcases List.mem_cons.mp he with rfl | he
    · rw [hf] at q
      exact g1 (Option.some.inj q).symm
    · exact g2 (List.mem_filterMap.mpr ⟨e, he, q⟩)
  obtain ⟨m, hn, _⟩ := Ix.loc
  have hn : sx.heap.Ns ce.locals m := hn
  rw [cL] at hn
  obtain ⟨oC, es, ep, hoC, hdC, skC, nfC⟩ := hn
  -- the exception, and that the block's table is not among what is tracked
  obtain ⟨a, B', H', cls, d, rfl, fl, hok, ub, na, os, ag, hW⟩ := cx
  have nC' : H' L = none := ub.free L oC hoC nC
  have eC : s1.heap.get? L = some oC := fl.1 _ _ (ub.keep L oC hoC nC nfr)
  have I7 : Inv X [] σ Hx sx := (I3.call' (ch := fp) Ix.os Ix.base Ix.hok Ix.bare fun b hb => ⟨(f3 b hb).1.2.2.2.1, (f3 b hb).1.2.1, (f3 b hb).1.2.2.2.2.1, (f3 b hb).1.2.2.2.2.2⟩).pins_of fun p hp => nomatch hp
  have x := L2N.XE.of_call (W := fun cls d σ1 H1 => σ1 = σ ∧ H1 L = none ∧ ∃ xn S' dd, cls = .ref xn.cls ∧ d = some dd ∧ Ext C H H1 ∧ SR X.K C S' H1 ∧ XR X.K C H1 xn dd ∧ X0 xn S') (E := fun cls d H1 => H1 L = none ∧ ∃ xn S' dd, cls = .ref xn.cls ∧ d = some dd ∧ Ext C H H1 ∧ SR X.K C S' H1 ∧ XR X.K C H1 xn dd ∧ X0 xn S') I7 (fun cls d H1 h => ⟨rfl, h⟩) (u := .ref a) (s' := s1) ⟨a, B', H', cls, d, rfl, fl, hok, ub, na, os, ag, nC', hW⟩
  clear hW hok ub fl os ag na nC'
  obtain ⟨a', B0, sI, p0, σ0, H0, cls0, d0, ea, I0, nb, up, sky, na, os, ag, rfl, nC0, xn, S', dd, rfl, rfl, ex, sr, xr, x0⟩ := x
  obtain rfl : a = a' := by injection ea
  rw [hst] at sky
  have hfr : X.A.frames = some (X.env :: X.outer) := by rw [I3.ok.frames, hst]
  show wpAny _ X.A (noteFrame (.ref a) ce) _ _ s1
  rw [note_same cF]
  refine sky_noted L2N.Zn.steady hfr hf sky fun h1 hh up1 => ?_
  have dC : ∀ vs, oC.data ≠ .fields vs := fun vs z => by rw [hdC] at z; cases z
  obtain ⟨sl, eC1⟩ := up1 L oC eC dC
  refine ⟨m, ⟨_, es, ep, eC1, hdC, skC, nfC⟩, fun h2 sb ce' hce => ?_⟩
  rw [← hst] at hh
  obtain ⟨G, gB, gB'⟩ := hide1 B0 L
  obtain ⟨GI, gI, gI'⟩ := hide1 sI.heap L
  have hh2 : HandSPX.HeldZ G X.stack a (L2N.Zn (.ref xn.cls) (some dd)) X.env.locals h2 := held_hidden gB sb eC1 dC nfr hh
  obtain ⟨k1, k2, k3, oe, vs, T, oT, ts, he, hz, hd, h1e, hnT, hTe, hT, hdT, h3⟩ := id hh2
  unfold PySem.passOn
  refine wpAny_bind (wpAny_field (s := { s1 with heap := h2 }) he hd h1e ?_)
  rw [if_neg (show ¬ ((Value.ref T == Value.none) = true) from by simp)]
  have fin : wpAny (model X.prog X.w) X.A (setFlight (.ref a) ce'.frame) (fun _ s4 => wpAny (model X.prog X.w) X.A (throw (.ref a) : Sem Value) (fun _ _ => False) X.xe s4) X.xe { s1 with heap := h2 } := by
    rw [hce, hf]
    refine HandSPX.setFlight_onZ (s := { s1 with heap := h2 }) hh2 fun h4 hh4 up4 => wpAny_throw (tk _ _ ?_)
    refine ⟨a, G, { sI with heap := GI }, [], σ0, H0, _, _, rfl, ?_, fun b o e nf => ?_, fun b o e hnf => ?_, .inr (.inr hh4), na, os, ag, hW0 xn E S' σ0 H0 dd (st.ext ex sr) xr x0⟩
    · exact (I0.pins_of (pins' := []) fun p hp => nomatch hp).turned (t' := sI.toks) (it := L) (fun b o n e => gI' b o e n) nC0 g1 g3 g4 fun p hp => g5 p (by simpa using List.mem_append_left pins (by simpa using hp))
    · obtain ⟨e1, n⟩ := gI b o e
      exact gB' b o (nb b o e1 nf) n
    · obtain ⟨e1, n⟩ := gI b o e
      obtain ⟨s5, e5⟩ := up b o e1 hnf
      obtain ⟨s6, e6⟩ := up1 b _ e5 hnf
      have e7 : h2.get? b = _ := (sb.2 b n).trans e6
      obtain ⟨s8, e8⟩ := up4 b _ e7 hnf
      exact ⟨s8, e8⟩
  first
    | exact wpAny_bind (wpAny_pure (wpAny_bind fin))
    | exact wpAny_bind fin
/-- y = [elt for tg in iter] on one line, y a local, elt may raise -/
theorem ds_setLcX (i : Nat) {y : Str} {py spos : Pos} {elt tg iter : Expr} {scope : Scope} (own : List (Str × Nat)) {wi : WI} {is : List Nat} {g : WG} {te : RL.WE} {X0 : Xn → Sto → Prop} (dx : DX C B X (fun xn _ S => X0 xn S)) (hc : X.calm = true) (hN : X.N.Nodup) (ok : BlkOk X.N X.env.scope scope own) (hi : DI C B X tg iter wi)
    (hg : ∀ (s : Shared) (H : Hp) (L : Addr) (cl : List (Str × Addr)) (fp : List Addr) (xe : Value → Shared → Prop) (B : Hp), DG C B (blx X s H scope (compEnvC scope cl L X.env) fp xe) tg is g)
    (he : ∀ (s : Shared) (H : Hp) (L : Addr) (cl : List (Str × Addr)) (fp : List Addr) (xe : Value → Shared → Prop) (B : Hp), DY C B (blx X s H scope (compEnvC scope cl L X.env) fp xe) X0 → DE C B (blx X s H scope (compEnvC scope cl L X.env) fp xe) elt te)
    (hsw : swapsWith (.ListComp elt [⟨tg, iter, [], 0⟩] scope pos) (some (.Name y py)) spos.line X.env = pure true) (hst : X.stack = X.env :: X.outer := by rfl) (hf : X.env.frame = some X.env.locals := by rfl) (hy : X.N[i]? = some y := by rfl) (hyl : X.env.scope.names.lookup y = some .local := by rfl)
    (his : ∀ i ∈ is, i ∈ own.map (·.2) := by decide) (hs : ∀ x, foldedSetIterable iter X.env x = pure x := by intro _; rfl) :
    DS C B X (.Assign [.Name y py] (.ListComp elt [⟨tg, iter, [], 0⟩] scope pos) spos) (wAsg (wLc true wi g wYes te (own.map (·.2))) (gSet i)) := by
  refine ⟨⟨fun pins s σ H Dn I ⟨E, S, Dd, st, h, c⟩ => ?_⟩⟩
  have hfree : ∀ y ∈ scope.names, y.2 = .free → ∃ c, X.env.cells.lookup y.1 = some c := fun y hy e => (ok.free y hy e).elim (fun k => I.ok.has _ (.inl k)) fun k => I.ok.has _ (.inr k)
  rw [exec_Assign_Name_used _ _ _ _ hsw]
  refine wpAny_bind (wpAny_standAt (wpAny_bind ?_))
  change wpAny _ X.A (do let _ ← comprehension (.ListComp elt [⟨tg, iter, [], 0⟩] scope pos) scope X.env (firstIterPos [⟨tg, iter, [], 0⟩] pos) (newList []) false (eval iter X.env) (some (assign (.Name y py) X.env))) _ _ s
  refine wpAny_bind (thn (Q := fun _ s' => SP X pins Dn .next s') ?_ fun _ s' hq => wpAny_pure (wpAny_pure hq))
  refine comp_useX rfl hs (closure_ok hfree) ok.kind (fun y hy e => by rw [ok.uniq y hy, e]) ?_
  refine thn (hi.pi.run pins s σ H (fun J H1 => ∃ ds src S1, Ext C H H1 ∧ SR X.K C S1 H1 ∧ Feeds X.K C J ds src H1 ∧ ∀ Z, S1 Z = none → wLcL g wYes te (wipeD E (own.map (·.2))) src ds Z (fun S2 => asF Z S2 fun d S3 => gSet i d E S3 Dd.nx) ds [] (S1.put Z (.lst []))) I ⟨E, S, _, st, h, fun ds src S1 J H1 e1 s1 f1 h1 => ⟨ds, src, S1, e1, s1, f1, h1⟩⟩) fun xv s1 hx => thn hx fun itv s2 h2 => ?_
  obtain ⟨it, fp, tn, J, H2, rfl, I2, T, st2, f2, ds, src, S1, e1, sr1, fd, wl⟩ := h2
  refine wpAny_newObj_type (newEnv_comp ?_) (by show 0 ≤ sizeLine; decide)
  generalize hZ : s2.heap.objs.size = Z
  have nZ : H2 Z = none := I2.hok.fresh (Nat.le_of_eq hZ)
  have wl := wl Z (sr1.none nZ)
  generalize hs3 : ({ s2 with heap := s2.heap.push { cls := .type "list", data := .seq ([] : List Value).toArray } } : Shared) = s3
  have k23 : ∀ b o, s2.heap.get? b = some o → s3.heap.get? b = some o := fun b o e => by rw [← hs3]; exact Heap.get?_push_of_some _ e
  have sz3 : s3.heap.objs.size = Z + 1 := by rw [← hs3, ← hZ]; exact Heap.size_push ..
  have I3 : Inv X pins σ (upd H2 Z (.lst [])) s3 := by
    rw [← hs3]
    refine I2.laid (t' := s2.toks) (fun b o e => Heap.get?_push_of_some _ e) (Nat.le_of_eq hZ) ⟨Nat.zero_le _, [], 0, .nil, ?_⟩
    rw [← hZ]
    exact Heap.get?_push_size _ rfl
  have fZ : ∀ b ∈ fp, b < Z := fun b hb => by
    obtain ⟨o, e, _⟩ := T.obj _ _ st2 b hb
    rw [← hZ]
    exact Heap.lt_size e
  have f3 : ∀ b ∈ fp, FpOk X pins (upd H2 Z (.lst [])) b ∧ b < s3.heap.objs.size := fun b hb => by
    refine ⟨⟨?_, (f2 b hb).2⟩, by rw [sz3]; exact Nat.lt_succ_of_lt (fZ b hb)⟩
    rw [upd_ne (Nat.ne_of_lt (fZ b hb))]
    exact (f2 b hb).1
  have e13 : Ext C H2 (upd H2 Z (.lst [])) := Ext.new nZ
  have sr3 : SR X.K C (S1.put Z (.lst [])) (upd H2 Z (.lst [])) := sr1.newL nZ .nil (Nat.zero_le _)
  have fd3 : Feeds X.K C J ds src (upd H2 Z (.lst [])) := fun S' H' ex => fd S' H' (e13.trans ex)
  generalize hH3 : upd H2 Z (.lst []) = H3 at I3 f3 e13 sr3 fd3
  refine ⟨rfl, ?_⟩
  have I4 := block_start I3 ok hN f3
  have pg := hg s3 H3 s3.heap.objs.size (cellsFrom (s3.heap.objs.size + 1) scope.names (cloFrom X.env.cells scope.names [])) fp
  have pe := he s3 H3 s3.heap.objs.size (cellsFrom (s3.heap.objs.size + 1) scope.names (cloFrom X.env.cells scope.names [])) fp
  change codeAny _ _ (.compStart (.ListComp elt [⟨tg, iter, [], 0⟩] scope pos) 0 (.ref it) (.ref Z) (compEnvC scope (cellsFrom (s3.heap.objs.size + 1) scope.names (cloFrom X.env.cells scope.names [])) s3.heap.objs.size X.env)) (cpX (model X.prog X.w) X.A X.xe (assign (.Name y py) X.env) (fun _ s' => SP X pins Dn .next s') X.env.frame (.ref Z) s3.heap.objs.size) { s3 with heap := pushCells (s3.heap.push { cls := .type "dict", data := .dict #[] }) scope.names }
  have cF : (compEnvC scope (cellsFrom (s3.heap.objs.size + 1) scope.names (cloFrom X.env.cells scope.names [])) s3.heap.objs.size X.env).frame = X.env.frame := rfl
  have cL : (compEnvC scope (cellsFrom (s3.heap.objs.size + 1) scope.names (cloFrom X.env.cells scope.names [])) s3.heap.objs.size X.env).locals = s3.heap.objs.size := rfl
  generalize compEnvC scope (cellsFrom (s3.heap.objs.size + 1) scope.names (cloFrom X.env.cells scope.names [])) s3.heap.objs.size X.env = ce at I4 pg pe cF cL ⊢
  generalize hs4 : ({ s3 with heap := pushCells (s3.heap.push { cls := .type "dict", data := .dict #[] }) scope.names } : Shared) = s4 at I4 ⊢
  have st4 : tn 0 s4.heap := T.keep _ _ _ st2 fun b _ o e => by rw [← hs4]; exact pushCells_keeps _ _ _ _ (Heap.get?_push_of_some _ (k23 b o e))
  generalize hxe : (fun (u : Value) (s' : Shared) => ∃ px σx Hx sx, Inv (X.blk s3 H3 scope ce fp) px σx Hx sx ∧ L2N.CX X.prog X.w X.stack Hx sx (L2.WE (fun cls d _ H' => ∃ xn S' dd, cls = .ref xn.cls ∧ d = some dd ∧ Ext C H H' ∧ SR X.K C S' H' ∧ XR X.K C H' xn dd ∧ X0 xn S') σx) u s') = xe
  have out : ∀ (u : Value) (s' : Shared), xe u s' → notedBy (model X.prog X.w) X.A ce (fun e s' => cpX (model X.prog X.w) X.A X.xe (assign (.Name y py) X.env) (fun _ s' => SP X pins Dn .next s') X.env.frame (.ref Z) s3.heap.objs.size (.error e) s') u s' := fun u s' hu => by
    rw [← hxe] at hu
    obtain ⟨px, σx, Hx, sx, Ix, cx⟩ := hu
    exact leave_blk dx hst hf I3 f3 st cL cF Ix cx
  have dy : ∀ Hc, Ext C H Hc → DY C Hc (blx X s3 H3 scope ce fp xe) X0 := fun Hc ec => by
    refine ⟨fun cls d _ H' => ∃ xn S' dd, cls = .ref xn.cls ∧ d = some dd ∧ Ext C H H' ∧ SR X.K C S' H' ∧ XR X.K C H' xn dd ∧ X0 xn S', fun σx px Hx sx u s' Ix cx => ?_, fun xn E' S' σ' H' dd st' xr x0 => ⟨xn, S', dd, rfl, rfl, ec.trans st'.base, st'.sr, xr, x0⟩⟩
    show xe u s'
    rw [← hxe]
    exact ⟨px, σx, Hx, sx, inv_ex Ix, cx⟩
  have I4 : Inv (blx X s3 H3 scope ce fp xe) [] (L2.wipe σ (own.map (·.2))) H3 s4 := inv_xe I4
  have stat : ∀ {σ' : L2.St} {H' : Hp} {s' : Shared}, Inv (blx X s3 H3 scope ce fp xe) [] σ' H' s' → (∀ b ∈ fp, H' b = none) → ∀ b ∈ fp, FpOk (blx X s3 H3 scope ce fp xe) [] H' b := fun {σ' H' s'} I' hn b hb =>
    ⟨hn b hb, (I'.ok.exf b hb).1, I'.ok.exfs b hb, .inl hb, fun x c e => (I'.ok.exf b hb).2 x c e, fun p hp => nomatch hp⟩
  have loop : codeAny (model X.prog X.w) X.A (.compLoop (.ListComp elt [⟨tg, iter, [], 0⟩] scope pos) 0 (.ref it) (.ref Z) ce) (cpX (model X.prog X.w) X.A X.xe (assign (.Name y py) X.env) (fun _ s' => SP X pins Dn .next s') X.env.frame (.ref Z) s3.heap.objs.size) s4 := by
    refine compLoop_any (fun n s' => ∃ k acc S' H', n = ds.length - k ∧ k ≤ ds.length ∧ Inv (blx X s3 H3 scope ce fp xe) [] (L2.wipe σ (own.map (·.2))) H' s' ∧ tn k s'.heap ∧ (∀ b ∈ fp, H' b = none) ∧ Ext C H3 H' ∧ SR X.K C S' H' ∧ wLcL g wYes te (wipeD E (own.map (·.2))) src ds Z (fun S2 => asF Z S2 fun d S3 => gSet i d E S3 Dd.nx) (ds.drop k) acc S') ?_ ds.length ⟨0, [], _, H3, rfl, Nat.zero_le _, I4, st4, fun b hb => (f3 b hb).1.1, Ext.refl C H3, sr3, by rw [List.drop_zero]; exact wl⟩
    rintro n s5 ⟨k, acc, S', H5, rfl, hk, I5, st5, n5, ex, sr, hw⟩
    by_cases hlt : k < ds.length
    · have hd : ds[k]? = some ds[k] := List.getElem?_eq_getElem hlt
      rw [List.drop_eq_getElem_cons hlt] at hw
      obtain ⟨so, hw⟩ := hw
      obtain ⟨_, fk⟩ := fd3 S' H5 ex sr (srcOk_iff so)
      obtain ⟨go, yl⟩ := fk k _ hd
      refine thnF (T.item (blx X s3 H3 scope ce fp xe) rfl rfl rfl hc k [] s5 _ H5 (fun _ _ => False) I5 (stat I5 n5) st5 go) fun r s6 ⟨u, hr, h6⟩ => ?_
      subst hr
      refine thnF h6 fun _ s7 ⟨x, H7, I7, r7, y7, st7, n7⟩ => ?_
      obtain ⟨e7, d7, s7'⟩ := yl x H7 y7
      have I7' := I7.pinned (stat I7 n7) (T.obj _ _ st7)
      have stw : Stt X.K C H7 (wipeD E (own.map (·.2))) S' (L2.wipe σ (own.map (·.2))) H7 := ((st.ext (((e1.trans e13).trans ex).trans e7) s7').wipe _).rebase (Ext.refl C H7)
      have fin : ∀ {s' : Shared} {σ8 : L2.St} {H' : Hp} {acc' : List D} {S9 : Sto}, Inv (blx X s3 H3 scope ce fp xe) ([] ++ pinsAt fp s7.heap) σ8 H' s' → L2.wipe σ8 (own.map (·.2)) = L2.wipe σ (own.map (·.2)) → Ext C H3 H' → SR X.K C S9 H' → wLcL g wYes te (wipeD E (own.map (·.2))) src ds Z (fun S2 => asF Z S2 fun d S3 => gSet i d E S3 Dd.nx) (ds.drop (k + 1)) acc' S9 →
          ∃ m, m < ds.length - k ∧ ∃ k acc S' H', m = ds.length - k ∧ k ≤ ds.length ∧ Inv (blx X s3 H3 scope ce fp xe) [] (L2.wipe σ (own.map (·.2))) H' s' ∧ tn k s'.heap ∧ (∀ b ∈ fp, H' b = none) ∧ Ext C H3 H' ∧ SR X.K C S' H' ∧ wLcL g wYes te (wipeD E (own.map (·.2))) src ds Z (fun S2 => asF Z S2 fun d S3 => gSet i d E S3 Dd.nx) (ds.drop k) acc S' := fun {s' σ8 H' acc' S9} I' hwp ex' sr' q => by
        have pin' : ∀ b ∈ fp, ∀ o, s7.heap.get? b = some o → s'.heap.get? b = some o ∧ H' b = none := fun b hb o e =>
          let z := I'.pin (b, o) (List.mem_append_right _ (List.mem_append_right _ (mem_pinsAt hb e)))
          ⟨z.1, z.2.1⟩
        refine ⟨ds.length - (k + 1), by omega, k + 1, acc', S9, H', rfl, hlt, (I'.unpinned (pins := [])).weak (by rw [← hwp, L2.wipe_length]) (fun j v e => by rw [← hwp] at e; exact (wipe_some e).1), T.keep _ _ _ st7 fun b hb o e => (pin' b hb o e).1, fun b hb => ?_, ex', sr', q⟩
        obtain ⟨o, e, _⟩ := T.obj _ _ st7 b hb
        exact (pin' b hb o e).2
      refine wpAny_mono ((pg xe H7).pg.run _ s7 _ H7 x u (fun σ8 H8 => ∃ E8 S8, Stt X.K C H7 E8 S8 σ8 H8 ∧ L2.wipe σ8 (own.map (·.2)) = L2.wipe (L2.wipe σ (own.map (·.2))) (own.map (·.2)) ∧ te E8 S8 fun y S4 => S4 Z = some (.lst acc) ∧ acc.length < sizeLine ∧ wLcL g wYes te (wipeD E (own.map (·.2))) src ds Z (fun S2 => asF Z S2 fun d S3 => gSet i d E S3 Dd.nx) (ds.drop (k + 1)) (acc ++ [y]) (S4.put Z (.lst (acc ++ [y])))) I7' r7
        ⟨_, _, S', _, stw, d7, hw, fun E8 S8 σ8 H8 e8 st8 hwp q8 => ⟨E8, S8, st8, hwp _ his, q8⟩⟩) (fun _ s8 h8 => ?_) out
      obtain ⟨σ8, H8, I8, E8, S8, st8, hwp, q8⟩ := h8
      refine wpAny_tests_nil ?_
      show if true = true then _ else _
      rw [if_pos rfl]
      have e38 : Ext C H3 H8 := (ex.trans e7).trans st8.base
      refine wpAny_mono ((pe xe H8 (dy H8 ((e1.trans e13).trans e38))).pe.run _ s8 σ8 H8 (fun yv H10 => ∃ y S10, Ext C H8 H10 ∧ DR X.K C H10 y yv ∧ SR X.K C S10 H10 ∧ S10 Z = some (.lst acc) ∧ acc.length < sizeLine ∧ wLcL g wYes te (wipeD E (own.map (·.2))) src ds Z (fun S2 => asF Z S2 fun d S3 => gSet i d E S3 Dd.nx) (ds.drop (k + 1)) (acc ++ [y]) (S10.put Z (.lst (acc ++ [y])))) I8
        ⟨E8, S8, _, st8.rebase (Ext.refl C H8), q8, fun y S10 yv H10 e10 r10 s10 q10 => ⟨y, S10, e10, r10, s10, q10⟩⟩) (fun z s10 h10 => ?_) out
      obtain ⟨yv, H10, I10, r10, y, S10, e10, d10, s10', z1, z2, z3⟩ := h10
      obtain ⟨xs, p1, p2, p3⟩ := s10'.ob Z _ z1
      refine app_ok (X := blx X s3 H3 scope ce fp xe) I10 p1 (by rw [← p2.length]; exact z2) r10 fun s11 I11 => ?_
      refine fin I11 (hwp.trans (wipe_idem σ _)) ((e38.trans e10).trans (Ext.wr p1)) (s10'.wr z1 (p2.app (.cons d10 .nil)) (by rw [List.length_append, ← p2.length]; exact z2)) z3
    · have ek : k = ds.length := by omega
      rw [List.drop_eq_nil_of_le (Nat.le_of_not_lt hlt)] at hw
      obtain ⟨so, hz, hw⟩ := hw
      obtain ⟨stop, _⟩ := fd3 S' H5 ex sr (srcOk_iff so)
      rw [← ek] at stop
      refine thnF (T.done (blx X s3 H3 scope ce fp xe) rfl rfl rfl hc k [] s5 _ H5 (fun _ _ => False) I5 (stat I5 n5) st5 stop) fun r s6 ⟨hr, I6⟩ => ?_
      subst hr
      have I7 : Inv X pins σ H5 s6 := I3.call' (ch := fp) I6.os I6.base I6.hok I6.bare fun b hb => ⟨(f3 b hb).1.2.2.2.1, (f3 b hb).1.2.1, (f3 b hb).1.2.2.2.2.1, (f3 b hb).1.2.2.2.2.2⟩
      have nC : H5 s3.heap.objs.size = none := by
        have z : H5 ce.locals = none := I6.free
        rwa [cL] at z
      obtain ⟨m, hn, _⟩ := I6.loc
      have hn : s6.heap.Ns ce.locals m := hn
      rw [cL] at hn
      obtain ⟨g0, g1, g2, g3, g4, g5⟩ := I3.fpOk (Nat.le_refl _) nC
      show wpAny _ _ (assign (.Name y py) X.env (.ref Z)) _ _ _
      refine wpAny_assign_Name (store_ok2 (v := V.ref Z) I7 hN hy (.inl hyl) rfl (fun s8 I8 ⟨a, sb, ha⟩ => ?_) (.inr hyl))
      have na : s3.heap.objs.size ≠ a := by
        rcases ha with z | z
        · rw [z]
          exact g1
        · exact fun e => g4 y a z e.symm
      refine ⟨m, hn.sameBut sb na, fun h2 sb2 => ?_⟩
      have I9 := I8.turned (t' := s8.toks) (fun b o hb e => (sb2.2 b hb).trans e) g0 g1 g3 g4 g5
      obtain ⟨xs, p1, p2, p3⟩ := sr.ob Z _ hz
      obtain ⟨ob, I10⟩ := inv_fz I9 p1
      have e9 : Ext C H5 (upd H5 Z (.frz ob (.lst xs))) := Ext.fz p1
      have ee : Ext C H (upd H5 Z (.frz ob (.lst xs))) := ((e1.trans e13).trans ex).trans e9
      have s9 := sr.fzS hz p1 (ob := ob)
      exact ⟨_, _, I10, c.nx _ _ _ _ ee ((st.ext ee s9).set (.lst upd_same (p2.ext e9) p3) i) (hw _ hz)⟩
  exact codeAny_compStart_list loop (T.self X.A 0 _ _ _ st4 loop)
end
/-! ### one statement at a time -/
theorem seqG {t u : WS} {D : WEnds} {E : EV} {S : Sto} (h : t { D with nx := u D } E S) : wSeq t u D E S := h
theorem seqC {t u : WS} {D : WEnds} {E : EV} {S : Sto} (R : EV → Sto → Prop) (h1 : ∀ nx : EV → Sto → Prop, (∀ E S, R E S → nx E S) → t { D with nx := nx } E S) (h2 : ∀ E S, R E S → u D E S) : wSeq t u D E S := h1 (u D) h2
end RL
namespace K35
open PySem RL
open L2 hiding WE
local macro_rules | `(tactic| walk_at "go") => `(tactic| try simp only [wSeq, wNext, wAsg, wRet, wRetN, wDrop, wIfS, wIfE, wAnd, wOr, RL.wNot, wTest_eq, tstD_bl, wAndV_eq, andD_bl, wOrV_eq, orD_bl, wNotV_eq, notD_bl, wChain_eq, chnD_bl, wBin, wUn, wVar, wC, wCons, wNil, wTup, wLst, wLstL, wCB, wSl, wNoPart, wPart_eq, prtD_int, wPar_eq, parD_2, wPar3, parD3_3, wAug, wCall, wLock, wLc, wLc2, wDc, wExt, exD_lst, wKeys_eq, kyD_dct, dDx_eq, wLockD, dSortedL_ref, dAddLL_eq, dLenK_eq, dReprK_eq, dStr_int, wFmt, fmtD_int, fmtD_str, wJoined, wJs_cons, wJs_nil, wLcG, wZipG_eq, zgD_ref, zgD_lst, dIsiL_ty, dIsiL_tup, dIsiL_lst, wTried, wRaise1, wXf, wCaught, wFld, wMeth, wMake, wFldS, wPub, wEnum_eq, enD_lst, wEnumT, enTD_lst, enTD_tup, wAsg2, wLenSet, wSortSet, wSortSetL, wIdxL, dEqK_clk, dNeK_clk, dInK_lst, dIsK_clk, wApp, wClr, apD_ref, clD_ref, wDic, dInD_eq, dIxD_eq, gSubDic_eq, sbDic_ref, wRng3, rg3D_int, dSorted_ref, dSorted_lst, dSortedI_ref, dSortedI_lst, wCallK, wCallKP, gStar3_tup, wRaise0, wLRg1, lrgD_int, wTRg, trgD_int, wSelf, slD_ref, wLevLen, llD_ref, wLevIx, lxD_ref, wLevApp, laD_ref, dIsB_bl, dIsNotB_bl, wAskLam, wAskCall, dIn_lst, dIn_tup, dIn_ref,
  gSet, gTup_tup, lenIs_eq, gsCons_cons, gsNil_nil, gSub_eq, subD_ref, dAdd_int, dAdd_str, dAdd_tup, dAdd_lst, dMul_int, dMul_tup, dMul_lst, dII_int, dII0_int, dSub, dFdiv, dMod, dFdivN, dModN, dPow, dLt, dLe, dGt, dGe, dNeg_int, dIs_non, dIsNot_non, dIsi_ty, dIsi_2, isT_non_list, isT_non_tuple, isT_non_int, isT_non_bool, isT_non_str, isData_non, isT_bl_list, isT_bl_tuple, isT_bl_int, isT_bl_bool, isT_bl_str, isData_bl, isT_int_list, isT_int_tuple, isT_int_int, isT_int_bool, isT_int_str, isData_int, isT_str_list, isT_str_tuple, isT_str_int, isT_str_bool, isT_str_str, isData_str, isT_tup_list, isT_tup_tuple, isT_tup_int, isT_tup_bool, isT_tup_str, isData_tup, isT_lst_list, isT_lst_tuple, isT_lst_int, isT_lst_bool, isT_lst_str, isData_lst, isNon_non, isNon_bl, isNon_int, isNon_str, isNon_tup, isNon_lst, isNon_ref, isNon_clk, okT_list, okT_tuple, okT_int, okT_bool, okT_str, Bool.or_false, Bool.or_true, Bool.false_or, Bool.true_or, Bool.not_true, Bool.not_false, dLen_tup, dLen_lst, dLen_ref, dList_tup, dList_lst, dList_ref, dListL_tup, dListL_lst, dTuple_tup, dTuple_lst, dTuple_ref,
  dIx_tup, dIx_lst, dIx_ref, dSl_tup, dSl_lst, dSl_scr, dSl_ref, dSum_lst, dAll_lst, dAny_lst, dMax2_int, dMax3_int, dMaxL_lst, dMin2_int, dAbs_int, dInt_int, dInt_bl, wFor, wRng1_eq, rg1D_int, wRng2_eq, rg2D_int, wSeqI_eq, sqiD_tup, sqiD_lst, sqiD_ref, wZip_eq, zpD_tup, zpD_lst, wRev_eq, rvD_lst, rvD_ref, startD,
  List.map_cons, List.map_nil, List.length_cons, List.length_nil, List.append_nil, List.nil_append, List.cons_append, List.replicate, List.set_cons_zero, List.set_cons_succ, List.getElem?_cons_zero, List.getElem?_cons_succ, true_and, and_true, if_true_bl, if_false_bl, if_true, if_false])
local macro_rules | `(tactic| walk_at "wipe") => `(tactic| (simp only [wipeD, List.set_cons_zero, List.set_cons_succ]; walk_at "go"))
local macro_rules | `(tactic| walk_at "all") => `(tactic| try simp only [wSeq, wNext, wAsg, wRet, wRetN, wDrop, wIfS, wIfE, wAnd, wOr, RL.wNot, wTest_eq, tstD_bl, wAndV_eq, andD_bl, wOrV_eq, orD_bl, wNotV_eq, notD_bl, wChain_eq, chnD_bl, wBin, wUn, wVar, wC, wCons, wNil, wTup, wLst, wLstL, wCB, wSl, wNoPart, wPart_eq, prtD_int, wPar_eq, parD_2, wPar3, parD3_3, wAug, wCall, wLock, wLc, wLc2, wDc, wExt, exD_lst, wKeys_eq, kyD_dct, dDx_eq, wLockD, dSortedL_ref, dAddLL_eq, dLenK_eq, dReprK_eq, dStr_int, wFmt, fmtD_int, fmtD_str, wJoined, wJs_cons, wJs_nil, wLcG, wZipG_eq, zgD_ref, zgD_lst, dIsiL_ty, dIsiL_tup, dIsiL_lst, wTried, wRaise1, wXf, wCaught, wFld, wMeth, wMake, wFldS, wPub, wEnum_eq, enD_lst, wEnumT, enTD_lst, enTD_tup, wAsg2, wLenSet, wSortSet, wSortSetL, wIdxL, dEqK_clk, dNeK_clk, dInK_lst, dIsK_clk, wApp, wClr, apD_ref, clD_ref, wDic, dInD_eq, dIxD_eq, gSubDic_eq, sbDic_ref, wRng3, rg3D_int, dSorted_ref, dSorted_lst, dSortedI_ref, dSortedI_lst, wCallK, wCallKP, gStar3_tup, wRaise0, wLRg1, lrgD_int, wTRg, trgD_int, wSelf, slD_ref, wLevLen, llD_ref, wLevIx, lxD_ref, wLevApp, laD_ref, dIsB_bl, dIsNotB_bl, wAskLam, wAskCall, dIn_lst, dIn_tup, dIn_ref,
  gSet, gTup_tup, lenIs_eq, gsCons_cons, gsNil_nil, gSub_eq, subD_ref, dAdd_int, dAdd_str, dAdd_tup, dAdd_lst, dMul_int, dMul_tup, dMul_lst, dII_int, dII0_int, dSub, dFdiv, dMod, dFdivN, dModN, dPow, dLt, dLe, dGt, dGe, dNeg_int, dIs_non, dIsNot_non, dIsi_ty, dIsi_2, isT_non_list, isT_non_tuple, isT_non_int, isT_non_bool, isT_non_str, isData_non, isT_bl_list, isT_bl_tuple, isT_bl_int, isT_bl_bool, isT_bl_str, isData_bl, isT_int_list, isT_int_tuple, isT_int_int, isT_int_bool, isT_int_str, isData_int, isT_str_list, isT_str_tuple, isT_str_int, isT_str_bool, isT_str_str, isData_str, isT_tup_list, isT_tup_tuple, isT_tup_int, isT_tup_bool, isT_tup_str, isData_tup, isT_lst_list, isT_lst_tuple, isT_lst_int, isT_lst_bool, isT_lst_str, isData_lst, isNon_non, isNon_bl, isNon_int, isNon_str, isNon_tup, isNon_lst, isNon_ref, isNon_clk, okT_list, okT_tuple, okT_int, okT_bool, okT_str, Bool.or_false, Bool.or_true, Bool.false_or, Bool.true_or, Bool.not_true, Bool.not_false, dLen_tup, dLen_lst, dLen_ref, dList_tup, dList_lst, dList_ref, dListL_tup, dListL_lst, dTuple_tup, dTuple_lst, dTuple_ref,
  dIx_tup, dIx_lst, dIx_ref, dSl_tup, dSl_lst, dSl_scr, dSl_ref, dSum_lst, dAll_lst, dAny_lst, dMax2_int, dMax3_int, dMaxL_lst, dMin2_int, dAbs_int, dInt_int, dInt_bl, wFor, wRng1_eq, rg1D_int, wRng2_eq, rg2D_int, wSeqI_eq, sqiD_tup, sqiD_lst, sqiD_ref, wZip_eq, zpD_tup, zpD_lst, wRev_eq, rvD_lst, rvD_ref, startD,
  List.map_cons, List.map_nil, List.length_cons, List.length_nil, List.append_nil, List.nil_append, List.cons_append, List.replicate, List.set_cons_zero, List.set_cons_succ, List.getElem?_cons_zero, List.getElem?_cons_succ, true_and, and_true, if_true_bl, if_false_bl, if_true, if_false, exAt0, exAt1, exAt2, exAt3, sz0, sz1, sz2, sz3, sz4, sz5, sz6, sz7, sz8, sz9, sz10, sz11, sz12, sz13])
local macro_rules | `(tactic| walk_at "hold") => `(tactic| try simp only [wSeq, wNext, wAsg, wRet, wRetN, wDrop, wIfS, wIfE, wAnd, wOr, RL.wNot, wTest_eq, tstD_bl, wAndV_eq, andD_bl, wOrV_eq, orD_bl, wNotV_eq, notD_bl, wChain_eq, chnD_bl, wBin, wUn, wVar, wC, wCons, wNil, wTup, wLst, wLstL, wCB, wSl, wNoPart, wPart_eq, prtD_int, wPar_eq, parD_2, wPar3, parD3_3, wAug, wCall, wLock, wLc, wLc2, wDc, wExt, exD_lst, wKeys_eq, kyD_dct, dDx_eq, wLockD, dSortedL_ref, dAddLL_eq, dLenK_eq, dReprK_eq, dStr_int, wFmt, fmtD_int, fmtD_str, wJoined, wJs_cons, wJs_nil, wLcG, wZipG_eq, zgD_ref, zgD_lst, dIsiL_ty, dIsiL_tup, dIsiL_lst, wRaise1, wXf, wCaught, wFld, wMeth, wMake, wFldS, wPub, wEnum_eq, enD_lst, wEnumT, enTD_lst, enTD_tup, wAsg2, wLenSet, wSortSet, wSortSetL, wIdxL, dEqK_clk, dNeK_clk, dInK_lst, dIsK_clk, wApp, wClr, apD_ref, clD_ref, wDic, dInD_eq, dIxD_eq, gSubDic_eq, sbDic_ref, wRng3, rg3D_int, dSorted_ref, dSorted_lst, dSortedI_ref, dSortedI_lst, wCallK, wCallKP, gStar3_tup, wRaise0, wLRg1, lrgD_int, wTRg, trgD_int, wSelf, slD_ref, wLevLen, llD_ref, wLevIx, lxD_ref, wLevApp, laD_ref, dIsB_bl, dIsNotB_bl, wAskLam, wAskCall, dIn_lst, dIn_tup, dIn_ref,
  gSet, gTup_tup, lenIs_eq, gsCons_cons, gsNil_nil, gSub_eq, subD_ref, dAdd_int, dAdd_str, dAdd_tup, dAdd_lst, dMul_int, dMul_tup, dMul_lst, dII_int, dII0_int, dSub, dFdiv, dMod, dFdivN, dModN, dPow, dLt, dLe, dGt, dGe, dNeg_int, dIs_non, dIsNot_non, dIsi_ty, dIsi_2, isT_non_list, isT_non_tuple, isT_non_int, isT_non_bool, isT_non_str, isData_non, isT_bl_list, isT_bl_tuple, isT_bl_int, isT_bl_bool, isT_bl_str, isData_bl, isT_int_list, isT_int_tuple, isT_int_int, isT_int_bool, isT_int_str, isData_int, isT_str_list, isT_str_tuple, isT_str_int, isT_str_bool, isT_str_str, isData_str, isT_tup_list, isT_tup_tuple, isT_tup_int, isT_tup_bool, isT_tup_str, isData_tup, isT_lst_list, isT_lst_tuple, isT_lst_int, isT_lst_bool, isT_lst_str, isData_lst, isNon_non, isNon_bl, isNon_int, isNon_str, isNon_tup, isNon_lst, isNon_ref, isNon_clk, okT_list, okT_tuple, okT_int, okT_bool, okT_str, Bool.or_false, Bool.or_true, Bool.false_or, Bool.true_or, Bool.not_true, Bool.not_false, dLen_tup, dLen_lst, dLen_ref, dList_tup, dList_lst, dList_ref, dListL_tup, dListL_lst, dTuple_tup, dTuple_lst, dTuple_ref,
  dIx_tup, dIx_lst, dIx_ref, dSl_tup, dSl_lst, dSl_scr, dSl_ref, dSum_lst, dAll_lst, dAny_lst, dMax2_int, dMax3_int, dMaxL_lst, dMin2_int, dAbs_int, dInt_int, dInt_bl, wFor, wRng1_eq, rg1D_int, wRng2_eq, rg2D_int, wSeqI_eq, sqiD_tup, sqiD_lst, sqiD_ref, wZip_eq, zpD_tup, zpD_lst, wRev_eq, rvD_lst, rvD_ref, startD,
  List.map_cons, List.map_nil, List.length_cons, List.length_nil, List.append_nil, List.nil_append, List.cons_append, List.replicate, List.set_cons_zero, List.set_cons_succ, List.getElem?_cons_zero, List.getElem?_cons_succ, true_and, and_true, if_true_bl, if_false_bl, if_true, if_false, exAt0, exAt1, exAt2, exAt3, sz0, sz1, sz2, sz3, sz4, sz5, sz6, sz7, sz8, sz9, sz10, sz11, sz12, sz13])
local macro_rules | `(tactic| walk_at "plain") => `(tactic| repeat' first | exact ok_nil | exact RL.Ok.int _ | exact RL.Ok.non | exact RL.Ok.str (by decide +kernel) | assumption | refine RL.Ok.tup ?_ | refine RL.Ok.lst ?_ | refine ok_cons ?_ ?_)
local macro_rules | `(tactic| walk_at "wall") => `(tactic| (simp only [wipeD, List.set_cons_zero, List.set_cons_succ]; walk_at "all"))
local macro_rules | `(tactic| walk_at "step") => `(tactic| try simp only [wNext, wAsg, wRet, wRetN, wDrop, wIfS, wIfE, wAnd, wOr, RL.wNot, wTest_eq, tstD_bl, wAndV_eq, andD_bl, wOrV_eq, orD_bl, wNotV_eq, notD_bl, wChain_eq, chnD_bl, wBin, wUn, wVar, wC, wCons, wNil, wTup, wLst, wLstL, wCB, wSl, wNoPart, wPart_eq, prtD_int, wPar_eq, parD_2, wPar3, parD3_3, wAug, wCall, wLock, wLc, wLc2, wDc, wExt, exD_lst, wKeys_eq, kyD_dct, dDx_eq, wLockD, dSortedL_ref, dAddLL_eq, dLenK_eq, dReprK_eq, dStr_int, wFmt, fmtD_int, fmtD_str, wJoined, wJs_cons, wJs_nil, wLcG, wZipG_eq, zgD_ref, zgD_lst, dIsiL_ty, dIsiL_tup, dIsiL_lst, wRaise1, wXf, wCaught, wFld, wMeth, wMake, wFldS, wPub, wEnum_eq, enD_lst, wEnumT, enTD_lst, enTD_tup, wAsg2, wLenSet, wSortSet, wSortSetL, wIdxL, dEqK_clk, dNeK_clk, dInK_lst, dIsK_clk, wApp, wClr, apD_ref, clD_ref, wDic, dInD_eq, dIxD_eq, gSubDic_eq, sbDic_ref, wRng3, rg3D_int, dSorted_ref, dSorted_lst, dSortedI_ref, dSortedI_lst, wCallK, wCallKP, gStar3_tup, wRaise0, wLRg1, lrgD_int, wTRg, trgD_int, wSelf, slD_ref, wLevLen, llD_ref, wLevIx, lxD_ref, wLevApp, laD_ref, dIsB_bl, dIsNotB_bl, wAskLam, wAskCall, dIn_lst, dIn_tup, dIn_ref,
  gSet, gTup_tup, lenIs_eq, gsCons_cons, gsNil_nil, gSub_eq, subD_ref, dAdd_int, dAdd_str, dAdd_tup, dAdd_lst, dMul_int, dMul_tup, dMul_lst, dII_int, dII0_int, dSub, dFdiv, dMod, dFdivN, dModN, dPow, dLt, dLe, dGt, dGe, dNeg_int, dIs_non, dIsNot_non, dIsi_ty, dIsi_2, isT_non_list, isT_non_tuple, isT_non_int, isT_non_bool, isT_non_str, isData_non, isT_bl_list, isT_bl_tuple, isT_bl_int, isT_bl_bool, isT_bl_str, isData_bl, isT_int_list, isT_int_tuple, isT_int_int, isT_int_bool, isT_int_str, isData_int, isT_str_list, isT_str_tuple, isT_str_int, isT_str_bool, isT_str_str, isData_str, isT_tup_list, isT_tup_tuple, isT_tup_int, isT_tup_bool, isT_tup_str, isData_tup, isT_lst_list, isT_lst_tuple, isT_lst_int, isT_lst_bool, isT_lst_str, isData_lst, isNon_non, isNon_bl, isNon_int, isNon_str, isNon_tup, isNon_lst, isNon_ref, isNon_clk, okT_list, okT_tuple, okT_int, okT_bool, okT_str, Bool.or_false, Bool.or_true, Bool.false_or, Bool.true_or, Bool.not_true, Bool.not_false, dLen_tup, dLen_lst, dLen_ref, dList_tup, dList_lst, dList_ref, dListL_tup, dListL_lst, dTuple_tup, dTuple_lst, dTuple_ref,
  dIx_tup, dIx_lst, dIx_ref, dSl_tup, dSl_lst, dSl_scr, dSl_ref, dSum_lst, dAll_lst, dAny_lst, dMax2_int, dMax3_int, dMaxL_lst, dMin2_int, dAbs_int, dInt_int, dInt_bl, wFor, wRng1_eq, rg1D_int, wRng2_eq, rg2D_int, wSeqI_eq, sqiD_tup, sqiD_lst, sqiD_ref, wZip_eq, zpD_tup, zpD_lst, wRev_eq, rvD_lst, rvD_ref, startD,
  List.map_cons, List.map_nil, List.length_cons, List.length_nil, List.append_nil, List.nil_append, List.cons_append, List.replicate, List.set_cons_zero, List.set_cons_succ, List.getElem?_cons_zero, List.getElem?_cons_succ, true_and, and_true, if_true_bl, if_false_bl, if_true, if_false, exAt0, exAt1, exAt2, exAt3, sz0, sz1, sz2, sz3, sz4, sz5, sz6, sz7, sz8, sz9, sz10, sz11, sz12, sz13])
def topS (i : Nat) : Stmt := PySem.Challenge.pw_hangwheels_k35_joined_clocks.main.body.getD i (.Pass ⟨0, 0, 0, 0⟩)
structure Txt (mg : Str → Option Value) : Prop where
  b_abs : mg "abs" = none
  b_all : mg "all" = none
  b_any : mg "any" = none
  b_bool : mg "bool" = none
  b_enumerate : mg "enumerate" = none
  b_int : mg "int" = none
  b_isinstance : mg "isinstance" = none
  b_len : mg "len" = none
  b_list : mg "list" = none
  b_max : mg "max" = none
  b_min : mg "min" = none
  b_range : mg "range" = none
  b_repr : mg "repr" = none
  b_set : mg "set" = none
  b_sorted : mg "sorted" = none
  b_str : mg "str" = none
  b_sum : mg "sum" = none
  b_tuple : mg "tuple" = none
  b_zip : mg "zip" = none
  c_MAX_DOORS : ∃ t, mg "MAX_DOORS" = some (.int 64 t)
  c_MAX_ROOMS : ∃ t, mg "MAX_ROOMS" = some (.int 8 t)
  c_MAX_TABLES : ∃ t, mg "MAX_TABLES" = some (.int 60 t)
  c_MOST_JOINED : ∃ t, mg "MOST_JOINED" = some (.int 4 t)
abbrev s__law_bag : Stmt := topS 23
theorem sc__law_bag : FnScope ["_law_script", "_law_salt", "_law_cell"] ["_law_script"] (defScope s__law_bag) := ⟨rfl, rfl, rfl, by decide +kernel, rfl, by decide +kernel, by decide +kernel⟩
abbrev s__law_pull : Stmt := topS 24
theorem sc__law_pull : FnScope ["_law_bag_here", "_law_many", "_law_cell", "_law_got", "_law_seed"] ["_law_bag_here", "_law_many"] (defScope s__law_pull) := ⟨rfl, rfl, rfl, by decide +kernel, rfl, by decide +kernel, by decide +kernel⟩
abbrev s__law_of : Stmt := topS 25
theorem sc__law_of : FnScope ["_law_bag_here", "_law_things"] ["_law_bag_here", "_law_things"] (defScope s__law_of) := ⟨rfl, rfl, rfl, by decide +kernel, rfl, by decide +kernel, by decide +kernel⟩
abbrev s__law_like : Stmt := topS 26
theorem sc__law_like : FnScope ["_law_found", "_law_due", "_law_one", "_law_other"] ["_law_found", "_law_due"] (defScope s__law_like) := ⟨rfl, rfl, rfl, by decide +kernel, rfl, by decide +kernel, by decide +kernel⟩
/-! ### the bag of draws -/
structure Bag where
  cells : List Int
  i : Nat
  big : Int
  salt : Int
structure Bag.Good (b : Bag) : Prop where
  c63 : b.cells.length ≤ 63
  ile : b.i ≤ b.cells.length
  big0 : 0 ≤ b.big
  s0 : 0 ≤ b.salt
  s1 : b.salt < 2147483563
def Bag.ds (b : Bag) : List D := [.lst (b.cells.map D.int), .int b.i, .int b.big, .int b.salt]
def BagAt (S : Sto) (p : Addr) : Prop := ∃ b : Bag, b.Good ∧ S p = some (.lst b.ds)
def Off (p : Addr) (S S' : Sto) : Prop := ∀ q, q ≠ p → S' q = S q
theorem Off.refl (p : Addr) (S : Sto) : Off p S S := fun _ _ => rfl
theorem Off.trans {p : Addr} {S S1 S2 : Sto} (a : Off p S S1) (b : Off p S1 S2) : Off p S S2 := fun q h => (b q h).trans (a q h)
theorem Off.put {p : Addr} {S : Sto} {o : DO} : Off p S (S.put p o) := fun q h => Sto.put_ne h
theorem BagAt.of {S : Sto} {p : Addr} {b : Bag} (h : b.Good) : BagAt (S.put p (.lst b.ds)) p := ⟨b, h, Sto.put_same⟩
/-- a new list beside the bag -/
theorem BagAt.put {S : Sto} {p q : Addr} {o : DO} (h : BagAt S p) (hq : S q = none) : BagAt (S.put q o) p := by
  obtain ⟨b, g, e⟩ := h
  exact ⟨b, g, by rw [Sto.put_ne (fun z => by rw [z, hq] at e; cases e)]; exact e⟩
theorem BagAt.ne {S : Sto} {p q : Addr} (h : BagAt S p) (hq : S q = none) : q ≠ p := fun z => by
  obtain ⟨b, g, e⟩ := h
  rw [← z, hq] at e
  cases e
theorem bag_under {S S' : Sto} {p Z : Addr} {o : DO} (off : Off p (S.put Z o) S') (hZ : S Z = none) (hb : BagAt S p) (hb' : BagAt S' p) : ∃ S'' : Sto, S' = S''.put Z o ∧ S'' Z = none ∧ BagAt S'' p ∧ Off p S S'' := by
  have ne := hb.ne hZ
  refine ⟨S'.del Z, ?_, Sto.del_same, ?_, fun q hq => ?_⟩
  · funext b
    by_cases e : b = Z
    · rw [e, Sto.put_same, off Z ne, Sto.put_same]
    · rw [Sto.put_ne e, Sto.del_ne e]
  · obtain ⟨b, g, e⟩ := hb'
    exact ⟨b, g, by rw [Sto.del_ne ne.symm]; exact e⟩
  · by_cases e : q = Z
    · rw [e, Sto.del_same, hZ]
    · rw [Sto.del_ne e, off q hq, Sto.put_ne e]
def spBag : DSp := fun ds S Q _ => ∃ ns : List Int, ds = [.scr (ns.map D.int)] ∧ ns.length ≤ 63 ∧ ∀ p S', S p = none → BagAt S' p → Off p S S' → Q (.ref p) S'
def spPull : DSp := fun ds S Q _ => ∃ (p : Addr) (many : Int), ds = [.ref p, .int many] ∧ BagAt S p ∧ 0 < many ∧ many < 2 ^ 200 ∧ ∀ (r : Int) S', BagAt S' p → Off p S S' → 0 ≤ r → r < many → Q (.int r) S'
/-- data of a depth below n, twice the same -/
def spLike (n : Nat) : DSp := fun ds S Q _ => ∃ d, ds = [d, d] ∧ Dat n d ∧ Q (.bl true) S
def spOf : DSp := fun ds S Q _ => ∃ (p : Addr) (xs : List D), ds = [.ref p, .lst xs] ∧ BagAt S p ∧ 0 < xs.length ∧ xs.length < 2 ^ 62 ∧ ∀ (x : D) S', BagAt S' p → Off p S S' → x ∈ xs → Q x S'
theorem seq_gen {A B : WS} {Z : WEnds} {E : EV} {S : Sto} (P : EV → Sto → Prop) (h1 : ∀ nx, (∀ E S, P E S → nx E S) → A { Z with nx := nx } E S) (h2 : ∀ E S, P E S → B Z E S) : wSeq A B Z E S := h1 _ h2
section
variable {P : Program} {w : World} {K : PySem.W.Frag} {mg : Str → Option Value} {base : Heap} {C : Cf}
theorem mul_small {i j : Int} (h1 : i.natAbs < 2 ^ 200) (h2 : j.natAbs < 2 ^ 200) : CMulW i j := wide_mul (a := 200) (b := 200) h1 h2 (by decide) (by decide) (by decide)
theorem ok_pull {f : Addr} {fd : FuncData} (F : Fun K "_law_pull" "_law_pull" s__law_pull f fd) (T : Txt mg) : DOk P w K mg base C 1 f fd ["_law_bag_here", "_law_many"] spPull := by
  refine dok_of F sc__law_pull (fun ds S Q Xd h => ?_) (fun cdv A outer s B Ex ds S Q Xd hr dx h => ?_)
  · obtain ⟨p, many, rfl, _⟩ := h
    rfl
  · have sc := sc__law_pull
    refine ⟨_, (dss_cons (ds_if (dt_w (dw_and (dt_cmp (od_eq hr.units) (de_ix (de_var 0) de_int) de_int) (dw_and1 (dt_cmp od_lt (de_ix (de_var 0) de_int) (de_callB cd_len T.b_len (by decide +kernel) (da_cons (de_ix (de_var 0) de_int) da_nil)))))) (dss_cons (ds_set 2 sc.nd (de_ix (de_ix (de_var 0) de_int) (de_ix (de_var 0) de_int))) (dss_cons (ds_asg (de_bin od_add (de_ix (de_var 0) de_int) de_int) (dg_sub (de_var 0) de_int)) (dss_one (ds_if (dt_cmp od_ge (de_var 2) (de_bin od_pow de_int de_int)) (dss_one (ds_asg (de_bin od_sub (de_var 2) (de_bin od_pow de_int de_int)) (dg_sub (de_var 0) de_int))) (dss_one (ds_asg (de_bin od_mod (de_bin od_add (de_bin od_add (de_bin od_mul (de_ix (de_var 0) de_int) de_int) (de_bin od_mul (de_bin od_mod (de_var 2) de_int) de_int)) de_int) de_int) (dg_sub (de_var 0) de_int))))))) dss_nil) (dss_cons (ds_if (dt_cmp od_gt (de_ix (de_var 0) de_int) de_int) (dss_cons (ds_set 3 sc.nd (de_bin od_mod (de_ix (de_var 0) de_int) (de_var 1))) (dss_cons (ds_asg (de_bin od_fdiv (de_ix (de_var 0) de_int) (de_var 1)) (dg_sub (de_var 0) de_int)) (dss_one (ds_ret (de_var 3))))) dss_nil) (dss_cons (ds_set 4 sc.nd (de_ix (de_var 0) de_int)) (dss_cons (ds_asg (de_bin od_mod (de_bin od_add (de_bin od_add (de_bin od_mul (de_bin od_mul (de_var 4) (de_var 4)) de_int) (de_bin od_mul (de_var 4) de_int)) de_int) de_int) (dg_sub (de_var 0) de_int)) (dss_one (ds_ret (de_bin od_mod (de_bin od_add (de_bin od_fdiv (de_ix (de_var 0) de_int) de_int) (de_bin od_mul (de_bin od_mod (de_ix (de_var 0) de_int) de_int) de_int)) (de_var 1)))))))), ?_⟩
    obtain ⟨p, many, rfl, hb, m0, m1, q⟩ := h
    have mn : many.natAbs < 2 ^ 200 := by omega
    have mw : CDivW 0 many := wide_div (b := 200) m0 mn (by decide) (by decide)
    -- behind the first if: a good bag, all else as it was
    refine seq_gen (fun E S1 => (∃ x, E = [some (.ref p), some (.int many), x, none, none]) ∧ BagAt S1 p ∧ Off p S S1) (fun nx hn => ?_) ?_
    · obtain ⟨b, g, e⟩ := hb
      walk_at "go"
      refine ⟨_, e, _, rfl, dEq_int (fun e2 => ?_) fun e2 => ?_⟩
      · walk_at "go"
        refine ⟨_, e, _, rfl, _, e, _, rfl, ?_⟩
        walk_at "go"
        intro _
        rw [List.length_map]
        by_cases hi : (b.i : Int) < b.cells.length
        · rw [decide_eq_true hi]
          walk_at "go"
          have hi' : b.i < b.cells.length := by omega
          have hget : (b.cells.map D.int)[b.i]? = some (.int b.cells[b.i]) := by rw [List.getElem?_map, List.getElem?_eq_getElem hi']; rfl
          refine ⟨_, e, _, rfl, _, e, _, rfl, ?_⟩
          walk_at "go"
          refine ⟨_, atI_nat hget, _, e, _, rfl, ?_⟩
          walk_at "go"
          refine ⟨_, _, e, rfl, pow10 18, ?_⟩
          by_cases hc : (10 : Int) ^ Int.toNat 18 ≤ b.cells[b.i]
          · rw [decide_eq_true hc]
            walk_at "go"
            refine ⟨pow10 18, _, _, Sto.put_same, rfl, hn _ _ ⟨⟨_, rfl⟩, ?_, ?_⟩⟩
            · rw [Sto.put_put]
              have : Bag.Good ⟨b.cells, b.i + 1, b.cells[b.i] - 10 ^ Int.toNat 18, b.salt⟩ := ⟨g.c63, hi', by show 0 ≤ b.cells[b.i] - 10 ^ Int.toNat 18; omega, g.s0, g.s1⟩
              exact BagAt.of this
            · rw [Sto.put_put]
              exact Off.put
          · rw [decide_eq_false hc]
            walk_at "go"
            refine ⟨_, Sto.put_same, _, rfl, ?_⟩
            walk_at "go"
            have h1 := g.s0
            have h2 := g.s1
            have h3 := Int.emod_nonneg b.cells[b.i] (by decide : (2147483563 : Int) ≠ 0)
            have h4 := Int.emod_lt_of_pos b.cells[b.i] (by decide : (0 : Int) < 2147483563)
            refine ⟨mul_small (by omega) (by decide), by decide, mul_small (by omega) (by decide), by decide, _, _, Sto.put_same, rfl, hn _ _ ⟨⟨_, rfl⟩, ?_, ?_⟩⟩
            · rw [Sto.put_put]
              have : Bag.Good ⟨b.cells, b.i + 1, b.big, (b.salt * 48271 + b.cells[b.i] % 2147483563 * 69621 + 7) % 2147483563⟩ := ⟨g.c63, hi', g.big0, Int.emod_nonneg _ (by decide), Int.emod_lt_of_pos _ (by decide)⟩
              exact BagAt.of this
            · rw [Sto.put_put]
              exact Off.put
        · rw [decide_eq_false hi]
          walk_at "go"
          exact hn _ _ ⟨⟨_, rfl⟩, ⟨b, g, e⟩, Off.refl _ _⟩
      · walk_at "go"
        exact hn _ _ ⟨⟨_, rfl⟩, ⟨b, g, e⟩, Off.refl _ _⟩
    · rintro E S1 ⟨⟨x, rfl⟩, ⟨b, g, e⟩, off⟩
      walk_at "go"
      refine ⟨_, e, _, rfl, ?_⟩
      walk_at "go"
      have b0 := g.big0
      by_cases hb : 0 < b.big
      · rw [decide_eq_true hb]
        walk_at "go"
        refine ⟨_, e, _, rfl, ?_⟩
        walk_at "go"
        refine ⟨m0, _, e, _, rfl, ?_⟩
        walk_at "go"
        refine ⟨mw, _, _, e, rfl, .now (q _ _ ?_ (off.trans Off.put) (Int.emod_nonneg _ (by omega)) (Int.emod_lt_of_pos _ m0))⟩
        have : Bag.Good ⟨b.cells, b.i, b.big / many, b.salt⟩ := ⟨g.c63, g.ile, Int.ediv_nonneg b0 (by omega), g.s0, g.s1⟩
        exact BagAt.of this
      · rw [decide_eq_false hb]
        walk_at "go"
        have h1 := g.s0
        have h2 := g.s1
        refine ⟨_, e, _, rfl, ?_⟩
        walk_at "go"
        have h3 : (b.salt * b.salt).natAbs < 2 ^ 80 := by
          rw [Int.natAbs_mul]
          have : b.salt.natAbs < 2 ^ 40 := by omega
          exact Nat.lt_of_lt_of_le (Nat.mul_lt_mul'' this this) (by decide)
        refine ⟨mul_small (by omega) (by omega), mul_small (by omega) (by decide), mul_small (by omega) (by decide), by decide, _, _, e, rfl, _, Sto.put_same, _, rfl, ?_⟩
        walk_at "go"
        refine ⟨⟨by decide, by decide⟩, _, Sto.put_same, _, rfl, ?_⟩
        walk_at "go"
        have h5 := Int.emod_nonneg ((b.salt * b.salt * 3 + b.salt * 16807 + 1013904223) % 2147483563) (by decide : (8191 : Int) ≠ 0)
        have h6 := Int.emod_lt_of_pos ((b.salt * b.salt * 3 + b.salt * 16807 + 1013904223) % 2147483563) (by decide : (0 : Int) < 8191)
        refine ⟨by decide, mul_small (by omega) (by decide), m0, .now (q _ _ ?_ (off.trans Off.put) (Int.emod_nonneg _ (by omega)) (Int.emod_lt_of_pos _ m0))⟩
        have : Bag.Good ⟨b.cells, b.i, b.big, (b.salt * b.salt * 3 + b.salt * 16807 + 1013904223) % 2147483563⟩ := ⟨g.c63, g.ile, g.big0, Int.emod_nonneg _ (by decide), Int.emod_lt_of_pos _ (by decide)⟩
        exact BagAt.of this
theorem ok_bag {f : Addr} {fd : FuncData} (F : Fun K "_law_bag" "_law_bag" s__law_bag f fd) (T : Txt mg) : DOk P w K mg base C 1 f fd ["_law_script"] spBag := by
  refine dok_of F sc__law_bag (fun ds S Q Xd h => ?_) (fun cdv A outer s B Ex ds S Q Xd hr dx h => ?_)
  · obtain ⟨ns, rfl, _⟩ := h
    rfl
  · have sc := sc__law_bag
    refine ⟨_, (dss_cons (ds_set 1 sc.nd de_int) (dss_cons (ds_for (passes_of rfl) rfl (di_seq (de_slice (de_var 0) do_none (do_some de_int))) (dg_name 2 sc.nd) (dss_one (ds_set 1 sc.nd (de_bin od_mod (de_bin od_add (de_bin od_add (de_bin od_mul (de_var 1) de_int) (de_bin od_mod (de_var 2) de_int)) de_int) de_int)))) (dss_one (ds_ret (de_lstL (da_cons (de_callTy cd_list T.b_list (by decide +kernel) (da_cons (de_slice (de_var 0) do_none (do_some de_int)) da_nil)) (da_cons de_int (da_cons de_int (da_cons (de_var 1) da_nil))))))))), ?_⟩
    obtain ⟨ns, rfl, n63, q⟩ := h
    walk_at "go"
    intro _
    have e1 : cutD (ns.map D.int) none (some 63) = ns.map D.int := by
      have := cutD_to (ns.map D.int) 63
      rw [List.take_of_length_le (by rw [List.length_map]; exact n63)] at this
      exact this
    rw [e1]
    refine forL_rule (fun rest E S1 => (∃ ms : List Int, rest = ms.map D.int) ∧ S1 = S ∧ ∃ (salt : Int) (x : Option D), E = [some (.scr (ns.map D.int)), some (.int salt), x] ∧ 0 ≤ salt ∧ salt < 2147483563) (fun d rest E S1 => ?_) (fun E S1 => ?_) _ _ _ ⟨⟨ns, rfl⟩, rfl, 9492, none, rfl, by decide, by decide⟩
    · rintro ⟨⟨ms, hms⟩, rfl, salt, x, rfl, h0, h1⟩
      refine ⟨trivial, fun nx hn => ?_⟩
      cases ms with
      | nil => cases hms
      | cons m ms =>
        rw [List.map_cons] at hms
        cases hms
        walk_at "go"
        have h3 := Int.emod_nonneg m (by decide : (2147483563 : Int) ≠ 0)
        have h4 := Int.emod_lt_of_pos m (by decide : (0 : Int) < 2147483563)
        exact ⟨mul_small (by omega) (by decide), by decide, by decide, hn _ _ ⟨⟨ms, rfl⟩, rfl, _, _, rfl, Int.emod_nonneg _ (by decide), Int.emod_lt_of_pos _ (by decide)⟩⟩
    · rintro ⟨_, rfl, salt, x, rfl, h0, h1⟩
      refine ⟨trivial, ?_⟩
      walk_at "go"
      rw [e1]
      refine ⟨by show 4 ≤ sizeLine; decide, fun p hp => .now (q _ _ hp ?_ Off.put)⟩
      have : Bag.Good ⟨ns, 0, 0, salt⟩ := ⟨n63, Nat.zero_le _, Int.le_refl 0, h0, h1⟩
      exact BagAt.of this
theorem ok_of {f : Addr} {fd : FuncData} (F : Fun K "_law_of" "_law_of" s__law_of f fd) (T : Txt mg) (G__law_pull : Df P w K mg base C "_law_pull" 1 ["_law_bag_here", "_law_many"] spPull) : DOk P w K mg base C 2 f fd ["_law_bag_here", "_law_things"] spOf := by
  refine dok_of F sc__law_of (fun ds S Q Xd h => ?_) (fun cdv A outer s B Ex ds S Q Xd hr dx h => ?_)
  · obtain ⟨p, xs, rfl, _⟩ := h
    rfl
  · have sc := sc__law_of
    refine ⟨_, (dss_one (ds_ret (de_ix (de_var 1) (de_callD G__law_pull (hr.mono (by omega)) dx (da_cons (de_var 0) (da_cons (de_callB cd_len T.b_len (by decide +kernel) (da_cons (de_var 1) da_nil)) da_nil)))))), ?_⟩
    obtain ⟨p, xs, rfl, hb, h0, h1, q⟩ := h
    walk_at "go"
    intro _
    refine ⟨p, _, rfl, hb, by omega, by omega, fun r S' hb' off r0 r1 => ?_⟩
    walk_at "go"
    obtain ⟨i, rfl⟩ := Int.eq_ofNat_of_zero_le r0
    have hi : i < xs.length := by omega
    exact ⟨xs[i], atI_nat (List.getElem?_eq_getElem hi), .now (q _ _ hb' off (List.getElem_mem hi))⟩
theorem ok_likeD {f : Addr} {fd : FuncData} (F : Fun K "_law_like" "_law_like" s__law_like f fd) (T : Txt mg) (hm : mg "_law_like" = some (.ref f)) (hk : PySem.W.keepIn K (.ref f) = true) (hb : Binds K fd ["_law_found", "_law_due"] []) : ∀ n, n ≤ 60 → DOk P w K mg base C n f fd ["_law_found", "_law_due"] (spLike n)
  | 0, _ => ⟨fun vs H Q E h => (by obtain ⟨ds, S, Qd, Xd, _, _, ⟨d, _, h, _⟩, _⟩ := h; exact absurd h.dep (Nat.not_lt_zero _)), fun A outer s H args us vs Q E _ _ _ _ h => (by obtain ⟨ds, S, Qd, Xd, _, _, ⟨d, _, h, _⟩, _⟩ := h; exact absurd h.dep (Nat.not_lt_zero _))⟩
  | n + 1, hn => by
    have G__law_like : Df P w K mg base C "_law_like" n ["_law_found", "_law_due"] (spLike n) := ⟨f, fd, ok_likeD F T hm hk hb n (by omega), hm, hk, hb⟩
    refine dok_of F sc__law_like (fun ds S Q Xd h => ?_) (fun cdv A outer s B Ex ds S Q Xd hr dx h => ?_)
    · obtain ⟨d, rfl, _⟩ := h
      rfl
    · have sc := sc__law_like
      refine ⟨_, (dss_cons (ds_if (dt_val (de_callB cd_isi T.b_isinstance (by decide +kernel) (da_cons (de_var 1) (da_cons (de_tup (da_cons (de_gty (n := "list") T.b_list (by decide +kernel)) (da_cons (de_gty (n := "tuple") T.b_tuple (by decide +kernel)) da_nil))) da_nil)))) (dss_cons (ds_if (dt_w (dw_or (dt_cmp (od_ne hr.units) (de_callB cd_isi T.b_isinstance (by decide +kernel) (da_cons (de_var 0) (da_cons (de_gty (n := "list") T.b_list (by decide +kernel)) da_nil))) (de_callB cd_isi T.b_isinstance (by decide +kernel) (da_cons (de_var 1) (da_cons (de_gty (n := "list") T.b_list (by decide +kernel)) da_nil)))) (dw_or1 (dt_cmp (od_ne hr.units) (de_callB cd_isi T.b_isinstance (by decide +kernel) (da_cons (de_var 0) (da_cons (de_gty (n := "tuple") T.b_tuple (by decide +kernel)) da_nil))) (de_callB cd_isi T.b_isinstance (by decide +kernel) (da_cons (de_var 1) (da_cons (de_gty (n := "tuple") T.b_tuple (by decide +kernel)) da_nil))))))) (dss_one (ds_ret de_bl)) dss_nil) (dss_one (ds_ret (de_and (de_cmp (od_eq hr.units) (de_callB cd_len T.b_len (by decide +kernel) (da_cons (de_var 0) da_nil)) (de_callB cd_len T.b_len (by decide +kernel) (da_cons (de_var 1) da_nil))) (de_one (de_callB (cd_all rfl) T.b_all (by decide +kernel) (da_cons (de_lc true [("_law_one", 2), ("_law_other", 3)] rfl sc.nd (blkOk_by (N := ["_law_found", "_law_due", "_law_one", "_law_other"]) (sc := defScope s__law_like) (by decide +kernel)) (di_zip T.b_zip (da_cons (de_var 0) (da_cons (de_var 1) da_nil))) (fun _ _ _ _ _ _ => (dg_tup (n := 2) rfl (dgs_cons (dgn 2 sc.nd) (dgs_cons (dgn 3 sc.nd) dgs_nil)))) (fun _ _ _ _ _ _ => dts_nil) (fun _ _ _ _ _ _ => (de_callD G__law_like (hr.mono (by omega)) dx0 (da_cons (de_var 2) (da_cons (de_var 3) da_nil))))) da_nil))))))) dss_nil) (dss_cons (ds_if (dt_w (dw_or (dt_cmp od_is (de_var 0) de_non) (dw_or1 (dt_cmp od_is (de_var 1) de_non)))) (dss_one (ds_ret (de_and (de_cmp od_is (de_var 0) de_non) (de_one (de_cmp od_is (de_var 1) de_non))))) dss_nil) (dss_cons (ds_if (dt_w (dw_or (dt_cmp (od_ne hr.units) (de_callB cd_isi T.b_isinstance (by decide +kernel) (da_cons (de_var 0) (da_cons (de_gty (n := "bool") T.b_bool (by decide +kernel)) da_nil))) (de_callB cd_isi T.b_isinstance (by decide +kernel) (da_cons (de_var 1) (da_cons (de_gty (n := "bool") T.b_bool (by decide +kernel)) da_nil)))) (dw_or1 (dt_cmp (od_ne hr.units) (de_callB cd_isi T.b_isinstance (by decide +kernel) (da_cons (de_var 0) (da_cons (de_gty (n := "int") T.b_int (by decide +kernel)) da_nil))) (de_callB cd_isi T.b_isinstance (by decide +kernel) (da_cons (de_var 1) (da_cons (de_gty (n := "int") T.b_int (by decide +kernel)) da_nil))))))) (dss_one (ds_ret de_bl)) dss_nil) (dss_one (ds_ret (de_and (de_cmp (od_eq hr.units) (de_callB cd_isi T.b_isinstance (by decide +kernel) (da_cons (de_var 0) (da_cons (de_gty (n := "str") T.b_str (by decide +kernel)) da_nil))) (de_callB cd_isi T.b_isinstance (by decide +kernel) (da_cons (de_var 1) (da_cons (de_gty (n := "str") T.b_str (by decide +kernel)) da_nil)))) (de_one (de_cmp (od_eq hr.units) (de_var 0) (de_var 1))))))))), ?_⟩
      obtain ⟨d, rfl, hd, q⟩ := h
      have go2 : (2 : Nat) ≤ sizeLine := by decide
      cases d with
      | tup ds =>
        walk_at "go"
        refine ⟨by decide, dNe_self (.bl (n := n) false) ?_ (by omega)⟩
        walk_at "go"
        refine dNe_self (.bl (n := n) true) ?_ (by omega)
        walk_at "go"
        intro hz _
        refine dEq_self (Ok.int (n := 0) _).dat ?_ (by omega)
        walk_at "go"
        intro _
        rw [zipD_self]
        refine lc_map (fun _ => .bl true) (by rw [List.length_map]; exact hz) (fun e he S1 K1 hK => ?_) ?_
        · obtain ⟨x, hx, rfl⟩ := List.mem_map.mp he
          have hx' := hd.tups x hx
          walk_at "go"
          exact ⟨x, rfl, hx', hK⟩
        · walk_at "go"
          refine ⟨ds.map fun _ => true, by simp [List.map_map, Function.comp_def], .now ?_⟩
          rw [show (ds.map fun _ => true).all id = true by simp]
          exact q
      | lst ds =>
        walk_at "go"
        refine ⟨by decide, dNe_self (.bl (n := n) true) ?_ (by omega)⟩
        walk_at "go"
        refine dNe_self (.bl (n := n) false) ?_ (by omega)
        walk_at "go"
        intro hz _
        refine dEq_self (Ok.int (n := 0) _).dat ?_ (by omega)
        walk_at "go"
        intro _
        rw [zipD_self]
        refine lc_map (fun _ => .bl true) (by rw [List.length_map]; exact hz) (fun e he S1 K1 hK => ?_) ?_
        · obtain ⟨x, hx, rfl⟩ := List.mem_map.mp he
          have hx' := hd.lsts x hx
          walk_at "go"
          exact ⟨x, rfl, hx', hK⟩
        · walk_at "go"
          refine ⟨ds.map fun _ => true, by simp [List.map_map, Function.comp_def], .now ?_⟩
          rw [show (ds.map fun _ => true).all id = true by simp]
          exact q
      | non =>
        walk_at "go"
        exact ⟨by decide, .now q⟩
      | bl b =>
        walk_at "go"
        refine ⟨by decide, dNe_self (.bl (n := n) true) ?_ (by omega)⟩
        walk_at "go"
        refine dNe_self (.bl (n := n) true) ?_ (by omega)
        walk_at "go"
        refine dEq_self (.bl (n := n) false) ?_ (by omega)
        walk_at "go"
        exact dEq_self hd (.now q) (by omega)
      | int i =>
        walk_at "go"
        refine ⟨by decide, dNe_self (.bl (n := n) false) ?_ (by omega)⟩
        walk_at "go"
        refine dNe_self (.bl (n := n) true) ?_ (by omega)
        walk_at "go"
        refine dEq_self (.bl (n := n) false) ?_ (by omega)
        walk_at "go"
        exact dEq_self hd (.now q) (by omega)
      | str x =>
        walk_at "go"
        refine ⟨by decide, dNe_self (.bl (n := n) false) ?_ (by omega)⟩
        walk_at "go"
        refine dNe_self (.bl (n := n) false) ?_ (by omega)
        walk_at "go"
        refine dEq_self (.bl (n := n) true) ?_ (by omega)
        walk_at "go"
        exact dEq_self hd (.now q) (by omega)
      | _ => exact absurd hd.pur (by simp [pur])
theorem ok_like {f : Addr} {fd : FuncData} (F : Fun K "_law_like" "_law_like" s__law_like f fd) (T : Txt mg) (hm : mg "_law_like" = some (.ref f)) (hk : PySem.W.keepIn K (.ref f) = true) (hb : Binds K fd ["_law_found", "_law_due"] []) (n : Nat) (hn : n ≤ 60) : Df P w K mg base C "_law_like" n ["_law_found", "_law_due"] (spLike n) := ⟨f, fd, ok_likeD F T hm hk hb n hn, hm, hk, hb⟩
end
abbrev s__law_field : Stmt := topS 27
theorem sc__law_field : FnScope ["_law_e", "_law_fields", "_law_word", "_law_ask"] ["_law_e"] (defScope s__law_field) := ⟨rfl, rfl, rfl, by decide +kernel, rfl, by decide +kernel, by decide +kernel⟩
theorem ok_field {P : Program} {w : World} {K : PySem.W.Frag} {mg : Str → Option Value} {base : Heap} {C : Cf} {f c PF : Addr} {oc kV doc pm ct : Value} {od an : Option Addr} {osl : Array (Option Value)}
    (lk : K.lookup f = some ⟨oc, od, .func (PySem.W.fnOf "_law_field" "_law_field" (defArgs s__law_field) (defBody s__law_field) (defScope s__law_field) .none kV doc pm an (.ref c) ct), osl⟩) (hcd : PySem.W.codeIn K (.ref c) "_law_field" = true) (hkp : PySem.W.keepIn K (.ref f) = true) (hm : mg "_law_field" = some (.ref f))
    (hb : Binds K (PySem.W.fnOf "_law_field" "_law_field" (defArgs s__law_field) (defBody s__law_field) (defScope s__law_field) .none kV doc pm an (.ref c) ct) ["_law_e"] []) (TF : LamX.TabB base mg c PF) (hmF : (PF, lamName "_law_field") ∈ C.T) (huF : ∀ q ∈ C.T, q.1 = PF → q.2 = lamName "_law_field") : DfX P w K mg base C "_law_field" 2 spFld := by
  refine dfx_ofC lk hcd hkp sc__law_field hm hb fun A outer s B a oe xn S Q kx hr h => ?_
  have sc := sc__law_field
  have hu := (show A.units + 3 + 16 * 1 + 200 < _ from hr.un)
  refine ⟨_, (dss_cons (ds_if (dt_cmp od_in (de_xf kx (de_var 0)) (de_lst (da_cons de_str (da_cons de_str (da_cons de_str (da_cons de_str da_nil)))))) (dss_one (ds_ret (de_xf kx (de_var 0)))) dss_nil) (dss_cons (ds_if (dt_cmp od_in (de_xf kx (de_var 0)) (de_lst (da_cons de_str (da_cons de_str da_nil)))) (dss_one (ds_ret (de_xf kx (de_var 0)))) dss_nil) (dss_cons (ds_set 1 sc.nd (de_lst (da_cons (de_tup (da_cons de_str (da_cons (de_lamH (o := none) TF rfl hmF huF rfl (lamG_by (N := ["_law_e", "_law_fields", "_law_word", "_law_ask"]) (sc := defScope s__law_field) (by decide +kernel))) da_nil))) (da_cons (de_tup (da_cons de_str (da_cons (de_lamH (o := (some ("_law_a", 0))) TF rfl hmF huF ⟨.inl rfl, _, _, _, rfl⟩ (lamG_by (N := ["_law_e", "_law_fields", "_law_word", "_law_ask"]) (sc := defScope s__law_field) (by decide +kernel))) da_nil))) da_nil)))) (dss_cons (ds_set 1 sc.nd (de_bin od_add (de_var 1) (de_lst (da_cons (de_tup (da_cons de_str (da_cons (de_lamH (o := none) TF rfl hmF huF rfl (lamG_by (N := ["_law_e", "_law_fields", "_law_word", "_law_ask"]) (sc := defScope s__law_field) (by decide +kernel))) da_nil))) (da_cons (de_tup (da_cons de_str (da_cons (de_lamH (o := (some ("_law_a", 0))) TF rfl hmF huF ⟨.inl rfl, _, _, _, rfl⟩ (lamG_by (N := ["_law_e", "_law_fields", "_law_word", "_law_ask"]) (sc := defScope s__law_field) (by decide +kernel))) da_nil))) da_nil))))) (dss_cons (ds_set 1 sc.nd (de_bin od_add (de_var 1) (de_lst (da_cons (de_tup (da_cons de_str (da_cons (de_lamH (o := none) TF rfl hmF huF rfl (lamG_by (N := ["_law_e", "_law_fields", "_law_word", "_law_ask"]) (sc := defScope s__law_field) (by decide +kernel))) da_nil))) (da_cons (de_tup (da_cons de_str (da_cons (de_lamH (o := (some ("_law_a", 0))) TF rfl hmF huF ⟨.inl rfl, _, _, _, rfl⟩ (lamG_by (N := ["_law_e", "_law_fields", "_law_word", "_law_ask"]) (sc := defScope s__law_field) (by decide +kernel))) da_nil))) da_nil))))) (dss_cons (ds_set 1 sc.nd (de_bin od_add (de_var 1) (de_lst (da_cons (de_tup (da_cons de_str (da_cons (de_lamH (o := none) TF rfl hmF huF rfl (lamG_by (N := ["_law_e", "_law_fields", "_law_word", "_law_ask"]) (sc := defScope s__law_field) (by decide +kernel))) da_nil))) (da_cons (de_tup (da_cons de_str (da_cons (de_lamH (o := (some ("_law_a", 0))) TF rfl hmF huF ⟨.inl rfl, _, _, _, rfl⟩ (lamG_by (N := ["_law_e", "_law_fields", "_law_word", "_law_ask"]) (sc := defScope s__law_field) (by decide +kernel))) da_nil))) da_nil))))) (dss_cons (ds_set 1 sc.nd (de_bin od_add (de_var 1) (de_lst (da_cons (de_tup (da_cons de_str (da_cons (de_lamH (o := none) TF rfl hmF huF rfl (lamG_by (N := ["_law_e", "_law_fields", "_law_word", "_law_ask"]) (sc := defScope s__law_field) (by decide +kernel))) da_nil))) (da_cons (de_tup (da_cons de_str (da_cons (de_lamH (o := (some ("_law_a", 0))) TF rfl hmF huF ⟨.inl rfl, _, _, _, rfl⟩ (lamG_by (N := ["_law_e", "_law_fields", "_law_word", "_law_ask"]) (sc := defScope s__law_field) (by decide +kernel))) da_nil))) da_nil))))) (dss_cons (ds_set 1 sc.nd (de_bin od_add (de_var 1) (de_lst (da_cons (de_tup (da_cons de_str (da_cons (de_lamH (o := none) TF rfl hmF huF rfl (lamG_by (N := ["_law_e", "_law_fields", "_law_word", "_law_ask"]) (sc := defScope s__law_field) (by decide +kernel))) da_nil))) (da_cons (de_tup (da_cons de_str (da_cons (de_lamH (o := (some ("_law_a", 0))) TF rfl hmF huF ⟨.inl rfl, _, _, _, rfl⟩ (lamG_by (N := ["_law_e", "_law_fields", "_law_word", "_law_ask"]) (sc := defScope s__law_field) (by decide +kernel))) da_nil))) da_nil))))) (dss_cons (ds_forH (passes_of rfl) kx.hot (di_lstH (de_var 1)) (dg_tupH (n := 2) kx.hot (dgs_cons (dgn 2 sc.nd) (dgs_cons (dgn 3 sc.nd) dgs_nil))) (dss_one (ds_if (dt_cmp (od_eq (by show A.units + 3 + 64 < _; omega)) (de_var 2) (de_xf kx (de_var 0))) (dss_one (ds_ret (de_askCall (k := 0) (i := 3) (j := 0) kx hr rfl (by first | exact Or.inl rfl | exact Or.inr (Or.inl rfl)) rfl))) dss_nil))) (dss_one (ds_ret de_non))))))))))), ?_⟩
  obtain ⟨wd, hw, ok, h⟩ := h
  walk_at "go"
  refine ⟨.str wd, hw, by decide, rfl, rfl, ?_⟩
  by_cases w1 : wd ∈ (["invalidname", "duplicatename", "nameinuse", "unknownname"] : List Str)
  · rw [show inD (.str wd) [.str "invalidname", .str "duplicatename", .str "nameinuse", .str "unknownname"] = true from (inD_strs (ns := ["invalidname", "duplicatename", "nameinuse", "unknownname"])).trans (decide_eq_true w1)]
    have e : fldTab.lookup wd = some "name" := by
      simp only [List.mem_cons, List.not_mem_nil, or_false] at w1
      rcases w1 with rfl | rfl | rfl | rfl <;> decide +kernel
    rw [e] at h
    obtain ⟨v, h2, q⟩ := h
    walk_at "go"
    exact ⟨v, h2, .now q⟩
  rw [show inD (.str wd) [.str "invalidname", .str "duplicatename", .str "nameinuse", .str "unknownname"] = false from (inD_strs (ns := ["invalidname", "duplicatename", "nameinuse", "unknownname"])).trans (decide_eq_false w1)]
  walk_at "go"
  refine ⟨.str wd, hw, by decide, rfl, rfl, ?_⟩
  by_cases w2 : wd ∈ (["toofar", "invalidfloor"] : List Str)
  · rw [show inD (.str wd) [.str "toofar", .str "invalidfloor"] = true from (inD_strs (ns := ["toofar", "invalidfloor"])).trans (decide_eq_true w2)]
    have e : fldTab.lookup wd = some "floor" := by
      simp only [List.mem_cons, List.not_mem_nil, or_false] at w2
      rcases w2 with rfl | rfl <;> decide +kernel
    rw [e] at h
    obtain ⟨v, h2, q⟩ := h
    walk_at "go"
    exact ⟨v, h2, .now q⟩
  rw [show inD (.str wd) [.str "toofar", .str "invalidfloor"] = false from (inD_strs (ns := ["toofar", "invalidfloor"])).trans (decide_eq_false w2)]
  walk_at "go"
  refine fun o0 c0 t0 h0 => ⟨by decide, fun o1 c1 t1 h1 => ⟨by decide, by decide, ?_⟩⟩
  refine fun o2 c2 t2 h2 => ⟨by decide, fun o3 c3 t3 h3 => ⟨by decide, by decide, ?_⟩⟩
  refine ⟨by decide, ?_⟩
  refine fun o4 c4 t4 h4 => ⟨by decide, fun o5 c5 t5 h5 => ⟨by decide, by decide, ?_⟩⟩
  refine ⟨by decide, ?_⟩
  refine fun o6 c6 t6 h6 => ⟨by decide, fun o7 c7 t7 h7 => ⟨by decide, by decide, ?_⟩⟩
  refine ⟨by decide, ?_⟩
  refine fun o8 c8 t8 h8 => ⟨by decide, fun o9 c9 t9 h9 => ⟨by decide, by decide, ?_⟩⟩
  refine ⟨by decide, ?_⟩
  refine fun o10 c10 t10 h10 => ⟨by decide, fun o11 c11 t11 h11 => ⟨by decide, by decide, ?_⟩⟩
  refine ⟨by decide, ?_⟩
  refine fun _ => ask_loop hw ok [("invalidtable", "index", o0, c0, t0), ("limitexceeded", "limit", o1, c1, t1), ("invalidroom", "room", o2, c2, t2), ("invalidrank", "rank", o3, c3, t3), ("invalidhand", "step", o4, c4, t4), ("invalidcount", "count", o5, c5, t5), ("invalidstay", "stay", o6, c6, t6), ("endreached", "available", o7, c7, t7), ("noshow", "found", o8, c8, t8), ("capacityexceeded", "capacity", o9, c9, t9), ("invalidcommand", "position", o10, c10, t10), ("invalidfile", "line", o11, c11, t11)] (fun r hr => ?_) (fun f e => ?_) (fun e E => ?_) _ _
  · simp only [List.mem_cons, List.not_mem_nil, or_false] at hr
    rcases hr with rfl | rfl | rfl | rfl | rfl | rfl | rfl | rfl | rfl | rfl | rfl | rfl
    · exact ⟨show PyData.strOk ("invalidtable" : Str) = true by decide +kernel, h0⟩
    · exact ⟨show PyData.strOk ("limitexceeded" : Str) = true by decide +kernel, h1⟩
    · exact ⟨show PyData.strOk ("invalidroom" : Str) = true by decide +kernel, h2⟩
    · exact ⟨show PyData.strOk ("invalidrank" : Str) = true by decide +kernel, h3⟩
    · exact ⟨show PyData.strOk ("invalidhand" : Str) = true by decide +kernel, h4⟩
    · exact ⟨show PyData.strOk ("invalidcount" : Str) = true by decide +kernel, h5⟩
    · exact ⟨show PyData.strOk ("invalidstay" : Str) = true by decide +kernel, h6⟩
    · exact ⟨show PyData.strOk ("endreached" : Str) = true by decide +kernel, h7⟩
    · exact ⟨show PyData.strOk ("noshow" : Str) = true by decide +kernel, h8⟩
    · exact ⟨show PyData.strOk ("capacityexceeded" : Str) = true by decide +kernel, h9⟩
    · exact ⟨show PyData.strOk ("invalidcommand" : Str) = true by decide +kernel, h10⟩
    · exact ⟨show PyData.strOk ("invalidfile" : Str) = true by decide +kernel, h11⟩
  · rw [show fldTab.lookup wd = some f from (fldTab_rest w1 w2).trans e] at h
    obtain ⟨v, h2, q⟩ := h
    exact ⟨v, h2, .now q⟩
  · rw [show fldTab.lookup wd = none from (fldTab_rest w1 w2).trans e] at h
    walk_at "go"
    exact .now h
abbrev s__law_table : Stmt := topS 30
theorem sc__law_table : FnScope ["_law_bag_here", "_law_rooms", "_law_many", "_law_rows", "_law_room", "_law_at", "_law_place", "_law_row", "_law_door"] ["_law_bag_here", "_law_rooms", "_law_many"] (defScope s__law_table) := ⟨rfl, rfl, rfl, by decide +kernel, rfl, by decide +kernel, by decide +kernel⟩
/-! ### tables of drawn clocks -/
abbrev Tab := List (List Int)
def rowL (r : List Int) : D := .lst (r.map D.int)
def rowT (r : List Int) : D := .tup (r.map D.int)
def tabD (t : Tab) : D := .tup (t.map rowT)
def listOf : D → List D
  | .lst ds => ds
  | _ => []
theorem flat_ints (r : List Int) : (r.map D.int).all flatD = true := List.all_eq_true.mpr fun d hd => by
  obtain ⟨x, _, rfl⟩ := List.mem_map.mp hd
  rfl
/-- the rows of a table over rooms, some of its doors still missing -/
structure RowsOk (rooms : Int) (many : Nat) (most : Nat) (t : Tab) : Prop where
  len : t.length = many
  row : ∀ r ∈ t, r ≠ [] ∧ r.length ≤ most ∧ ∀ d ∈ r, 0 ≤ d ∧ d < rooms
structure TabOk (rooms : Int) (many : Nat) (t : Tab) : Prop where
  ok : RowsOk rooms many 6 t
  on : ∀ x, 0 ≤ x → x < rooms → ∃ r ∈ t, x ∈ r
def spTable : DSp := fun ds S Q _ => ∃ (p : Addr) (rooms many : Int), ds = [.ref p, .int rooms, .int many] ∧ BagAt S p ∧ 1 ≤ rooms ∧ rooms ≤ 3 ∧ 1 ≤ many ∧ many ≤ 3 ∧ ∀ t S', BagAt S' p → Off p S S' → TabOk rooms many.toNat t → Q (tabD t) S'
section
variable {P : Program} {w : World} {K : PySem.W.Frag} {mg : Str → Option Value} {base : Heap} {C : Cf}
theorem ok_table {f : Addr} {fd : FuncData} (F : Fun K "_law_table" "_law_table" s__law_table f fd) (T : Txt mg) (G__law_pull : Df P w K mg base C "_law_pull" 1 ["_law_bag_here", "_law_many"] spPull) : DOk P w K mg base C 2 f fd ["_law_bag_here", "_law_rooms", "_law_many"] spTable := by
  refine dok_of F sc__law_table (fun ds S Q Xd h => ?_) (fun cdv A outer s B Ex ds S Q Xd hr dx h => ?_)
  · obtain ⟨p, rooms, many, rfl, _⟩ := h
    rfl
  · have sc := sc__law_table
    refine ⟨_, (dss_cons (ds_setLc 3 false [("_law_row", 7)] rfl sc.nd (blkOk_by (N := ["_law_bag_here", "_law_rooms", "_law_many", "_law_rows", "_law_room", "_law_at", "_law_place", "_law_row", "_law_door"]) (sc := defScope s__law_table) (by decide +kernel)) (di_range1 T.b_range (da_cons (de_var 2) da_nil)) (fun _ _ _ _ _ _ => (dg_name 7 sc.nd)) (fun _ _ _ _ _ _ => dts_nil) (fun _ _ _ _ _ _ => (de_lc true [("_law_door", 8)] rfl sc.nd (blkOk_by (by kernel_rfl)) (di_range1 T.b_range (da_cons (de_bin od_add de_int (de_callD G__law_pull (hr.mono (by omega)) dx0 (da_cons (de_var 0) (da_cons de_int da_nil)))) da_nil)) (fun _ _ _ _ _ _ => (dg_name 8 sc.nd)) (fun _ _ _ _ _ _ => dts_nil) (fun _ _ _ _ _ _ => (de_callD G__law_pull (hr.mono (by omega)) dx0 (da_cons (de_var 0) (da_cons (de_var 1) da_nil)))))) (sw_true rfl rfl rfl (by decide +kernel))) (dss_cons (ds_for (passes_of rfl) rfl (di_range1 T.b_range (da_cons (de_var 1) da_nil)) (dg_name 4 sc.nd) (dss_one (ds_if (dt_not (dt_val (de_callB (cd_any rfl) T.b_any (by decide +kernel) (da_cons (de_lc true [("_law_row", 7)] rfl sc.nd (blkOk_by (N := ["_law_bag_here", "_law_rooms", "_law_many", "_law_rows", "_law_room", "_law_at", "_law_place", "_law_row", "_law_door"]) (sc := defScope s__law_table) (by decide +kernel)) (di_seq (de_var 3)) (fun _ _ _ _ _ _ => (dg_name 7 sc.nd)) (fun _ _ _ _ _ _ => dts_nil) (fun _ _ _ _ _ _ => (de_cmp od_in (de_var 4) (de_var 7)))) da_nil)))) (dss_cons (ds_set 5 sc.nd (de_callD G__law_pull (hr.mono (by omega)) dx (da_cons (de_var 0) (da_cons (de_var 2) da_nil)))) (dss_cons (ds_set 6 sc.nd (de_callD G__law_pull (hr.mono (by omega)) dx (da_cons (de_var 0) (da_cons (de_bin od_add (de_callB cd_len T.b_len (by decide +kernel) (da_cons (de_ix (de_var 3) (de_var 5)) da_nil)) de_int) da_nil)))) (dss_one (ds_asg (de_bin od_add (de_bin od_add (de_slice (de_ix (de_var 3) (de_var 5)) do_none (do_some (de_var 6))) (de_lst (da_cons (de_var 4) da_nil))) (de_slice (de_ix (de_var 3) (de_var 5)) (do_some (de_var 6)) do_none)) (dg_sub (de_var 3) (de_var 5)))))) dss_nil))) (dss_one (ds_ret (de_callTy cd_tuple T.b_tuple (by decide +kernel) (da_cons (de_lc true [("_law_row", 7)] rfl sc.nd (blkOk_by (N := ["_law_bag_here", "_law_rooms", "_law_many", "_law_rows", "_law_room", "_law_at", "_law_place", "_law_row", "_law_door"]) (sc := defScope s__law_table) (by decide +kernel)) (di_seq (de_var 3)) (fun _ _ _ _ _ _ => (dg_name 7 sc.nd)) (fun _ _ _ _ _ _ => dts_nil) (fun _ _ _ _ _ _ => (de_callTy cd_tuple T.b_tuple (by decide +kernel) (da_cons (de_var 7) da_nil)))) da_nil)))))), ?_⟩
    obtain ⟨p, rooms, many, rfl, hb, r1, r3, m1, m3, q⟩ := h
    walk_at "go"
    refine ⟨by omega, fun Z hZ => ?_⟩
    refine lc_invG (fun acc S1 => ∃ t : Tab, acc = t.map rowL ∧ (∀ r ∈ t, r ≠ [] ∧ r.length ≤ 3 ∧ ∀ d ∈ r, 0 ≤ d ∧ d < rooms) ∧ BagAt S1 p ∧ Off p S S1) (by rw [rngD_length, PySem.sizeLine_eq]; simp; omega) hZ ⟨[], rfl, (fun r hr => by cases hr), hb, Off.refl p S⟩ (fun d acc S1 hd hP o K1 hZ1 hK => ?_) fun acc S1 hlen hZ1 hP => ?_
    · obtain ⟨t, rfl, ht, hb1, off1⟩ := hP
      walk_at "go"
      refine ⟨p, 3, by simp [wipeD], hb1.put hZ1, by decide, by decide, fun k S2 hb2 off2 k0 k3 => ?_⟩
      obtain ⟨S3, rfl, hZ3, hb3, off3⟩ := bag_under off2 hZ1 hb1 hb2
      walk_at "go"
      refine ⟨by omega, fun Z2 hZ2 => ?_⟩
      refine lc_inv (fun acc S4 => ∃ r : List Int, acc = r.map D.int ∧ (∀ d ∈ r, 0 ≤ d ∧ d < rooms) ∧ BagAt S4 p ∧ Off p (S3.put Z o) S4) (by rw [rngD_length, PySem.sizeLine_eq]; simp; omega) hZ2 ⟨[], rfl, (fun d hd => by cases hd), hb2, Off.refl p _⟩ (fun d acc S4 hd hP o2 K2 hZ4 hK2 => ?_) fun acc S4 hlen hP => ?_
      · obtain ⟨r, rfl, hr1, hb4, off4⟩ := hP
        walk_at "go"
        refine ⟨p, rooms, by simp [wipeD], hb4.put hZ4, by omega, by omega, fun x S5 hb5 off5 x0 x1 => ?_⟩
        obtain ⟨S6, rfl, hZ6, hb6, off6⟩ := bag_under off5 hZ4 hb4 hb5
        refine hK2 _ S6 hZ6 ⟨r ++ [x], by rw [List.map_append]; rfl, fun d hd => ?_, hb6, off4.trans off6⟩
        rcases List.mem_append.mp hd with hd | hd
        · exact hr1 d hd
        · rw [List.mem_singleton.mp hd]
          exact ⟨x0, x1⟩
      · obtain ⟨r, rfl, hr1, hb4, off4⟩ := hP
        rw [rngD_length, List.length_map] at hlen
        simp only [List.length_nil, Nat.zero_add] at hlen
        obtain ⟨S5, rfl, hZ5, hb5, off5⟩ := bag_under off4 hZ3 hb3 hb4
        refine hK _ S5 hZ5 ⟨t ++ [r], by rw [List.map_append]; rfl, fun r' hr' => ?_, hb5, (off1.trans off3).trans off5⟩
        rcases List.mem_append.mp hr' with hr' | hr'
        · exact ht r' hr'
        · rw [List.mem_singleton.mp hr']
          exact ⟨fun z => by rw [z] at hlen; simp at hlen; omega, by omega, hr1⟩
    · obtain ⟨t, rfl, ht, hb1, off1⟩ := hP
      rw [rngD_length, List.length_map] at hlen
      simp only [List.length_nil, Nat.zero_add] at hlen
      walk_at "go"
      have neZ : Z ≠ p := hb.ne hZ
      refine ⟨by omega, forL_range (fun i E S2 => (∃ x4 x5 x6 x7 x8, E = [some (.ref p), some (.int rooms), some (.int many), some (.ref Z), x4, x5, x6, x7, x8]) ∧ ∃ t : Tab, S2 Z = some (.lst (t.map rowL)) ∧ BagAt S2 p ∧ (∀ b, b ≠ p → b ≠ Z → S2 b = S b) ∧ t.length = many.toNat ∧
        (∀ r ∈ t, r ≠ [] ∧ (r.length : Int) ≤ 3 + i ∧ ∀ d ∈ r, 0 ≤ d ∧ d < rooms) ∧ ∀ x, 0 ≤ x → x < i → ∃ r ∈ t, x ∈ r) _ _ (fun i E S2 i1 i2 hP nx hn => ?_) (fun E S2 hP => ?_) _ _ ⟨⟨_, _, _, _, _, rfl⟩, t, Sto.put_same, hb1.put hZ1, fun b h1 h2 => ?_, by omega, fun r hr => ⟨(ht r hr).1, by have := (ht r hr).2.1; omega, (ht r hr).2.2⟩, fun x h1 h2 => by omega⟩⟩
      · obtain ⟨⟨x4, x5, x6, x7, x8, rfl⟩, t, hS2, hb2, off2, tl, tr, tn⟩ := hP
        walk_at "go"
        refine ⟨_, hS2, fun hl => lc_mapLive (fun d => .bl (inD (.int i) (listOf d))) hS2 hl (fun d hd S3 K1 hK => ?_) ?_⟩
        · obtain ⟨r, _, rfl⟩ := List.mem_map.mp hd
          unfold rowL at hK ⊢
          walk_at "go"
          exact ⟨rfl, flat_ints r, hK⟩
        · walk_at "go"
          refine ⟨t.map fun r => decide (i ∈ r), ?_, ?_⟩
          · rw [List.map_map, List.map_map]
            refine List.map_congr_left fun r _ => ?_
            show D.bl (inD (.int i) (r.map D.int)) = _
            rw [inD_ints]
            rfl
          · cases hany : List.any (t.map fun r => decide (i ∈ r)) id with
            | true =>
              walk_at "go"
              refine hn _ _ ⟨⟨_, _, _, _, _, rfl⟩, t, hS2, hb2, off2, tl, fun r hr => ⟨(tr r hr).1, by have := (tr r hr).2.1; omega, (tr r hr).2.2⟩, fun x h1 h2 => ?_⟩
              by_cases e : x = i
              · subst e
                obtain ⟨y, hy, e⟩ := List.any_eq_true.mp hany
                obtain ⟨r, hr, rfl⟩ := List.mem_map.mp hy
                exact ⟨r, hr, of_decide_eq_true e⟩
              · exact tn x h1 (by omega)
            | false =>
              walk_at "go"
              refine ⟨p, many, rfl, hb2, by omega, by omega, fun a S3 hb3 off3 a0 a1 => ?_⟩
              obtain ⟨n, rfl⟩ := Int.eq_ofNat_of_zero_le a0
              have hS3 : S3 Z = some (.lst (t.map rowL)) := (off3 Z neZ).trans hS2
              have hn1 : n < t.length := by omega
              obtain ⟨r, er⟩ : ∃ r, t[n]? = some r := ⟨t[n], List.getElem?_eq_getElem hn1⟩
              have hr := tr r (List.mem_of_getElem? er)
              have hat : atI (t.map rowL) (n : Int) = some (rowL r) := atI_nat (by rw [List.getElem?_map, er]; rfl)
              walk_at "go"
              refine ⟨_, hS3, _, hat, ?_⟩
              unfold rowL at hat ⊢
              walk_at "go"
              intro _
              rw [List.length_map]
              refine ⟨p, _, rfl, hb3, by omega, by omega, fun k S4 hb4 off4 k0 k1 => ?_⟩
              obtain ⟨m, rfl⟩ := Int.eq_ofNat_of_zero_le k0
              have hS4 : S4 Z = some (.lst (t.map rowL)) := (off4 Z neZ).trans hS3
              refine ⟨_, hS4, _, hat, ?_⟩
              walk_at "go"
              rw [cutD_to, ← List.map_take]
              have hm : m ≤ r.length := by omega
              have hlen2 : (r.take m).length = m := by rw [List.length_take]; omega
              refine ⟨by decide, by rw [List.length_map, hlen2, PySem.sizeLine_eq]; omega, _, hS4, _, hat, ?_⟩
              walk_at "go"
              rw [cutD_from, ← List.map_drop]
              have ecat : (r.take m).map D.int ++ [D.int i] ++ (r.drop m).map D.int = (r.take m ++ [i] ++ r.drop m).map D.int := by
                rw [List.map_append, List.map_append]
                rfl
              refine ⟨by simp only [List.length_append, List.length_map, List.length_cons, List.length_nil, List.length_drop]; rw [hlen2, PySem.sizeLine_eq]; omega, ?_⟩
              rw [ecat]
              have hmem : ∀ y, y ∈ r.take m ++ [i] ++ r.drop m ↔ y ∈ r ∨ y = i := fun y => by
                rw [List.mem_append, List.mem_append, List.mem_singleton]
                constructor
                · rintro ((h | h) | h)
                  · exact .inl (List.mem_of_mem_take h)
                  · exact .inr h
                  · exact .inl (List.mem_of_mem_drop h)
                · rintro (h | h)
                  · have h : y ∈ r.take m ++ r.drop m := by rw [List.take_append_drop]; exact h
                    rcases List.mem_append.mp h with h | h
                    · exact .inl (.inl h)
                    · exact .inr h
                  · exact .inl (.inr h)
              have hlenN : ((r.take m ++ [i] ++ r.drop m).length : Int) = r.length + 1 := by
                simp only [List.length_append, List.length_cons, List.length_nil, List.length_drop, hlen2]
                omega
              refine ⟨_, n, hS4, by rw [List.length_map]; unfold L2.ixN; simp; omega, hn _ _ ⟨⟨_, _, _, _, _, rfl⟩, t.set n (r.take m ++ [i] ++ r.drop m), ?_, ?_, fun b h1 h2 => ?_, by rw [List.length_set]; exact tl, fun r' hr' => ?_, fun x h1 h2 => ?_⟩⟩
              · rw [Sto.put_same, List.map_set]
                rfl
              · obtain ⟨b, g, e⟩ := hb4
                exact ⟨b, g, by rw [Sto.put_ne neZ.symm]; exact e⟩
              · rw [Sto.put_ne h2, off4 b h1, off3 b h1]
                exact off2 b h1 h2
              · rcases List.mem_or_eq_of_mem_set hr' with h | h
                · exact ⟨(tr r' h).1, by have := (tr r' h).2.1; omega, (tr r' h).2.2⟩
                · rw [h]
                  refine ⟨by simp, by rw [hlenN]; have := hr.2.1; omega, fun y hy => ?_⟩
                  rcases (hmem y).mp hy with hy | hy
                  · exact hr.2.2 y hy
                  · rw [hy]
                    omega
              · have hset : r.take m ++ [i] ++ r.drop m ∈ t.set n (r.take m ++ [i] ++ r.drop m) := List.mem_iff_getElem?.mpr ⟨n, List.getElem?_set_self hn1⟩
                by_cases e : x = i
                · exact ⟨_, hset, (hmem x).mpr (.inr e)⟩
                · obtain ⟨r2, hr2, hx2⟩ := tn x h1 (by omega)
                  obtain ⟨j, hj⟩ := List.getElem?_of_mem hr2
                  by_cases ej : n = j
                  · subst ej
                    rw [er] at hj
                    cases hj
                    exact ⟨_, hset, (hmem x).mpr (.inl hx2)⟩
                  · exact ⟨r2, List.mem_iff_getElem?.mpr ⟨j, by rw [List.getElem?_set_ne ej]; exact hj⟩, hx2⟩
      · obtain ⟨⟨x4, x5, x6, x7, x8, rfl⟩, t, hS2, hb2, off2, tl, tr, tn⟩ := hP
        walk_at "go"
        refine ⟨_, hS2, fun hl => lc_mapLive (fun d => .tup (listOf d)) hS2 hl (fun d hd S3 K1 hK => ?_) ?_⟩
        · obtain ⟨r, _, rfl⟩ := List.mem_map.mp hd
          unfold rowL at hK ⊢
          walk_at "go"
          exact hK
        · walk_at "go"
          rw [List.map_map]
          refine UpK.of (S := S2.del Z) (fun b o h => ?_) (q t _ ?_ (fun b hbp => ?_) ⟨⟨tl, fun r hr => ⟨(tr r hr).1, by have := (tr r hr).2.1; omega, (tr r hr).2.2⟩⟩, fun x h1 h2 => tn x h1 (by omega)⟩)
          · unfold Sto.del at h
            split at h
            · cases h
            · exact h
          · obtain ⟨b, g, e⟩ := hb2
            exact ⟨b, g, by rw [Sto.del_ne neZ.symm]; exact e⟩
          · by_cases e : b = Z
            · rw [e, Sto.del_same, hZ]
            · rw [Sto.del_ne e]
              exact off2 b hbp e
      · rw [Sto.put_ne h2]
        exact off1 b h1
end
abbrev s__law_plan : Stmt := topS 31
theorem sc__law_plan : FnScope ["_law_bag_here", "_law_head", "_law_cycle", "_law_rooms", "_law_most", "_law_turn", "_law_fresh", "_law_begin", "_law_last", "_law_many"] ["_law_bag_here"] (defScope s__law_plan) := ⟨rfl, rfl, rfl, by decide +kernel, rfl, by decide +kernel, by decide +kernel⟩
/-! ### drawn clocks -/
def Chain : Int → List Tab → Int → Prop
  | r, [], e => r = e
  | r, t :: ts, e => (TabOk r t.length t ∧ 1 ≤ t.length ∧ t.length ≤ 3) ∧ Chain t.length ts e
theorem Chain.snoc {t : Tab} : ∀ {ts : List Tab} {r m : Int}, Chain r ts m → TabOk m t.length t → 1 ≤ t.length → t.length ≤ 3 → Chain r (ts ++ [t]) t.length
  | [], r, m, h, k, h1, h3 => by
    have h : r = m := h
    subst h
    exact ⟨⟨k, h1, h3⟩, rfl⟩
  | u :: ts, r, m, h, k, h1, h3 => ⟨h.1, Chain.snoc h.2 k h1 h3⟩
structure PlanOk (h c : List Tab) : Prop where
  h2 : h.length ≤ 2
  c1 : 1 ≤ c.length
  c3 : c.length ≤ 3
  ch : ∃ b : Int, 1 ≤ b ∧ b ≤ 3 ∧ Chain 1 h b ∧ Chain b c b
def planD (h c : List Tab) : D := .tup [.lst (h.map tabD), .lst (c.map tabD)]
def spPlan : DSp := fun ds S Q _ => ∃ p : Addr, ds = [.ref p] ∧ BagAt S p ∧ ∀ h c S', BagAt S' p → Off p S S' → PlanOk h c → Q (planD h c) S'
section
variable {P : Program} {w : World} {K : PySem.W.Frag} {mg : Str → Option Value} {base : Heap} {C : Cf}
theorem ok_plan {f : Addr} {fd : FuncData} (F : Fun K "_law_plan" "_law_plan" s__law_plan f fd) (T : Txt mg) (G__law_pull : Df P w K mg base C "_law_pull" 1 ["_law_bag_here", "_law_many"] spPull) (G__law_of : Df P w K mg base C "_law_of" 2 ["_law_bag_here", "_law_things"] spOf) (G__law_table : Df P w K mg base C "_law_table" 2 ["_law_bag_here", "_law_rooms", "_law_many"] spTable) :
    DOk P w K mg base C 3 f fd ["_law_bag_here"] spPlan := by
  refine dok_of F sc__law_plan (fun ds S Q Xd h => ?_) (fun cdv A outer s B Ex ds S Q Xd hr dx h => ?_)
  · obtain ⟨p, rfl, _⟩ := h
    rfl
  · have sc := sc__law_plan
    refine ⟨_, (dss_cons (ds_par3 1 2 3 rfl sc.nd (da_cons (de_lst da_nil) (da_cons (de_lst da_nil) (da_cons de_int da_nil)))) (dss_cons (ds_set 4 sc.nd (de_callD G__law_of (hr.mono (by omega)) dx (da_cons (de_var 0) (da_cons (de_lst (da_cons de_int (da_cons de_int (da_cons de_int (da_cons de_int da_nil))))) da_nil)))) (dss_cons (ds_for (passes_of rfl) rfl (di_range1 T.b_range (da_cons (de_callD G__law_pull (hr.mono (by omega)) dx (da_cons (de_var 0) (da_cons de_int da_nil))) da_nil)) (dg_name 5 sc.nd) (dss_cons (ds_set 6 sc.nd (de_callD G__law_table (hr.mono (by omega)) dx (da_cons (de_var 0) (da_cons (de_var 3) (da_cons (de_bin od_add de_int (de_callD G__law_pull (hr.mono (by omega)) dx (da_cons (de_var 0) (da_cons (de_var 4) da_nil)))) da_nil))))) (dss_one (ds_par 1 3 rfl sc.nd (da_cons (de_bin od_add (de_var 1) (de_lst (da_cons (de_var 6) da_nil))) (da_cons (de_callB cd_len T.b_len (by decide +kernel) (da_cons (de_var 6) da_nil)) da_nil)))))) (dss_cons (ds_par 7 8 rfl sc.nd (da_cons (de_var 3) (da_cons (de_bin od_add de_int (de_callD G__law_pull (hr.mono (by omega)) dx (da_cons (de_var 0) (da_cons de_int da_nil)))) da_nil))) (dss_cons (ds_for (passes_of rfl) rfl (di_range1 T.b_range (da_cons (de_var 8) da_nil)) (dg_name 5 sc.nd) (dss_cons (ds_set 9 sc.nd (de_ife (dt_cmp (od_eq hr.units) (de_bin od_add (de_var 5) de_int) (de_var 8)) (de_var 7) (de_bin od_add de_int (de_callD G__law_pull (hr.mono (by omega)) dx (da_cons (de_var 0) (da_cons (de_var 4) da_nil)))))) (dss_cons (ds_set 6 sc.nd (de_callD G__law_table (hr.mono (by omega)) dx (da_cons (de_var 0) (da_cons (de_var 3) (da_cons (de_var 9) da_nil))))) (dss_one (ds_par 2 3 rfl sc.nd (da_cons (de_bin od_add (de_var 2) (de_lst (da_cons (de_var 6) da_nil))) (da_cons (de_callB cd_len T.b_len (by decide +kernel) (da_cons (de_var 6) da_nil)) da_nil))))))) (dss_one (ds_ret (de_tup (da_cons (de_var 1) (da_cons (de_var 2) da_nil)))))))))), ?_⟩
    obtain ⟨p, rfl, hb, q⟩ := h
    walk_at "go"
    refine ⟨by decide, by decide, by decide, p, _, rfl, hb, by decide, by decide, fun mo S1 hb1 off1 hmo => ?_⟩
    obtain ⟨most, rfl, m0, m3⟩ : ∃ most : Int, mo = .int most ∧ 1 ≤ most ∧ most ≤ 3 := by
      simp only [List.mem_cons, List.not_mem_nil, or_false] at hmo
      rcases hmo with rfl | rfl | rfl | rfl <;> exact ⟨_, rfl, by decide, by decide⟩
    walk_at "go"
    refine ⟨p, 3, rfl, hb1, by decide, by decide, fun k S2 hb2 off2 k0 k3 => ?_⟩
    walk_at "go"
    refine ⟨by omega, forL_range (fun i E S3 => (∃ (h : List Tab) (rooms : Int) (x5 x6 x7 x8 x9 : Option D), E = [some (.ref p), some (.lst (h.map tabD)), some (.lst []), some (.int rooms), some (.int most), x5, x6, x7, x8, x9] ∧ Chain 1 h rooms ∧ 1 ≤ rooms ∧ rooms ≤ 3 ∧ (h.length : Int) = i) ∧ BagAt S3 p ∧ Off p S S3) _ _ (fun i E S3 i1 i2 hP nx hn => ?_) (fun E S3 hP => ?_) _ _ ⟨⟨[], 1, _, _, _, _, _, rfl, rfl, by decide, by decide, rfl⟩, hb2, off1.trans off2⟩⟩
    · obtain ⟨⟨h, rooms, x5, x6, x7, x8, x9, rfl, ch, ro1, ro3, hl⟩, hb3, off3⟩ := hP
      walk_at "go"
      refine ⟨p, most, rfl, hb3, by omega, by omega, fun k2 S4 hb4 off4 k20 k21 => ?_⟩
      walk_at "go"
      refine ⟨p, rooms, _, rfl, hb4, ro1, ro3, by omega, by omega, fun t S5 hb5 off5 ht => ?_⟩
      have tl := ht.ok.len
      unfold tabD
      walk_at "go"
      refine ⟨by decide, ?_⟩
      simp only [List.length_map]
      refine ⟨by rw [PySem.sizeLine_eq]; omega, fun _ => hn _ _ ⟨⟨h ++ [t], t.length, some (.int i), some (tabD t), x7, x8, x9, ?_, ch.snoc (by rw [tl]; exact ht) (by omega) (by omega), by omega, by omega, by simp; omega⟩, hb5, (off3.trans off4).trans off5⟩⟩
      rw [List.map_append]
      rfl
    · obtain ⟨⟨h, rooms, x5, x6, x7, x8, x9, rfl, ch, ro1, ro3, hl⟩, hb3, off3⟩ := hP
      walk_at "go"
      refine ⟨p, 3, rfl, hb3, by decide, by decide, fun k2 S4 hb4 off4 k20 k21 => ?_⟩
      walk_at "go"
      refine ⟨by omega, forL_range (fun i E S5 => (∃ (c : List Tab) (rs : Int) (x5 x6 x9 : Option D), E = [some (.ref p), some (.lst (h.map tabD)), some (.lst (c.map tabD)), some (.int rs), some (.int most), x5, x6, some (.int rooms), some (.int (1 + k2)), x9] ∧ Chain rooms c rs ∧ 1 ≤ rs ∧ rs ≤ 3 ∧ (c.length : Int) = i ∧ (i = 1 + k2 → rs = rooms)) ∧ BagAt S5 p ∧ Off p S S5) _ _ (fun i E S5 i1 i2 hP nx hn => ?_) (fun E S5 hP => ?_) _ _ ⟨⟨[], rooms, _, _, _, rfl, rfl, ro1, ro3, rfl, fun _ => rfl⟩, hb4, off3.trans off4⟩⟩
      · obtain ⟨⟨c, rs, y5, y6, y9, rfl, cc, rs1, rs3, cl, _⟩, hb5, off5⟩ := hP
        walk_at "go"
        have step : ∀ (many : Int) (S6 : Sto), 1 ≤ many → many ≤ 3 → (i + 1 = 1 + k2 → many = rooms) → BagAt S6 p → Off p S S6 → ∀ t S7, BagAt S7 p → Off p S6 S7 → TabOk rs many.toNat t → Chain rooms (c ++ [t]) t.length ∧ (t.length : Int) = many := fun many S6 n1 n3 ne hb6 off6 t S7 hb7 off7 ht => by
          have tl := ht.ok.len
          exact ⟨cc.snoc (by rw [tl]; exact ht) (by omega) (by omega), by omega⟩
        have fin : ∀ (many : Int) (S6 : Sto), 1 ≤ many → many ≤ 3 → (i + 1 = 1 + k2 → many = rooms) → BagAt S6 p → Off p S S6 → ∀ t S7, BagAt S7 p → Off p S6 S7 → TabOk rs many.toNat t → ∀ z5 z6 z9,
            nx [some (.ref p), some (.lst (h.map tabD)), some (.lst (c.map tabD ++ [tabD t])), some (.int t.length), some (.int most), z5, z6, some (.int rooms), some (.int (1 + k2)), z9] S7 := fun many S6 n1 n3 ne hb6 off6 t S7 hb7 off7 ht z5 z6 z9 => by
          obtain ⟨cc2, tl⟩ := step many S6 n1 n3 ne hb6 off6 t S7 hb7 off7 ht
          refine hn _ _ ⟨⟨c ++ [t], t.length, z5, z6, z9, ?_, cc2, by omega, by omega, by simp; omega, fun e => by rw [tl]; exact ne e⟩, hb7, off6.trans off7⟩
          rw [List.map_append]
          rfl
        refine dEq_int (fun e => ?_) fun e => ?_
        · walk_at "go"
          refine ⟨p, rs, rooms, rfl, hb5, rs1, rs3, ro1, ro3, fun t S7 hb7 off7 ht => ?_⟩
          have f1 := fin rooms S5 ro1 ro3 (fun _ => rfl) hb5 off5 t S7 hb7 off7 ht
          unfold tabD at f1 ⊢
          walk_at "go"
          refine ⟨by decide, ?_⟩
          simp only [List.length_map]
          exact ⟨by rw [PySem.sizeLine_eq]; omega, fun _ => f1 _ _ _⟩
        · walk_at "go"
          refine ⟨p, most, rfl, hb5, by omega, by omega, fun k5 S6 hb6 off6 k50 k51 => ?_⟩
          walk_at "go"
          refine ⟨p, rs, _, rfl, hb6, rs1, rs3, by omega, by omega, fun t S7 hb7 off7 ht => ?_⟩
          have f1 := fin (1 + k5) S6 (by omega) (by omega) (fun z => absurd z e) hb6 (off5.trans off6) t S7 hb7 off7 ht
          unfold tabD at f1 ⊢
          walk_at "go"
          refine ⟨by decide, ?_⟩
          simp only [List.length_map]
          exact ⟨by rw [PySem.sizeLine_eq]; omega, fun _ => f1 _ _ _⟩
      · obtain ⟨⟨c, rs, y5, y6, y9, rfl, cc, rs1, rs3, cl, le⟩, hb5, off5⟩ := hP
        walk_at "go"
        have er : rs = rooms := le (by omega)
        subst er
        exact ⟨by decide, .now (q h c _ hb5 off5 ⟨by omega, by omega, by omega, rs, ro1, ro3, ch, cc⟩)⟩
end
abbrev s_row_fits : Stmt := topS 14
theorem sc_row_fits : FnScope ["row", "rooms", "door"] ["row", "rooms"] (defScope s_row_fits) := ⟨rfl, rfl, rfl, by decide +kernel, rfl, by decide +kernel, by decide +kernel⟩
abbrev s_table_fits : Stmt := topS 15
theorem sc_table_fits : FnScope ["table", "rooms", "row", "door"] ["table", "rooms"] (defScope s_table_fits) := ⟨rfl, rfl, rfl, by decide +kernel, rfl, by decide +kernel, by decide +kernel⟩
abbrev s_check_tables : Stmt := topS 16
theorem sc_check_tables : FnScope ["head", "cycle", "rooms", "begin", "tables", "index", "table"] ["head", "cycle"] (defScope s_check_tables) := ⟨rfl, rfl, rfl, by decide +kernel, rfl, by decide +kernel, by decide +kernel⟩
abbrev s_Clock___init__ : Stmt := inClass (topS 17) 0
theorem sc_Clock___init__ : FnScope ["self", "head", "cycle"] ["self", "head", "cycle"] (defScope s_Clock___init__) := ⟨rfl, rfl, rfl, by decide +kernel, rfl, by decide +kernel, by decide +kernel⟩
/-! ### a clock is made of valid tables -/
theorem pig : ∀ (n : Nat) (ds : List Int), ds.Nodup → (∀ k ∈ ds, 0 ≤ k ∧ k < (n : Int)) → ds.length ≤ n ∧ (ds.length = n → ∀ x : Int, 0 ≤ x → x < n → x ∈ ds) ∧ ((∀ x : Int, 0 ≤ x → x < n → x ∈ ds) → n ≤ ds.length)
  | 0, ds, _, hb => by
    have e : ds = [] := List.eq_nil_iff_forall_not_mem.mpr fun k hk => by have := hb k hk; omega
    subst e
    exact ⟨Nat.le_refl _, fun _ x h1 h2 => by omega, fun _ => Nat.le_refl _⟩
  | n + 1, ds, nd, hb => by
    by_cases h : (n : Int) ∈ ds
    · have hl : (ds.erase (n : Int)).length = ds.length - 1 := List.length_erase_of_mem h
      have h1 : 1 ≤ ds.length := List.length_pos_of_mem h
      have hm : ∀ k, k ∈ ds.erase (n : Int) ↔ k ≠ (n : Int) ∧ k ∈ ds := fun k => nd.mem_erase_iff
      obtain ⟨a1, a2, a3⟩ := pig n (ds.erase (n : Int)) (nd.erase _) fun k hk => by
        obtain ⟨n1, n2⟩ := (hm k).mp hk
        have := hb k n2
        omega
      refine ⟨by omega, fun e x x0 x1 => ?_, fun f => ?_⟩
      · by_cases ex : x = (n : Int)
        · rw [ex]
          exact h
        · exact ((hm x).mp (a2 (by omega) x x0 (by omega))).2
      · have := a3 fun x x0 x1 => (hm x).mpr ⟨by omega, f x x0 (by omega)⟩
        omega
    · obtain ⟨a1, a2, a3⟩ := pig n ds nd fun k hk => by
        have z := hb k hk
        have ne : k ≠ (n : Int) := fun e => h (e ▸ hk)
        omega
      exact ⟨by omega, fun e => by omega, fun f => absurd (f n (by omega) (by omega)) h⟩
def RowFit (rooms : Int) (r : List Int) : Prop := 1 ≤ r.length ∧ r.length ≤ 64 ∧ ∀ d ∈ r, 0 ≤ d ∧ d < rooms
instance {rooms : Int} {r : List Int} : Decidable (RowFit rooms r) := by unfold RowFit; infer_instance
def TabFit (rooms : Int) (t : Tab) : Prop := (1 ≤ t.length ∧ t.length ≤ 8) ∧ (∀ r ∈ t, RowFit rooms r) ∧ ∀ x, 0 ≤ x → x < rooms → ∃ r ∈ t, x ∈ r
open Classical in
/-- the place of the first table that does not fit -/
noncomputable def walkT (hl : Nat) : List Tab → Nat → Int → Int → Option Nat
  | [], i, rooms, begin => if rooms = begin then none else some (i - 1)
  | t :: ts, i, rooms, begin => if TabFit rooms t then walkT hl ts (i + 1) t.length (if i + 1 = hl then (t.length : Int) else begin) else some i
/-- d is a sequence of these -/
def SeqIs (S : Sto) (d : D) (xs : List D) : Prop := d = .tup xs ∨ d = .lst xs ∨ ∃ p, d = .ref p ∧ S p = some (.lst xs)
theorem SeqIs.list {S : Sto} {d : D} {xs : List D} {Q : KD} (h : SeqIs S d xs) (q : Q (.lst xs) S) : dList [d] S Q := by
  rcases h with rfl | rfl | ⟨p, rfl, h⟩
  · exact q
  · exact q
  · exact ⟨_, h, q⟩
theorem SeqIs.tuple {S : Sto} {d : D} {xs : List D} {Q : KD} (h : SeqIs S d xs) (q : Q (.tup xs) S) : dTuple [d] S Q := by
  rcases h with rfl | rfl | ⟨p, rfl, h⟩
  · exact q
  · exact q
  · exact ⟨_, h, q⟩
theorem SeqIs.len {S : Sto} {d : D} {xs : List D} {Q : KD} (h : SeqIs S d xs) (q : xs.length ≤ sizeLine → Q (.int xs.length) S) : dLen [d] S Q := by
  rcases h with rfl | rfl | ⟨p, rfl, h⟩
  · exact q
  · exact q
  · exact ⟨_, h, q⟩
theorem SeqIs.put {S : Sto} {d : D} {xs : List D} {a : Addr} {o : DO} (h : SeqIs S d xs) (ha : ∀ ys, S a ≠ some (.lst ys)) : SeqIs (S.put a o) d xs := by
  rcases h with rfl | rfl | ⟨p, rfl, h⟩
  · exact .inl rfl
  · exact .inr (.inl rfl)
  · exact .inr (.inr ⟨p, rfl, by rw [Sto.put_ne fun e => ha xs (by rw [← e]; exact h)]; exact h⟩)
theorem SeqIs.at {S S' : Sto} {d : D} {xs : List D} (h : SeqIs S d xs) (k : ∀ p ys, S p = some (.lst ys) → S' p = some (.lst ys)) : SeqIs S' d xs := by
  rcases h with rfl | rfl | ⟨p, rfl, h⟩
  · exact .inl rfl
  · exact .inr (.inl rfl)
  · exact .inr (.inr ⟨p, rfl, k p xs h⟩)
def spRowFits : DSp := fun ds S Q _ => ∃ (r : List Int) (rooms : Int), ds = [rowT r, .int rooms] ∧ (RowFit rooms r → Q (.bl true) S) ∧ (¬ RowFit rooms r → Q (.bl false) S)
def spTabFits : DSp := fun ds S Q _ => ∃ (t : Tab) (rooms : Int), ds = [tabD t, .int rooms] ∧ 0 ≤ rooms ∧ t.flatten.length ≤ 4000 ∧ (TabFit rooms t → Q (.bl true) S) ∧ (¬ TabFit rooms t → Q (.bl false) S)
def TabsSmall (ts : List Tab) : Prop := ∀ t ∈ ts, t.flatten.length ≤ 4000 ∧ t.length ≤ 1000
def spChk : DSp := fun ds S Q _ => ∃ (hd cd : D) (h c : List Tab), ds = [hd, cd] ∧ SeqIs S hd (h.map tabD) ∧ SeqIs S cd (c.map tabD) ∧ c ≠ [] ∧ h.length + c.length ≤ 1000 ∧ TabsSmall (h ++ c) ∧ walkT h.length (h ++ c) 0 1 1 = none ∧ Q .non S
def spInit : DSp := fun ds S Q _ => ∃ (a : Addr) (hd cd : D) (h c : List Tab), ds = [.ref a, hd, cd] ∧ S a = some (.ins []) ∧ SeqIs S hd (h.map tabD) ∧ SeqIs S cd (c.map tabD) ∧ c ≠ [] ∧ h.length + c.length ≤ 60 ∧ TabsSmall (h ++ c) ∧ walkT h.length (h ++ c) 0 1 1 = none ∧ Q .non (S.put a (.clk (h.map tabD) (c.map tabD)))
section
variable {P : Program} {w : World} {K : PySem.W.Frag} {mg : Str → Option Value} {base : Heap} {C : Cf}
theorem ok_rowfits {f : Addr} {fd : FuncData} (F : Fun K "row_fits" "row_fits" s_row_fits f fd) (T : Txt mg) : DOk P w K mg base C 1 f fd ["row", "rooms"] spRowFits := by
  refine dok_of F sc_row_fits (fun ds S Q Xd h => ?_) (fun cdv A outer s B Ex ds S Q Xd hr dx h => ?_)
  · obtain ⟨r, rooms, rfl, _⟩ := h
    rfl
  · have sc := sc_row_fits
    refine ⟨_, (dss_one (ds_ret (de_and (de_chain od_le od_le de_int (de_callB cd_len T.b_len (by decide +kernel) (da_cons (de_var 0) da_nil)) (de_gint T.c_MAX_DOORS)) (de_one (de_callB (cd_all rfl) T.b_all (by decide +kernel) (da_cons (de_lc true [("door", 2)] rfl sc.nd (blkOk_by (N := ["row", "rooms", "door"]) (sc := defScope s_row_fits) (by decide +kernel)) (di_seq (de_var 0)) (fun _ _ _ _ _ _ => (dg_name 2 sc.nd)) (fun _ _ _ _ _ _ => dts_nil) (fun _ _ _ _ _ _ => (de_chain od_le od_lt de_int (de_var 2) (de_var 1)))) da_nil)))))), ?_⟩
    obtain ⟨r, rooms, rfl, q1, q0⟩ := h
    unfold rowT
    walk_at "go"
    intro hz
    rw [List.length_map] at hz ⊢
    walk_at "go"
    by_cases h1 : 1 ≤ r.length
    · rw [decide_eq_true (show (1 : Int) ≤ r.length by omega)]
      walk_at "go"
      by_cases h2 : r.length ≤ 64
      · rw [decide_eq_true (show (r.length : Int) ≤ 64 by omega)]
        walk_at "go"
        intro _
        refine lc_map (fun d => .bl (decide (0 ≤ intOf d ∧ intOf d < rooms))) (by rw [List.length_map]; exact hz) (fun d hd S1 K1 hK => ?_) ?_
        · obtain ⟨k, hk, rfl⟩ := List.mem_map.mp hd
          walk_at "go"
          walk_at "wipe"
          have hK : K1 (.bl (decide (0 ≤ k ∧ k < rooms))) S1 := hK
          by_cases k0 : 0 ≤ k
          · rw [decide_eq_true k0]
            walk_at "go"
            rw [show decide (0 ≤ k ∧ k < rooms) = decide (k < rooms) by simp [k0]] at hK
            exact hK
          · rw [decide_eq_false k0]
            walk_at "go"
            rw [show decide (0 ≤ k ∧ k < rooms) = false by simp [k0]] at hK
            exact hK
        · walk_at "go"
          refine ⟨r.map fun k => decide (0 ≤ k ∧ k < rooms), by rw [List.map_map, List.map_map]; rfl, ?_⟩
          by_cases hall : ∀ k ∈ r, 0 ≤ k ∧ k < rooms
          · have e : (r.map fun k => decide (0 ≤ k ∧ k < rooms)).all id = true := by
              rw [List.all_eq_true]
              intro b hb
              obtain ⟨k, hk, rfl⟩ := List.mem_map.mp hb
              exact decide_eq_true (hall k hk)
            rw [e]
            exact .now (q1 ⟨h1, h2, hall⟩)
          · have e : (r.map fun k => decide (0 ≤ k ∧ k < rooms)).all id = false := by
              rw [Bool.eq_false_iff]
              intro z
              rw [List.all_eq_true] at z
              exact hall fun k hk => of_decide_eq_true (z _ (List.mem_map.mpr ⟨k, hk, rfl⟩))
            rw [e]
            exact .now (q0 fun z => hall z.2.2)
      · rw [decide_eq_false (show ¬ (r.length : Int) ≤ 64 by omega)]
        walk_at "go"
        exact .now (q0 fun z => h2 z.2.1)
    · rw [decide_eq_false (show ¬ (1 : Int) ≤ r.length by omega)]
      walk_at "go"
      exact .now (q0 fun z => h1 z.1)
theorem ok_tabfits {f : Addr} {fd : FuncData} (F : Fun K "table_fits" "table_fits" s_table_fits f fd) (T : Txt mg) (G_row_fits : Df P w K mg base C "row_fits" 1 ["row", "rooms"] spRowFits) : DOk P w K mg base C 2 f fd ["table", "rooms"] spTabFits := by
  refine dok_of F sc_table_fits (fun ds S Q Xd h => ?_) (fun cdv A outer s B Ex ds S Q Xd hr dx h => ?_)
  · obtain ⟨t, rooms, rfl, _⟩ := h
    rfl
  · have sc := sc_table_fits
    refine ⟨_, (dss_cons (ds_if (dt_w (dw_or (dt_not (dt_chain od_le od_le de_int (de_callB cd_len T.b_len (by decide +kernel) (da_cons (de_var 0) da_nil)) (de_gint T.c_MAX_ROOMS))) (dw_or1 (dt_not (dt_val (de_callB (cd_all rfl) T.b_all (by decide +kernel) (da_cons (de_lc true [("row", 2)] rfl sc.nd (blkOk_by (N := ["table", "rooms", "row", "door"]) (sc := defScope s_table_fits) (by decide +kernel)) (di_seq (de_var 0)) (fun _ _ _ _ _ _ => (dg_name 2 sc.nd)) (fun _ _ _ _ _ _ => dts_nil) (fun _ _ _ _ _ _ => (de_callD G_row_fits (hr.mono (by omega)) dx0 (da_cons (de_var 2) (da_cons (de_var 1) da_nil))))) da_nil))))))) (dss_one (ds_ret de_bl)) dss_nil) (dss_one (ds_ret (de_cmp (od_eq hr.units) (de_lset 0 2 3 [("row", 2), ("door", 3)] (lr := show 2 < ["table", "rooms", "row", "door"].length by decide) (ld := show 3 < ["table", "rooms", "row", "door"].length by decide) T.b_len rfl sc.nd (blkOk_by (N := ["table", "rooms", "row", "door"]) (sc := defScope s_table_fits) (by decide +kernel)) (pvar 0) (fun _ _ _ _ _ => ⟨(dgn (C := C) 2 sc.nd).pg, pvar 2, (dgn (C := C) 3 sc.nd).pg, pvar 3⟩)) (de_var 1))))), ?_⟩
    obtain ⟨t, rooms, rfl, r0, hs, q1, q0⟩ := h
    unfold tabD
    walk_at "go"
    intro hz
    rw [List.length_map] at hz ⊢
    walk_at "go"
    by_cases h1 : 1 ≤ t.length
    · rw [decide_eq_true (show (1 : Int) ≤ t.length by omega)]
      walk_at "go"
      by_cases h2 : t.length ≤ 8
      · rw [decide_eq_true (show (t.length : Int) ≤ 8 by omega)]
        walk_at "go"
        intro _
        refine lc_map (fun d => .bl (decide (RowFit rooms ((rowsOf d).map intOf)))) (by rw [List.length_map]; exact hz) (fun d hd S1 K1 hK => ?_) ?_
        · obtain ⟨r, hr', rfl⟩ := List.mem_map.mp hd
          have e0 : (rowsOf (rowT r)).map intOf = r := by
            show (r.map D.int).map intOf = r
            rw [List.map_map]
            exact List.map_id'' (fun _ => rfl) r
          rw [e0] at hK
          walk_at "go"
          refine ⟨r, rooms, by simp [wipeD], fun h => ?_, fun h => ?_⟩
          · rw [decide_eq_true h] at hK
            exact hK
          · rw [decide_eq_false h] at hK
            exact hK
        · walk_at "go"
          refine ⟨t.map fun r => decide (RowFit rooms r), ?_, ?_⟩
          · rw [List.map_map, List.map_map]
            refine List.map_congr_left fun r _ => ?_
            show D.bl (decide (RowFit rooms ((r.map D.int).map intOf))) = _
            rw [List.map_map, show r.map (intOf ∘ D.int) = r from List.map_id'' (fun _ => rfl) r]
            rfl
          by_cases hall : ∀ r ∈ t, RowFit rooms r
          · have e : (t.map fun r => decide (RowFit rooms r)).all id = true := by
              rw [List.all_eq_true]
              intro b hb
              obtain ⟨k, hk, rfl⟩ := List.mem_map.mp hb
              exact decide_eq_true (hall k hk)
            rw [e]
            walk_at "go"
            refine ⟨t, rfl, hs, fun ds nd dm => ?_⟩
            have hb : ∀ k ∈ ds, 0 ≤ k ∧ k < ((rooms.toNat : Nat) : Int) := fun k hk => by
              obtain ⟨r, hr1, hr2⟩ := List.mem_flatten.mp ((dm k).mp hk)
              have := (hall r hr1).2.2 k hr2
              omega
            obtain ⟨a1, a2, a3⟩ := pig rooms.toNat ds nd hb
            walk_at "go"
            refine dEq_int (fun e => .now (q1 ⟨⟨h1, h2⟩, hall, fun x x0 x1 => ?_⟩)) fun e => .now (q0 fun z => e ?_)
            · obtain ⟨r, hr1, hr2⟩ := List.mem_flatten.mp ((dm x).mp (a2 (by omega) x x0 (by omega)))
              exact ⟨r, hr1, hr2⟩
            · have := a3 fun x x0 x1 => (dm x).mpr (by
                obtain ⟨r, hr1, hr2⟩ := z.2.2 x x0 (by omega)
                exact List.mem_flatten.mpr ⟨r, hr1, hr2⟩)
              omega
          · have e : (t.map fun r => decide (RowFit rooms r)).all id = false := by
              rw [Bool.eq_false_iff]
              intro z
              rw [List.all_eq_true] at z
              exact hall fun k hk => of_decide_eq_true (z _ (List.mem_map.mpr ⟨k, hk, rfl⟩))
            rw [e]
            walk_at "go"
            exact .now (q0 fun z => hall z.2.1)
      · rw [decide_eq_false (show ¬ (t.length : Int) ≤ 8 by omega)]
        walk_at "go"
        exact .now (q0 fun z => h2 z.1.2)
    · rw [decide_eq_false (show ¬ (1 : Int) ≤ t.length by omega)]
      walk_at "go"
      exact .now (q0 fun z => h1 z.1.1)
open Classical in
theorem ok_check {f : Addr} {fd : FuncData} (F : Fun K "check_tables" "check_tables" s_check_tables f fd) (T : Txt mg) (G_table_fits : Df P w K mg base C "table_fits" 2 ["table", "rooms"] spTabFits) : DOk P w K mg base C 3 f fd ["head", "cycle"] spChk := by
  refine dok_of F sc_check_tables (fun ds S Q Xd h => ?_) (fun cdv A outer s B Ex ds S Q Xd hr dx h => ?_)
  · obtain ⟨hd, cd, h, c, rfl, _⟩ := h
    rfl
  · have sc := sc_check_tables
    refine ⟨_, (dss_cons (ds_asg2 2 3 sc.nd de_int (dgn 2 sc.nd) (dgn 3 sc.nd)) (dss_cons (ds_set 4 sc.nd (de_bin od_add (de_callTy cd_list T.b_list (by decide +kernel) (da_cons (de_var 0) da_nil)) (de_callTy cd_list T.b_list (by decide +kernel) (da_cons (de_var 1) da_nil)))) (dss_cons (ds_for (passes_of rfl) rfl (di_enumerateT T.b_enumerate (da_cons (de_var 4) da_nil)) (dg_tup (n := 2) rfl (dgs_cons (dgn 5 sc.nd) (dgs_cons (dgn 6 sc.nd) dgs_nil))) (dss_cons (ds_if (dt_not (dt_val (de_callD G_table_fits (hr.mono (by omega)) dx (da_cons (de_var 6) (da_cons (de_var 2) da_nil))))) dss_dead dss_nil) (dss_cons (ds_set 2 sc.nd (de_callB cd_len T.b_len (by decide +kernel) (da_cons (de_var 6) da_nil))) (dss_one (ds_if (dt_cmp (od_eq hr.units) (de_bin od_add (de_var 5) de_int) (de_callB cd_len T.b_len (by decide +kernel) (da_cons (de_var 0) da_nil))) (dss_one (ds_set 3 sc.nd (de_var 2))) dss_nil))))) (dss_one (ds_if (dt_cmp (od_ne hr.units) (de_var 2) (de_var 3)) dss_dead dss_nil))))), ?_⟩
    obtain ⟨hd, cd, h, c, rfl, sh, sd, cn, hl, sm, wt, q⟩ := h
    walk_at "go"
    refine sh.list ?_
    walk_at "go"
    refine sd.list ?_
    walk_at "go"
    rw [← List.map_append]
    refine ⟨by rw [List.length_map, List.length_map, PySem.sizeLine_eq]; omega, ?_⟩
    intro _
    refine forL_rule (fun rest E S1 => S1 = S ∧ ∃ (ts : List Tab) (i : Nat) (rooms begin : Int) (x5 x6 : Option D), rest = enumD i (ts.map tabD) ∧ E = [some hd, some cd, some (.int rooms), some (.int begin), some (.lst (List.map tabD (h ++ c))), x5, x6] ∧ TabsSmall ts ∧ walkT h.length ts i rooms begin = none ∧ 0 ≤ rooms)
      (fun d rest E S1 hP => ?_) (fun E S1 hP => ?_) _ _ _ ⟨rfl, h ++ c, 0, 1, 1, none, none, rfl, rfl, sm, wt, by decide⟩
    · obtain ⟨rfl, ts, i, rooms, begin, x5, x6, er, rfl, sm1, wt1, r0⟩ := hP
      refine ⟨trivial, fun nx hn => ?_⟩
      cases ts with
      | nil => cases er
      | cons t ts =>
        rw [List.map_cons] at er
        obtain ⟨rfl, rfl⟩ := List.cons.inj er
        unfold walkT at wt1
        by_cases ft : TabFit rooms t
        · rw [if_pos ft] at wt1
          walk_at "go"
          refine ⟨t, rooms, rfl, r0, (sm1 t List.mem_cons_self).1, fun _ => ?_, fun z => absurd ft z⟩
          have tl := (sm1 t List.mem_cons_self).2
          unfold tabD
          walk_at "go"
          intro _
          rw [List.length_map]
          walk_at "go"
          refine sh.len ?_
          intro _
          rw [List.length_map]
          walk_at "go"
          refine dEq_int (fun e => ?_) fun e => ?_
          · walk_at "go"
            refine hn _ _ ⟨rfl, ts, i + 1, t.length, t.length, _, _, rfl, rfl, fun u hu => sm1 u (List.mem_cons_of_mem _ hu), ?_, Int.natCast_nonneg _⟩
            rw [if_pos (by omega)] at wt1
            exact wt1
          · walk_at "go"
            refine hn _ _ ⟨rfl, ts, i + 1, t.length, begin, _, _, rfl, rfl, fun u hu => sm1 u (List.mem_cons_of_mem _ hu), ?_, Int.natCast_nonneg _⟩
            rw [if_neg (by omega)] at wt1
            exact wt1
        · rw [if_neg ft] at wt1
          cases wt1
    · obtain ⟨rfl, ts, i, rooms, begin, x5, x6, er, rfl, sm1, wt1, r0⟩ := hP
      refine ⟨trivial, ?_⟩
      cases ts with
      | cons t ts => cases er
      | nil =>
        unfold walkT at wt1
        by_cases e : rooms = begin
        · subst e
          walk_at "go"
          refine dNe_self (Ok.int (n := 0) _).dat ?_ (by omega)
          walk_at "go"
          exact .now q
        · rw [if_neg e] at wt1
          cases wt1
theorem ok_init {f : Addr} {fd : FuncData} (F : Fun K "__init__" "Clock.__init__" s_Clock___init__ f fd) (T : Txt mg) (KC : CkC K C) (G_check_tables : Df P w K mg base C "check_tables" 3 ["head", "cycle"] spChk) : DOk P w K mg base C 4 f fd ["self", "head", "cycle"] spInit := by
  refine dok_of F sc_Clock___init__ (fun ds S Q Xd h => ?_) (fun cdv A outer s B Ex ds S Q Xd hr dx h => ?_)
  · obtain ⟨a, hd, cd, h, c, rfl, _⟩ := h
    rfl
  · have sc := sc_Clock___init__
    refine ⟨_, (dss_cons (ds_if (dt_cmp (od_eq hr.units) (de_callB cd_len T.b_len (by decide +kernel) (da_cons (de_var 2) da_nil)) de_int) dss_dead dss_nil) (dss_cons (ds_if (dt_cmp od_gt (de_bin od_add (de_callB cd_len T.b_len (by decide +kernel) (da_cons (de_var 1) da_nil)) (de_callB cd_len T.b_len (by decide +kernel) (da_cons (de_var 2) da_nil))) (de_gint T.c_MAX_TABLES)) dss_dead dss_nil) (dss_cons (ds_expr (de_callD G_check_tables (hr.mono (by omega)) dx (da_cons (de_var 1) (da_cons (de_var 2) da_nil)))) (dss_cons (ds_fldS KC.cls KC.nh (de_var 0) (de_callTy cd_tuple T.b_tuple (by decide +kernel) (da_cons (de_var 1) da_nil))) (dss_cons (ds_fldS KC.cls KC.nc (de_var 0) (de_callTy cd_tuple T.b_tuple (by decide +kernel) (da_cons (de_var 2) da_nil))) (dss_one (ds_pub KC.cls KC.nl (de_var 0) (de_lstL (da_cons (de_lst (da_cons de_int da_nil)) da_nil))))))))), ?_⟩
    obtain ⟨a, hd, cd, h, c, rfl, ha, sh, sd, cn, hl, sm, wt, q⟩ := h
    have c0 : 0 < c.length := List.length_pos_iff.mpr cn
    walk_at "go"
    refine sd.len ?_
    intro _
    rw [List.length_map]
    walk_at "go"
    refine dEq_int (fun e => by omega) fun e => ?_
    walk_at "go"
    refine sh.len ?_
    intro _
    rw [List.length_map]
    walk_at "go"
    refine sd.len ?_
    intro _
    rw [List.length_map]
    walk_at "go"
    rw [decide_eq_false (by omega)]
    walk_at "go"
    refine ⟨hd, cd, h, c, rfl, sh, sd, cn, by omega, sm, wt, ?_⟩
    walk_at "go"
    refine sh.tuple ?_
    walk_at "go"
    refine ⟨a, _, rfl, ha, by decide, by decide, ?_⟩
    refine (sd.put fun ys z => by rw [ha] at z; cases z).tuple ?_
    walk_at "go"
    refine ⟨a, _, rfl, Sto.put_same, by decide, by show 1 < 900; decide, ?_⟩
    refine ⟨by decide, by decide, fun l hl0 => ?_⟩
    have nl : l ≠ a := fun z => by
      rw [z, Sto.put_same] at hl0
      cases hl0
    have hp := hl0
    refine ⟨a, l, h.map tabD, c.map tabD, rfl, rfl, ?_, Sto.put_same, ⟨h, rfl⟩, ⟨c, rfl⟩, ?_⟩
    · rw [Sto.put_ne nl.symm, Sto.put_same]
      rfl
    · rw [Sto.del_put hp, Sto.put_put, Sto.put_put]
      exact .now q
end
/-! ### making a clock of whatever tables -/
def xnLimit (cl : Addr) (n : Int) : Xn := ⟨cl, [("word", .str "limitexceeded"), ("limit", .int n)]⟩
/-! ### tables by their floors -/
theorem tabD_inj {a b : Tab} (h : tabD a = tabD b) : a = b := by
  have rows : ∀ {x y : List Int}, rowT x = rowT y → x = y := fun {x y} e => by
    have e : x.map D.int = y.map D.int := by
      unfold rowT at e
      injection e
    have e2 := congrArg (fun l : List D => l.map intOf) e
    simp only [List.map_map] at e2
    have id1 : ∀ l : List Int, l.map (intOf ∘ D.int) = l := fun l => List.map_id'' (fun _ => rfl) l
    rw [id1, id1] at e2
    exact e2
  have h : a.map rowT = b.map rowT := by
    unfold tabD at h
    injection h
  induction a generalizing b with
  | nil =>
    cases b with
    | nil => rfl
    | cons y ys => cases h
  | cons x xs ih =>
    cases b with
    | nil => cases h
    | cons y ys =>
      rw [List.map_cons, List.map_cons] at h
      injection h with h1 h2
      rw [rows h1, ih (by unfold tabD; rw [h2]) h2]
theorem tabDs_inj {xs ys : List Tab} (h : xs.map tabD = ys.map tabD) : xs = ys := by
  induction xs generalizing ys with
  | nil =>
    cases ys with
    | nil => rfl
    | cons y ys => cases h
  | cons x xs ih =>
    cases ys with
    | nil => cases h
    | cons y ys =>
      rw [List.map_cons, List.map_cons] at h
      injection h with h1 h2
      rw [tabD_inj h1, ih h2]
theorem ok_tab (t : Tab) : Ok 2 (tabD t) := Ok.tup (n := 1) fun d hd => by
  obtain ⟨r, _, rfl⟩ := List.mem_map.mp hd
  exact Ok.tup (n := 0) fun e he => by
    obtain ⟨i, _, rfl⟩ := List.mem_map.mp he
    exact .int i
theorem ok_tabsT (ts : List Tab) : Ok 3 (.tup (ts.map tabD)) := Ok.tup (n := 2) fun d hd => by
  obtain ⟨t, _, rfl⟩ := List.mem_map.mp hd
  exact ok_tab t
theorem ok_tabsL (ts : List Tab) : Ok 3 (.lst (ts.map tabD)) := Ok.lst (n := 2) fun d hd => by
  obtain ⟨t, _, rfl⟩ := List.mem_map.mp hd
  exact ok_tab t
/-- the table of a floor -/
def tabN (h c : List Tab) (n : Nat) : Tab := if n < h.length then h.getD n [] else c.getD ((n - h.length) % c.length) []
theorem tabN_head {h c : List Tab} {n : Nat} (hn : n < h.length) : (h.map tabD)[n]? = some (tabD (tabN h c n)) := by
  unfold tabN
  rw [if_pos hn, List.getElem?_map, List.getElem?_eq_getElem hn, List.getD_eq_getElem?_getD, List.getElem?_eq_getElem hn]
  rfl
theorem tabN_cycle {h c : List Tab} {n : Nat} (hn : ¬ n < h.length) (hc : c ≠ []) : (c.map tabD)[(n - h.length) % c.length]? = some (tabD (tabN h c n)) := by
  have c0 : 0 < c.length := List.length_pos_iff.mpr hc
  have hm : (n - h.length) % c.length < c.length := Nat.mod_lt _ c0
  unfold tabN
  rw [if_neg hn, List.getElem?_map, List.getElem?_eq_getElem hm, List.getD_eq_getElem?_getD, List.getElem?_eq_getElem hm]
  rfl
theorem Chain.app {xs ys : List Tab} : ∀ {r m e : Int}, Chain r xs m → Chain m ys e → Chain r (xs ++ ys) e := by
  induction xs with
  | nil =>
    intro r m e h1 h2
    obtain rfl : r = m := h1
    exact h2
  | cons x xs ih => exact fun {r m e} h1 h2 => ⟨h1.1, ih h1.2 h2⟩
theorem Chain.small : ∀ {ts : List Tab} {r e : Int}, Chain r ts e → ∀ t ∈ ts, t.flatten.length ≤ 18 ∧ 1 ≤ t.length ∧ t.length ≤ 3
  | [], _, _, _, t, h => by cases h
  | u :: ts, r, e, ch, t, h => by
    rcases List.mem_cons.mp h with rfl | h
    · have rows : ∀ (xs : Tab), (∀ x ∈ xs, x.length ≤ 6) → xs.flatten.length ≤ xs.length * 6 := fun xs => by
        induction xs with
        | nil => intro _; exact Nat.le_refl _
        | cons x xs ih =>
          intro hx
          have h1 := hx x List.mem_cons_self
          have h2 := ih fun y hy => hx y (List.mem_cons_of_mem _ hy)
          rw [List.flatten_cons, List.length_append, List.length_cons]
          omega
      have := rows t fun x hx => (ch.1.1.ok.row x hx).2.1
      exact ⟨by have := ch.1.2.2; omega, ch.1.2.1, ch.1.2.2⟩
    · exact Chain.small ch.2 t h
/-! ### what is drawn is valid -/
theorem fit_of {r : Int} {t : Tab} (h : TabOk r t.length t) (h1 : 1 ≤ t.length) (h3 : t.length ≤ 3) : TabFit r t :=
  ⟨⟨h1, by omega⟩, fun x hx => ⟨by have := (h.ok.row x hx).1; exact List.length_pos_iff.mpr this, by have := (h.ok.row x hx).2.1; omega, (h.ok.row x hx).2.2⟩, h.on⟩
open Classical in
theorem walk_head {hl : Nat} {rest : List Tab} : ∀ {h : List Tab} {i : Nat} {r beg b : Int}, Chain r h b → i + h.length = hl → walkT hl (h ++ rest) i r beg = walkT hl rest hl b (if h = [] then beg else b)
  | [], i, r, beg, b, ch, e => by
    obtain rfl : r = b := ch
    have e : i = hl := e
    rw [e, if_pos rfl]
    rfl
  | t :: ts, i, r, beg, b, ch, e => by
    have fit := fit_of ch.1.1 ch.1.2.1 ch.1.2.2
    rw [List.length_cons] at e
    rw [List.cons_append, walkT, if_pos fit, walk_head ch.2 (by omega), if_neg (List.cons_ne_nil _ _)]
    congr 1
    by_cases z : ts = []
    · subst z
      have z2 : (t.length : Int) = b := ch.2
      rw [if_pos rfl, if_pos (by simpa using e), z2]
    · rw [if_neg z]
open Classical in
theorem walk_cycle {hl : Nat} : ∀ {c : List Tab} {i : Nat} {r b : Int}, Chain r c b → hl ≤ i → walkT hl c i r b = none
  | [], i, r, b, ch, e => by
    obtain rfl : r = b := ch
    rw [walkT, if_pos rfl]
  | t :: ts, i, r, b, ch, e => by
    rw [walkT, if_pos (fit_of ch.1.1 ch.1.2.1 ch.1.2.2), if_neg (by omega)]
    exact walk_cycle ch.2 (by omega)
/-- a clock's tables as they are drawn -/
structure PlanG (h c : List Tab) : Prop where
  c0 : c ≠ []
  hl : h.length ≤ 20
  cl : c.length ≤ 20
  ch : ∃ b : Int, Chain 1 h b ∧ Chain b c b
theorem PlanG.valid {h c : List Tab} (g : PlanG h c) : walkT h.length (h ++ c) 0 1 1 = none := by
  obtain ⟨b, c1, c2⟩ := g.ch
  rw [walk_head c1 (Nat.zero_add _)]
  have e : (if h = [] then (1 : Int) else b) = b := by
    by_cases z : h = []
    · subst z
      rw [if_pos rfl]
      exact c1
    · rw [if_neg z]
  rw [e]
  exact walk_cycle c2 (Nat.le_refl _)
theorem PlanG.small {h c : List Tab} (g : PlanG h c) : TabsSmall (h ++ c) := fun t ht => by
  obtain ⟨b, c1, c2⟩ := g.ch
  have z := (c1.app c2).small t ht
  exact ⟨by omega, by omega⟩
theorem PlanOk.good {h c : List Tab} (g : PlanOk h c) : PlanG h c := by
  obtain ⟨b, _, _, c1, c2⟩ := g.ch
  refine ⟨fun z => ?_, by have := g.h2; omega, by have := g.c3; omega, b, c1, c2⟩
  have := g.c1
  rw [z] at this
  simp at this
abbrev s__law_table_at : Stmt := topS 33
theorem sc__law_table_at : FnScope ["_law_plan_here", "_law_floor", "_law_head", "_law_cycle"] ["_law_plan_here", "_law_floor"] (defScope s__law_table_at) := ⟨rfl, rfl, rfl, by decide +kernel, rfl, by decide +kernel, by decide +kernel⟩
def spTabL : DSp := fun ds S Q _ => ∃ (h c : List Tab) (n : Nat), ds = [planD h c, .int n] ∧ c ≠ [] ∧ Q (tabD (tabN h c n)) S
section
variable {P : Program} {w : World} {K : PySem.W.Frag} {mg : Str → Option Value} {base : Heap} {C : Cf}
theorem ok_table_at {f : Addr} {fd : FuncData} (F : Fun K "_law_table_at" "_law_table_at" s__law_table_at f fd) (T : Txt mg) : DOk P w K mg base C 1 f fd ["_law_plan_here", "_law_floor"] spTabL := by
  refine dok_of F sc__law_table_at (fun ds S Q Xd h => ?_) (fun cdv A outer s B Ex ds S Q Xd hr dx h => ?_)
  · obtain ⟨h, c, n, rfl, _⟩ := h
    rfl
  · have sc := sc__law_table_at
    refine ⟨_, (dss_cons (ds_asg (de_var 0) (dg_tup (n := 2) rfl (dgs_cons (dgn 2 sc.nd) (dgs_cons (dgn 3 sc.nd) dgs_nil)))) (dss_one (ds_ret (de_ife (dt_cmp od_lt (de_var 1) (de_callB cd_len T.b_len (by decide +kernel) (da_cons (de_var 2) da_nil))) (de_ix (de_var 2) (de_var 1)) (de_ix (de_var 3) (de_bin od_mod (de_bin od_sub (de_var 1) (de_callB cd_len T.b_len (by decide +kernel) (da_cons (de_var 2) da_nil))) (de_callB cd_len T.b_len (by decide +kernel) (da_cons (de_var 3) da_nil)))))))), ?_⟩
    obtain ⟨h, c, m, rfl, cn, hq⟩ := h
    have c0 : 0 < c.length := List.length_pos_iff.mpr cn
    unfold planD
    walk_at "go"
    intro _
    rw [List.length_map]
    by_cases hm : m < h.length
    · rw [decide_eq_true (show (m : Int) < h.length by omega)]
      walk_at "go"
      exact ⟨_, atI_nat (tabN_head hm), .now hq⟩
    · rw [decide_eq_false (show ¬ (m : Int) < h.length by omega)]
      walk_at "go"
      intro _ _
      simp only [List.length_map]
      refine ⟨by omega, _, ?_, .now hq⟩
      have e1 : ((m : Int) - h.length) = ((m - h.length : Nat) : Int) := by omega
      rw [e1, ← Int.natCast_emod]
      exact atI_nat (tabN_cycle hm cn)
end
/-! ### hands by content -/
abbrev Stp := Int × Int
abbrev zs : Stp := (0, 0)
/-! ### hands of drawn clocks: what they are -/
/-- the rooms of a floor -/
def roomsN (h c : List Tab) : Nat → Nat
  | 0 => 1
  | n + 1 => (tabN h c n).length
theorem chain_at : ∀ {xs : List Tab} {r e : Int}, Chain r xs e → ∀ i t, xs[i]? = some t → (∀ q, (i = 0 → q = r) → (∀ j u, i = j + 1 → xs[j]? = some u → q = (u.length : Int)) → TabOk q t.length t) ∧ 1 ≤ t.length ∧ t.length ≤ 3
  | [], _, _, _, i, t, h => by simp at h
  | x :: xs, r, e, ch, 0, t, h => by
    have h : x = t := by simpa using h
    subst h
    exact ⟨fun q q0 _ => by rw [q0 rfl]; exact ch.1.1, ch.1.2⟩
  | x :: xs, r, e, ch, i + 1, t, h => by
    obtain ⟨a, b⟩ := chain_at ch.2 i t (by simpa using h)
    refine ⟨fun q _ q1 => a q (fun z => ?_) fun j u z hu => q1 (j + 1) u (by omega) (by simpa using hu), b⟩
    subst z
    exact q1 0 x rfl rfl
theorem chain_end : ∀ {xs : List Tab} {r e : Int}, Chain r xs e → (xs = [] → e = r) ∧ ∀ u, xs[xs.length - 1]? = some u → e = (u.length : Int)
  | [], r, e, ch => by
    have ch : r = e := ch
    exact ⟨fun _ => ch.symm, fun u h => by simp at h⟩
  | x :: xs, r, e, ch => by
    obtain ⟨a, b⟩ := chain_end ch.2
    refine ⟨fun z => (by cases z), fun u h => ?_⟩
    cases xs with
    | nil =>
      have h : x = u := by simpa using h
      subst h
      exact a rfl
    | cons y ys => exact b u (by simpa using h)
theorem mod_pred {m k : Nat} (h : 0 < m) (hk : 0 < k) : (m % k = 0 → (m - 1) % k = k - 1) ∧ (m % k ≠ 0 → (m - 1) % k = m % k - 1) := by
  have e := Nat.div_add_mod m k
  have lt := Nat.mod_lt m hk
  refine ⟨fun z => ?_, fun z => ?_⟩
  · rw [z] at e
    have q : 0 < m / k := by
      rcases Nat.eq_zero_or_pos (m / k) with z2 | z2
      · rw [z2] at e
        omega
      · exact z2
    obtain ⟨p, hp⟩ : ∃ p, m / k = p + 1 := ⟨m / k - 1, by omega⟩
    rw [hp, Nat.mul_add, Nat.mul_one] at e
    have e2 : m - 1 = (k - 1) + k * p := by omega
    rw [e2, Nat.add_mul_mod_self_left, Nat.mod_eq_of_lt (by omega)]
  · have e2 : m - 1 = (m % k - 1) + k * (m / k) := by omega
    rw [e2, Nat.add_mul_mod_self_left, Nat.mod_eq_of_lt (by omega)]
theorem tabN_h {h c : List Tab} {n : Nat} (hn : n < h.length) : h[n]? = some (tabN h c n) := by
  unfold tabN
  rw [if_pos hn, List.getD_eq_getElem?_getD, List.getElem?_eq_getElem hn]
  rfl
theorem tabN_c {h c : List Tab} {n : Nat} (hn : ¬ n < h.length) (hc : c ≠ []) : c[(n - h.length) % c.length]? = some (tabN h c n) := by
  have hm : (n - h.length) % c.length < c.length := Nat.mod_lt _ (List.length_pos_iff.mpr hc)
  unfold tabN
  rw [if_neg hn, List.getD_eq_getElem?_getD, List.getElem?_eq_getElem hm]
  rfl
theorem PlanOk.c0 {h c : List Tab} (g : PlanOk h c) : c ≠ [] := fun z => by
  have := g.c1
  rw [z] at this
  simp at this
theorem tab_on {h c : List Tab} (g : PlanOk h c) (n : Nat) : TabOk (roomsN h c n) (tabN h c n).length (tabN h c n) ∧ 1 ≤ (tabN h c n).length ∧ (tabN h c n).length ≤ 3 := by
  obtain ⟨b, _, _, c1, c2⟩ := g.ch
  have cl := g.c1
  have c0 := g.c0
  by_cases hn : n < h.length
  · obtain ⟨a, z⟩ := chain_at c1 n _ (tabN_h hn)
    refine ⟨a _ (fun e => by subst e; rfl) (fun j u e hu => ?_), z⟩
    subst e
    have e2 := tabN_h (h := h) (c := c) (n := j) (by omega)
    rw [e2] at hu
    cases hu
    rfl
  · obtain ⟨a, z⟩ := chain_at c2 _ _ (tabN_c hn c0)
    refine ⟨a _ (fun e => ?_) (fun j u e hu => ?_), z⟩
    · by_cases e0 : n = h.length
      · subst e0
        have ends := chain_end c1
        cases hh : h.length with
        | zero =>
          rw [ends.1 (List.length_eq_zero_iff.mp hh)]
          rfl
        | succ k =>
          have e2 := tabN_h (h := h) (c := c) (n := k) (by omega)
          have e3 := ends.2 (tabN h c k) (by rw [hh]; exact e2)
          exact e3.symm
      · obtain ⟨m, rfl⟩ : ∃ m, n = m + 1 := ⟨n - 1, by omega⟩
        have e4 := (mod_pred (m := m + 1 - h.length) (k := c.length) (by omega) (by omega)).1 e
        have e5 := tabN_c (h := h) (c := c) (n := m) (by omega) c0
        rw [show m - h.length = m + 1 - h.length - 1 by omega, e4] at e5
        exact ((chain_end c2).2 _ e5).symm
    · obtain ⟨m, rfl⟩ : ∃ m, n = m + 1 := ⟨n - 1, by
        by_cases e0 : n = h.length
        · rw [e0, Nat.sub_self, Nat.zero_mod] at e
          omega
        · omega⟩
      by_cases e0 : m + 1 = h.length
      · rw [e0, Nat.sub_self, Nat.zero_mod] at e
        omega
      have e4 := (mod_pred (m := m + 1 - h.length) (k := c.length) (by omega) (by omega)).2 (by omega)
      have e5 := tabN_c (h := h) (c := c) (n := m) (by omega) c0
      rw [show m - h.length = m + 1 - h.length - 1 by omega, e4, e, Nat.add_sub_cancel] at e5
      rw [e5] at hu
      cases hu
      rfl
theorem rooms_b {h c : List Tab} (g : PlanOk h c) (n : Nat) : 1 ≤ roomsN h c n ∧ roomsN h c n ≤ 3 := by
  cases n with
  | zero => exact ⟨Nat.le_refl _, by show 1 ≤ 3; omega⟩
  | succ n => exact (tab_on g n).2
/-- tables of a clock with a short head and a short cycle, whose hands can be drawn -/
structure TabW (rooms : Int) (t : Tab) : Prop where
  l1 : 1 ≤ t.length
  l8 : t.length ≤ 8
  row : ∀ r ∈ t, r ≠ [] ∧ r.length ≤ 64 ∧ ∀ d ∈ r, 0 ≤ d ∧ d < rooms
  on : ∀ x, 0 ≤ x → x < rooms → ∃ r ∈ t, x ∈ r
structure PlanW (h c : List Tab) : Prop where
  h3 : h.length ≤ 3
  c1 : 1 ≤ c.length
  c3 : c.length ≤ 3
  tab : ∀ n, TabW (roomsN h c n) (tabN h c n)
  rc : roomsN h c (h.length + c.length) = roomsN h c h.length
  rb : roomsN h c h.length ≤ 3
theorem PlanW.c0 {h c : List Tab} (g : PlanW h c) : c ≠ [] := fun z => by
  have := g.c1
  rw [z] at this
  simp at this
theorem tabN_per {h c : List Tab} {n : Nat} (hn : h.length ≤ n) (k : Nat) : tabN h c (n + c.length * k) = tabN h c n := by
  unfold tabN
  rw [if_neg (by omega), if_neg (by omega), show n + c.length * k - h.length = (n - h.length) + c.length * k by omega, Nat.add_mul_mod_self_left]
theorem rooms_cycle {h c : List Tab} (g : PlanOk h c) : roomsN h c (h.length + c.length) = roomsN h c h.length := by
  obtain ⟨b, _, _, c1, c2⟩ := g.ch
  have c0 := g.c0
  have cl := g.c1
  have e1 : (roomsN h c h.length : Int) = b := by
    have ends := chain_end c1
    cases hh : h.length with
    | zero =>
      rw [ends.1 (List.length_eq_zero_iff.mp hh)]
      rfl
    | succ k =>
      have e2 := tabN_h (h := h) (c := c) (n := k) (by omega)
      exact (ends.2 (tabN h c k) (by rw [hh]; exact e2)).symm
  have e2 : (roomsN h c (h.length + c.length) : Int) = b := by
    rw [show h.length + c.length = (h.length + c.length - 1) + 1 by omega]
    have e5 := tabN_c (h := h) (c := c) (n := h.length + c.length - 1) (by omega) c0
    rw [show h.length + c.length - 1 - h.length = c.length - 1 by omega, Nat.mod_eq_of_lt (by omega)] at e5
    exact ((chain_end c2).2 _ e5).symm
  omega
theorem PlanOk.w {h c : List Tab} (g : PlanOk h c) : PlanW h c :=
  ⟨by have := g.h2; omega, g.c1, g.c3, fun n => ⟨(tab_on g n).2.1, by have := (tab_on g n).2.2; omega, fun r hr => ⟨((tab_on g n).1.ok.row r hr).1, by have := ((tab_on g n).1.ok.row r hr).2.1; omega, ((tab_on g n).1.ok.row r hr).2.2⟩, (tab_on g n).1.on⟩, rooms_cycle g, (rooms_b g _).2⟩
/-- a step at a floor fits the room below it -/
structure StepOk (t : Tab) (p : Int) (s : Stp) : Prop where
  r0 : 0 ≤ s.1
  r1 : s.1 < t.length
  i0 : 0 ≤ s.2
  at_ : ∃ row, t[s.1.toNat]? = some row ∧ row[s.2.toNat]? = some p
/-- steps from a room at a floor up to a room -/
def PathOk (hT cT : List Tab) : Nat → Int → List Stp → Int → Prop
  | _, p, [], e => p = e
  | lo, p, s :: r, e => StepOk (tabN hT cT lo) p s ∧ PathOk hT cT (lo + 1) s.1 r e
section
variable {hT cT : List Tab}
theorem PathOk.app : ∀ {xs ys : List Stp} {lo : Nat} {p m e : Int}, PathOk hT cT lo p xs m → PathOk hT cT (lo + xs.length) m ys e → PathOk hT cT lo p (xs ++ ys) e
  | [], ys, lo, p, m, e, h1, h2 => by
    have h1 : p = m := h1
    subst h1
    exact h2
  | s :: xs, ys, lo, p, m, e, h1, h2 => ⟨h1.1, PathOk.app h1.2 (by rw [show lo + 1 + xs.length = lo + (s :: xs).length by rw [List.length_cons]; omega]; exact h2)⟩
theorem PathOk.fn : ∀ {xs : List Stp} {lo : Nat} {p e e' : Int}, PathOk hT cT lo p xs e → PathOk hT cT lo p xs e' → e = e'
  | [], lo, p, e, e', h, h' => Eq.trans (Eq.symm h) h'
  | s :: xs, lo, p, e, e', h, h' => PathOk.fn h.2 h'.2
theorem PathOk.snoc {xs : List Stp} {lo : Nat} {p e : Int} {s : Stp} (h : PathOk hT cT lo p xs e) (k : StepOk (tabN hT cT (lo + xs.length)) e s) : PathOk hT cT lo p (xs ++ [s]) s.1 := h.app ⟨k, rfl⟩
/-- the room below a step -/
def pvR (p : Int) (xs : List Stp) : Nat → Int
  | 0 => p
  | j + 1 => (xs.getD j (0, 0)).1
theorem PathOk.at_ : ∀ {xs : List Stp} {lo : Nat} {p e : Int}, PathOk hT cT lo p xs e → ∀ i s, xs[i]? = some s → StepOk (tabN hT cT (lo + i)) (pvR p xs i) s
  | [], _, _, _, _, i, s, h => by simp at h
  | x :: xs, lo, p, e, h, 0, s, hs => by
    have hs : x = s := by simpa using hs
    subst hs
    exact h.1
  | x :: xs, lo, p, e, h, i + 1, s, hs => by
    have q := PathOk.at_ h.2 i s (by simpa using hs)
    rw [show lo + 1 + i = lo + (i + 1) by omega] at q
    cases i with
    | zero => exact q
    | succ j => exact q
/-- what hands of a clock are -/
def prevR (h c : List Stp) : Nat → Int
  | 0 => 0
  | n + 1 => (MH.stp zs h c n).1
structure HandOk (hT cT : List Tab) (h c : List Stp) : Prop where
  c0 : c ≠ []
  at_ : ∀ n, StepOk (tabN hT cT n) (prevR h c n) (MH.stp zs h c n)
theorem HandOk.same {h c h' c' : List Stp} (g : HandOk hT cT h c) (c0 : c' ≠ []) (e : ∀ n, MH.sq h' c' n = MH.sq h c n) : HandOk hT cT h' c' := by
  have es : ∀ n, MH.stp zs h' c' n = MH.stp zs h c n := fun n => by
    unfold MH.stp
    rw [e n]
  refine ⟨c0, fun n => ?_⟩
  have q := g.at_ n
  rw [es n]
  cases n with
  | zero => exact q
  | succ n =>
    have : prevR h' c' (n + 1) = prevR h c (n + 1) := by
      show (MH.stp zs h' c' n).1 = (MH.stp zs h c n).1
      rw [es n]
    rw [this]
    exact q
end
abbrev s_Clock_table : Stmt := inClass (topS 17) 6
theorem sc_Clock_table : FnScope ["self", "floor"] ["self", "floor"] (defScope s_Clock_table) := ⟨rfl, rfl, rfl, by decide +kernel, rfl, by decide +kernel, by decide +kernel⟩
def spTabG : DSp := fun ds S Q _ => ∃ (h c : List Tab) (n : Nat), ds = [.clk (h.map tabD) (c.map tabD), .int n] ∧ c ≠ [] ∧ Q (tabD (tabN h c n)) S
section
variable {P : Program} {w : World} {K : PySem.W.Frag} {mg : Str → Option Value} {base : Heap} {C : Cf}
theorem ok_tableG {f : Addr} {fd : FuncData} (F : Fun K "table" "Clock.table" s_Clock_table f fd) (T : Txt mg) (KC : CkC K C) : DOk P w K mg base C 4 f fd ["self", "floor"] spTabG := by
  refine dok_of F sc_Clock_table (fun ds S Q Xd h => ?_) (fun cdv A outer s B Ex ds S Q Xd hr dx h => ?_)
  · obtain ⟨h, c, n, rfl, _⟩ := h
    rfl
  · have sc := sc_Clock_table
    refine ⟨_, (dss_cons (ds_if (dt_cmp od_lt (de_var 1) de_int) dss_dead dss_nil) (dss_cons (ds_if (dt_cmp od_lt (de_var 1) (de_callB cd_len T.b_len (by decide +kernel) (da_cons (de_head KC (de_var 0)) da_nil))) (dss_one (ds_ret (de_ix (de_head KC (de_var 0)) (de_var 1)))) dss_nil) (dss_one (ds_ret (de_ix (de_cycle KC (de_var 0)) (de_bin od_mod (de_bin od_sub (de_var 1) (de_callB cd_len T.b_len (by decide +kernel) (da_cons (de_head KC (de_var 0)) da_nil))) (de_callB cd_len T.b_len (by decide +kernel) (da_cons (de_cycle KC (de_var 0)) da_nil)))))))), ?_⟩
    obtain ⟨h, c, m, rfl, cn, hq⟩ := h
    have c0 : 0 < c.length := List.length_pos_iff.mpr cn
    walk_at "go"
    rw [decide_eq_false (by omega)]
    walk_at "go"
    refine ⟨_, rfl, ?_⟩
    walk_at "go"
    intro _
    rw [List.length_map]
    by_cases hm : m < h.length
    · rw [decide_eq_true (show (m : Int) < h.length by omega)]
      walk_at "go"
      refine ⟨_, rfl, ?_⟩
      walk_at "go"
      exact ⟨_, atI_nat (tabN_head hm), .now hq⟩
    · rw [decide_eq_false (show ¬ (m : Int) < h.length by omega)]
      walk_at "go"
      refine ⟨_, rfl, _, rfl, ?_⟩
      walk_at "go"
      refine fun _ => ⟨_, rfl, ?_⟩
      walk_at "go"
      refine fun _ => ⟨by rw [List.length_map]; omega, _, ?_, .now hq⟩
      simp only [List.length_map]
      have e1 : ((m : Int) - h.length) = ((m - h.length : Nat) : Int) := by omega
      rw [e1, ← Int.natCast_emod]
      exact atI_nat (tabN_cycle hm cn)
end
/-! ### chains of tables that fit -/
def ChainF : Int → List Tab → Int → Prop
  | r, [], e => r = e
  | r, t :: ts, e => TabFit r t ∧ ChainF t.length ts e
open Classical in
theorem walkF_head {hl : Nat} {rest : List Tab} : ∀ {h : List Tab} {i : Nat} {r beg b : Int}, ChainF r h b → i + h.length = hl → walkT hl (h ++ rest) i r beg = walkT hl rest hl b (if h = [] then beg else b)
  | [], i, r, beg, b, ch, e => by
    obtain rfl : r = b := ch
    have e : i = hl := e
    rw [e, if_pos rfl]
    rfl
  | t :: ts, i, r, beg, b, ch, e => by
    rw [List.length_cons] at e
    rw [List.cons_append, walkT, if_pos ch.1, walkF_head ch.2 (by omega), if_neg (List.cons_ne_nil _ _)]
    congr 1
    by_cases z : ts = []
    · subst z
      have z2 : (t.length : Int) = b := ch.2
      rw [if_pos rfl, if_pos (by simpa using e), z2]
    · rw [if_neg z]
open Classical in
theorem walkF_cycle {hl : Nat} : ∀ {c : List Tab} {i : Nat} {r b : Int}, ChainF r c b → hl ≤ i → walkT hl c i r b = none
  | [], i, r, b, ch, e => by
    obtain rfl : r = b := ch
    rw [walkT, if_pos rfl]
  | t :: ts, i, r, b, ch, e => by
    rw [walkT, if_pos ch.1, if_neg (by omega)]
    exact walkF_cycle ch.2 (by omega)
structure PlanF (h c : List Tab) : Prop where
  c0 : c ≠ []
  le : h.length + c.length ≤ 60
  ch : ∃ b : Int, ChainF 1 h b ∧ ChainF b c b
theorem PlanF.valid {h c : List Tab} (g : PlanF h c) : walkT h.length (h ++ c) 0 1 1 = none := by
  obtain ⟨b, c1, c2⟩ := g.ch
  rw [walkF_head c1 (Nat.zero_add _)]
  have e : (if h = [] then (1 : Int) else b) = b := by
    by_cases z : h = []
    · subst z
      rw [if_pos rfl]
      exact c1
    · rw [if_neg z]
  rw [e]
  exact walkF_cycle c2 (Nat.le_refl _)
theorem flat_le {k : Nat} : ∀ {t : List (List Int)}, (∀ r ∈ t, r.length ≤ k) → t.flatten.length ≤ t.length * k
  | [], _ => by simp
  | r :: t, e => by
    have a := flat_le fun r' hr => e r' (List.mem_cons_of_mem _ hr)
    have b := e r List.mem_cons_self
    rw [List.flatten_cons, List.length_append, List.length_cons, Nat.add_mul]
    omega
theorem TabFit.small {r : Int} {t : Tab} (f : TabFit r t) : t.flatten.length ≤ 4000 ∧ t.length ≤ 1000 := by
  have a := flat_le fun r hr => (f.2.1 r hr).2.1
  have b := f.1.2
  have c := Nat.mul_le_mul_right 64 b
  exact ⟨by omega, by omega⟩
theorem ChainF.small : ∀ {ts : List Tab} {r e : Int}, ChainF r ts e → TabsSmall ts
  | [], _, _, _ => fun t ht => by cases ht
  | u :: ts, _, _, ch => fun t ht => by
    rcases List.mem_cons.mp ht with rfl | ht
    · exact ch.1.small
    · exact ChainF.small ch.2 t ht
theorem PlanF.small {h c : List Tab} (g : PlanF h c) : TabsSmall (h ++ c) := fun t ht => by
  obtain ⟨b, c1, c2⟩ := g.ch
  rcases List.mem_append.mp ht with ht | ht
  · exact c1.small t ht
  · exact c2.small t ht
abbrev s_common_multiple : Stmt := topS 13
theorem sc_common_multiple : FnScope ["one", "other", "first", "second"] ["one", "other"] (defScope s_common_multiple) := ⟨rfl, rfl, rfl, by decide +kernel, rfl, by decide +kernel, by decide +kernel⟩
abbrev s__law_lcm : Stmt := topS 29
theorem sc__law_lcm : FnScope ["_law_one", "_law_two", "_law_first", "_law_last"] ["_law_one", "_law_two"] (defScope s__law_lcm) := ⟨rfl, rfl, rfl, by decide +kernel, rfl, by decide +kernel, by decide +kernel⟩
/-! ### the least common multiple -/
def spLcm : DSp := fun ds S Q _ => ∃ a b : Nat, ds = [.int a, .int b] ∧ 0 < a ∧ 0 < b ∧ a ≤ 1000 ∧ b ≤ 1000 ∧ Q (.int (Nat.lcm a b : Nat)) S
theorem lcm_div {a b : Nat} : ((a : Int) / (Nat.gcd a b : Nat) * (b : Int)) = ((Nat.lcm a b : Nat) : Int) := by
  have e : a / Nat.gcd a b * b = Nat.lcm a b := by
    rw [Nat.lcm, Nat.div_mul_right_comm (Nat.gcd_dvd_left a b)]
  rw [← e, Int.natCast_mul, Int.natCast_ediv]
section
variable {P : Program} {w : World} {K : PySem.W.Frag} {mg : Str → Option Value} {base : Heap} {C : Cf}
theorem ok_common_multiple {f : Addr} {fd : FuncData} (F : Fun K "common_multiple" "common_multiple" s_common_multiple f fd) (T : Txt mg) : DOk P w K mg base C 1 f fd ["one", "other"] spLcm := by
  refine dok_of F sc_common_multiple (fun ds S Q Xd h => ?_) (fun cdv A outer s B Ex ds S Q Xd hr dx h => ?_)
  · obtain ⟨a, b, rfl, _⟩ := h
    rfl
  · have sc := sc_common_multiple
    refine ⟨_, (dss_cons (ds_par 2 3 rfl sc.nd (da_cons (de_var 0) (da_cons (de_var 1) da_nil))) (dss_cons (ds_while (passes_of rfl) (dt_cmp od_gt (de_var 3) de_int) (dss_one (ds_par 2 3 rfl sc.nd (da_cons (de_var 3) (da_cons (de_bin od_mod (de_var 2) (de_var 3)) da_nil))))) (dss_one (ds_ret (de_bin od_mul (de_bin od_fdiv (de_var 0) (de_var 2)) (de_var 1)))))), ?_⟩
    obtain ⟨a, b, rfl, a0, b0, a1, b1, q⟩ := h
    walk_at "go"
    refine ⟨fun m E S1 => S1 = S ∧ ∃ x y : Nat, E = [some (.int a), some (.int b), some (.int x), some (.int y)] ∧ m = y ∧ 0 < x ∧ x ≤ 1000 ∧ y ≤ 1000 ∧ Nat.gcd x y = Nat.gcd a b, ⟨b, rfl, a, b, rfl, rfl, a0, a1, b1, rfl⟩, ?_⟩
    rintro m E S1 ⟨rfl, x, y, rfl, em, x0, x1, y1, g⟩
    walk_at "go"
    by_cases y0 : y = 0
    · subst y0
      rw [decide_eq_false (by decide)]
      walk_at "go"
      rw [Nat.gcd_zero_right] at g
      subst g
      have g0 : 0 < Nat.gcd a b := Nat.gcd_pos_of_pos_left b a0
      have hd : (a : Int) / (Nat.gcd a b : Nat) ≤ 1000 ∧ 0 ≤ (a : Int) / (Nat.gcd a b : Nat) := by
        have h1 : a / Nat.gcd a b ≤ a := Nat.div_le_self _ _
        have h2 : ((a / Nat.gcd a b : Nat) : Int) ≤ 1000 := by omega
        rw [Int.natCast_ediv] at h2
        exact ⟨h2, Int.ediv_nonneg (by omega) (by omega)⟩
      refine ⟨wide_div (b := 200) (by omega) (by omega) (by decide) (by decide), mul_small (by omega) (by omega), ?_⟩
      rw [lcm_div]
      exact .now q
    · rw [decide_eq_true (by omega)]
      walk_at "go"
      have lt : x % y < y := Nat.mod_lt _ (by omega)
      refine ⟨by omega, x % y, by omega, y, x % y, by rw [Int.natCast_emod], rfl, by omega, y1, by omega, ?_⟩
      · rw [← g, Nat.gcd_comm y, ← Nat.gcd_rec, Nat.gcd_comm]
theorem ok__law_lcm {f : Addr} {fd : FuncData} (F : Fun K "_law_lcm" "_law_lcm" s__law_lcm f fd) (T : Txt mg) : DOk P w K mg base C 1 f fd ["_law_one", "_law_two"] spLcm := by
  refine dok_of F sc__law_lcm (fun ds S Q Xd h => ?_) (fun cdv A outer s B Ex ds S Q Xd hr dx h => ?_)
  · obtain ⟨a, b, rfl, _⟩ := h
    rfl
  · have sc := sc__law_lcm
    refine ⟨_, (dss_cons (ds_par 2 3 rfl sc.nd (da_cons (de_var 0) (da_cons (de_var 1) da_nil))) (dss_cons (ds_while (passes_of rfl) (dt_cmp od_gt (de_var 3) de_int) (dss_one (ds_par 2 3 rfl sc.nd (da_cons (de_var 3) (da_cons (de_bin od_mod (de_var 2) (de_var 3)) da_nil))))) (dss_one (ds_ret (de_bin od_mul (de_bin od_fdiv (de_var 0) (de_var 2)) (de_var 1)))))), ?_⟩
    obtain ⟨a, b, rfl, a0, b0, a1, b1, q⟩ := h
    walk_at "go"
    refine ⟨fun m E S1 => S1 = S ∧ ∃ x y : Nat, E = [some (.int a), some (.int b), some (.int x), some (.int y)] ∧ m = y ∧ 0 < x ∧ x ≤ 1000 ∧ y ≤ 1000 ∧ Nat.gcd x y = Nat.gcd a b, ⟨b, rfl, a, b, rfl, rfl, a0, a1, b1, rfl⟩, ?_⟩
    rintro m E S1 ⟨rfl, x, y, rfl, em, x0, x1, y1, g⟩
    walk_at "go"
    by_cases y0 : y = 0
    · subst y0
      rw [decide_eq_false (by decide)]
      walk_at "go"
      rw [Nat.gcd_zero_right] at g
      subst g
      have g0 : 0 < Nat.gcd a b := Nat.gcd_pos_of_pos_left b a0
      have hd : (a : Int) / (Nat.gcd a b : Nat) ≤ 1000 ∧ 0 ≤ (a : Int) / (Nat.gcd a b : Nat) := by
        have h1 : a / Nat.gcd a b ≤ a := Nat.div_le_self _ _
        have h2 : ((a / Nat.gcd a b : Nat) : Int) ≤ 1000 := by omega
        rw [Int.natCast_ediv] at h2
        exact ⟨h2, Int.ediv_nonneg (by omega) (by omega)⟩
      refine ⟨wide_div (b := 200) (by omega) (by omega) (by decide) (by decide), mul_small (by omega) (by omega), ?_⟩
      rw [lcm_div]
      exact .now q
    · rw [decide_eq_true (by omega)]
      walk_at "go"
      have lt : x % y < y := Nat.mod_lt _ (by omega)
      refine ⟨by omega, x % y, by omega, y, x % y, by rw [Int.natCast_emod], rfl, by omega, y1, by omega, ?_⟩
      · rw [← g, Nat.gcd_comm y, ← Nat.gcd_rec, Nat.gcd_comm]
end
abbrev s_Clock_rooms : Stmt := inClass (topS 17) 7
theorem sc_Clock_rooms : FnScope ["self", "floor"] ["self", "floor"] (defScope s_Clock_rooms) := ⟨rfl, rfl, rfl, by decide +kernel, rfl, by decide +kernel, by decide +kernel⟩
/-! ### hands of a clock: rooms, shapes -/
abbrev clkD (h c : List Tab) : D := .clk (h.map tabD) (c.map tabD)
def spRoomsG : DSp := fun ds S Q _ => ∃ (h c : List Tab) (n : Nat), ds = [clkD h c, .int n] ∧ c ≠ [] ∧ Q (.int (roomsN h c n)) S
section
variable {P : Program} {w : World} {K : PySem.W.Frag} {mg : Str → Option Value} {base : Heap} {C : Cf}
theorem ok_roomsG {f : Addr} {fd : FuncData} (F : Fun K "rooms" "Clock.rooms" s_Clock_rooms f fd) (T : Txt mg) (KC : CkC K C) (M_table : DfM P w K mg base C "table" 4 ["self", "floor"] spTabG) : DOk P w K mg base C 5 f fd ["self", "floor"] spRoomsG := by
  refine dok_of F sc_Clock_rooms (fun ds S Q Xd h => ?_) (fun cdv A outer s B Ex ds S Q Xd hr dx h => ?_)
  · obtain ⟨h, c, n, rfl, _⟩ := h
    rfl
  · have sc := sc_Clock_rooms
    refine ⟨_, (dss_cons (ds_if (dt_cmp od_lt (de_var 1) de_int) dss_dead dss_nil) (dss_one (ds_ret (de_ife (dt_cmp (od_eq hr.units) (de_var 1) de_int) de_int (de_callB cd_len T.b_len (by decide +kernel) (da_cons (de_meth M_table (hr.mono (by omega)) dx (de_var 0) (da_cons (de_bin od_sub (de_var 1) de_int) da_nil)) da_nil)))))), ?_⟩
    obtain ⟨h, c, n, rfl, cn, q⟩ := h
    walk_at "go"
    rw [decide_eq_false (by omega)]
    walk_at "go"
    refine dEq_int (fun e => ?_) fun e => ?_
    · obtain rfl : n = 0 := by omega
      walk_at "go"
      exact .now q
    · obtain ⟨m, rfl⟩ : ∃ m, n = m + 1 := ⟨n - 1, by omega⟩
      walk_at "go"
      refine ⟨rfl, h, c, m, by rw [show ((m + 1 : Nat) : Int) - 1 = (m : Int) by omega], cn, ?_⟩
      unfold tabD
      walk_at "go"
      intro _
      rw [List.length_map]
      exact .now q
end
abbrev s__law_clock : Stmt := topS 32
theorem sc__law_clock : FnScope ["_law_plan_here"] ["_law_plan_here"] (defScope s__law_clock) := ⟨rfl, rfl, rfl, by decide +kernel, rfl, by decide +kernel, by decide +kernel⟩
def spClock : DSp := fun ds S Q _ => ∃ h c : List Tab, ds = [planD h c] ∧ PlanG h c ∧ Q (.clk (h.map tabD) (c.map tabD)) S
section
variable {P : Program} {w : World} {K : PySem.W.Frag} {mg : Str → Option Value} {base : Heap} {C : Cf}
theorem ok_clock {f : Addr} {fd : FuncData} (F : Fun K "_law_clock" "_law_clock" s__law_clock f fd) (T : Txt mg) (K_Clock : DfK P w K mg base C "Clock" 4 ["self", "head", "cycle"] spInit) : DOk P w K mg base C 6 f fd ["_law_plan_here"] spClock := by
  refine dok_of F sc__law_clock (fun ds S Q Xd h => ?_) (fun cdv A outer s B Ex ds S Q Xd hr dx h => ?_)
  · obtain ⟨h, c, rfl, _⟩ := h
    rfl
  · have sc := sc__law_clock
    refine ⟨_, (dss_one (ds_ret (de_make K_Clock (hr.mono (by omega)) dx (da_cons (de_callTy cd_list T.b_list (by decide +kernel) (da_cons (de_ix (de_var 0) de_int) da_nil)) (da_cons (de_callTy cd_list T.b_list (by decide +kernel) (da_cons (de_ix (de_var 0) de_int) da_nil)) da_nil))))), ?_⟩
    obtain ⟨h, c, rfl, g, hq⟩ := h
    unfold planD
    walk_at "go"
    refine ⟨_, rfl, ?_⟩
    walk_at "go"
    refine ⟨_, rfl, ?_⟩
    walk_at "go"
    intro a ha
    refine ⟨a, _, _, h, c, rfl, Sto.put_same, .inr (.inl rfl), .inr (.inl rfl), g.c0, by have := g.hl; have := g.cl; omega, g.small, g.valid, ?_⟩
    refine ⟨rfl, _, _, Sto.put_same, ?_⟩
    rw [Sto.put_put, Sto.del_put ha]
    exact .now hq
end
/-! ### the heights of a clock's rooms -/
/-! ### valid clocks, joined clocks -/
structure ClkF (h c : List Tab) : Prop where
  c0 : c ≠ []
  le : h.length + c.length ≤ 60
  tab : ∀ n, TabFit (roomsN h c n) (tabN h c n)
  rc : roomsN h c (h.length + c.length) = roomsN h c h.length
theorem ClkF.c1 {h c : List Tab} (g : ClkF h c) : 1 ≤ c.length := List.length_pos_iff.mpr g.c0
theorem PlanOk.clkF {h c : List Tab} (g : PlanOk h c) : ClkF h c :=
  ⟨g.c0, by have := g.h2; have := g.c3; omega, fun n => by have t := tab_on g n; exact fit_of t.1 t.2.1 t.2.2, rooms_cycle g⟩
theorem ClkF.rooms {h c : List Tab} (g : ClkF h c) (n : Nat) : 1 ≤ roomsN h c n ∧ roomsN h c n ≤ 8 := by
  cases n with
  | zero => exact ⟨Nat.le_refl 1, (by decide : 1 ≤ 8)⟩
  | succ n => exact (g.tab n).1
theorem ClkF.per {h c : List Tab} (g : ClkF h c) {n : Nat} (hn : h.length ≤ n) (k : Nat) : roomsN h c (n + c.length * k) = roomsN h c n := by
  have c1 := g.c1
  have key : ∀ k, roomsN h c (h.length + c.length * k) = roomsN h c h.length := fun k => by
    cases k with
    | zero => rw [Nat.mul_zero, Nat.add_zero]
    | succ m =>
      rw [← g.rc]
      obtain ⟨j, hj⟩ : ∃ j, c.length = j + 1 := ⟨c.length - 1, by omega⟩
      have e := tabN_per (h := h) (c := c) (n := h.length + j) (by omega) m
      have e1 : h.length + c.length * (m + 1) = h.length + j + c.length * m + 1 := by rw [Nat.mul_succ]; omega
      have e2 : h.length + c.length = h.length + j + 1 := by omega
      rw [e1, e2]
      show (tabN h c _).length = (tabN h c _).length
      rw [e]
  by_cases z : n = h.length
  · rw [z]
    exact key k
  · obtain ⟨m, rfl⟩ : ∃ m, n = m + 1 := ⟨n - 1, by omega⟩
    rw [show m + 1 + c.length * k = m + c.length * k + 1 by omega]
    show (tabN h c _).length = (tabN h c _).length
    rw [tabN_per (by omega)]
theorem chain_rng {T : Nat → Tab} {R : Nat → Nat} : ∀ (m a : Nat), (∀ i, a ≤ i → i < a + m → TabFit (R i) (T i) ∧ (T i).length = R (i + 1)) → ChainF (R a) ((List.range m).map fun i => T (a + i)) (R (a + m))
  | 0, a, _ => rfl
  | m + 1, a, hT => by
    rw [List.range_succ_eq_map, List.map_cons, List.map_map]
    obtain ⟨t1, t2⟩ := hT a (Nat.le_refl _) (by omega)
    refine ⟨t1, ?_⟩
    have e : (fun i => T (a + i)) ∘ Nat.succ = fun i => T (a + 1 + i) := by
      funext i
      show T (a + (i + 1)) = _
      rw [show a + (i + 1) = a + 1 + i by omega]
    have ih := chain_rng m (a + 1) fun i h1 h2 => hT i (by omega) (by omega)
    rw [e, show (a + 0 : Nat) = a from rfl, t2, show a + (m + 1) = a + 1 + m by omega]
    exact ih
theorem tabN_mem {h c : List Tab} (c0 : c ≠ []) (n : Nat) : tabN h c n ∈ h ++ c := by
  by_cases hn : n < h.length
  · exact List.mem_append_left _ (List.mem_of_getElem? (tabN_h (c := c) hn))
  · exact List.mem_append_right _ (List.mem_of_getElem? (tabN_c hn c0))
theorem ClkF.planF {h c : List Tab} (g : ClkF h c) : PlanF h c := by
  have c1 := g.c1
  have at_ : ∀ i, TabFit (roomsN h c i) (tabN h c i) ∧ (tabN h c i).length = roomsN h c (i + 1) := fun i => ⟨g.tab i, rfl⟩
  refine ⟨g.c0, g.le, (roomsN h c h.length : Int), ?_, ?_⟩
  · have := chain_rng (T := tabN h c) (R := roomsN h c) h.length 0 fun i _ _ => at_ i
    rw [Nat.zero_add] at this
    have e : ((List.range h.length).map fun i => tabN h c (0 + i)) = h := by
      refine List.ext_getElem? fun i => ?_
      rw [List.getElem?_map]
      by_cases hi : i < h.length
      · rw [List.getElem?_range hi, tabN_h (c := c) hi]
        show some (tabN h c (0 + i)) = _
        rw [Nat.zero_add]
      · rw [List.getElem?_eq_none (by rw [List.length_range]; omega), List.getElem?_eq_none (by omega)]
        rfl
    rw [e] at this
    exact this
  · have := chain_rng (T := tabN h c) (R := roomsN h c) c.length h.length fun i _ _ => at_ i
    rw [g.rc] at this
    have e : ((List.range c.length).map fun i => tabN h c (h.length + i)) = c := by
      refine List.ext_getElem? fun i => ?_
      rw [List.getElem?_map]
      by_cases hi : i < c.length
      · rw [List.getElem?_range hi]
        have := tabN_c (h := h) (c := c) (n := h.length + i) (by omega) g.c0
        rw [show (h.length + i - h.length) % c.length = i by rw [Nat.add_sub_cancel_left, Nat.mod_eq_of_lt hi]] at this
        rw [this]
        rfl
      · rw [List.getElem?_eq_none (by rw [List.length_range]; omega), List.getElem?_eq_none (by omega)]
        rfl
    rw [e] at this
    exact this
/-- clocks of one room at each floor -/
theorem clk_ones {h c : List Tab} (c0 : c ≠ []) (le : h.length + c.length ≤ 60) (ht : ∀ t ∈ h ++ c, ∃ m, 1 ≤ m ∧ m ≤ 64 ∧ t = [List.replicate m 0]) : ClkF h c := by
  have r1 : ∀ n, roomsN h c n = 1 := fun n => by
    cases n with
    | zero => rfl
    | succ n =>
      obtain ⟨m, _, _, e⟩ := ht _ (tabN_mem (h := h) c0 n)
      show (tabN h c n).length = 1
      rw [e]
      rfl
  refine ⟨c0, le, fun n => ?_, by rw [r1, r1]⟩
  obtain ⟨m, m1, m64, e⟩ := ht _ (tabN_mem (h := h) c0 n)
  rw [r1, e]
  refine ⟨⟨Nat.le_refl 1, (by decide : 1 ≤ 8)⟩, fun r hr => ?_, fun x x0 x1 => ⟨_, List.mem_cons_self, List.mem_replicate.mpr ⟨by omega, by omega⟩⟩⟩
  rw [List.mem_singleton.mp hr]
  refine ⟨by rw [List.length_replicate]; exact m1, by rw [List.length_replicate]; exact m64, fun d hd => ?_⟩
  rw [List.eq_of_mem_replicate hd]
  decide
/-- the table over k + 1 floors -/
def joinT (h c : List Tab) (low : Nat) : Nat → Tab
  | 0 => tabN h c low
  | k + 1 => (tabN h c (low + (k + 1))).map fun row => (row.map fun d => (joinT h c low k).getD d.toNat []).flatten
def wideT (h c : List Tab) (low n : Nat) : Prop := ∃ k, 1 ≤ k ∧ k < n ∧ ∃ row ∈ joinT h c low k, 64 < row.length
theorem joinT_len {h c : List Tab} {low : Nat} : ∀ k, (joinT h c low k).length = roomsN h c (low + k + 1)
  | 0 => rfl
  | k + 1 => by
    rw [joinT, List.length_map]
    rfl
theorem joinT_fit {h c : List Tab} {low : Nat} (g : ClkF h c) : ∀ k, (∀ j, 1 ≤ j → j ≤ k → ∀ row ∈ joinT h c low j, row.length ≤ 64) → TabFit (roomsN h c low) (joinT h c low k)
  | 0, _ => g.tab low
  | k + 1, hk => by
    have ih := joinT_fit g k fun j j1 jk => hk j j1 (by omega)
    have t := g.tab (low + (k + 1))
    have el := joinT_len (h := h) (c := c) (low := low) k
    rw [show low + (k + 1) = low + k + 1 by omega] at t
    have at_ : ∀ row ∈ tabN h c (low + k + 1), ∀ d ∈ row, (joinT h c low k).getD d.toNat [] ∈ joinT h c low k := fun row hr d hd => by
      have := ((t.2.1 row hr).2.2 d hd)
      rw [← el] at this
      rw [List.getD_eq_getElem?_getD, List.getElem?_eq_getElem (by omega)]
      exact List.getElem_mem _
    refine ⟨by rw [joinT, List.length_map]; exact t.1, fun r hr => ?_, fun x x0 x1 => ?_⟩
    · have h64 := hk (k + 1) (by omega) (Nat.le_refl _) r hr
      rw [joinT] at hr
      obtain ⟨row, hrow, rfl⟩ := List.mem_map.mp hr
      refine ⟨?_, h64, fun d hd => ?_⟩
      · have r1 := (t.2.1 row hrow).1
        cases row with
        | nil => simp at r1
        | cons d ds =>
          have := (ih.2.1 _ (at_ _ hrow d List.mem_cons_self)).1
          rw [List.map_cons, List.flatten_cons, List.length_append]
          omega
      · obtain ⟨l, hl, hd⟩ := List.mem_flatten.mp hd
        obtain ⟨e, he, rfl⟩ := List.mem_map.mp hl
        exact (ih.2.1 _ (at_ _ hrow e he)).2.2 d hd
    · obtain ⟨r, hr, hx⟩ := ih.2.2 x x0 x1
      obtain ⟨i, hi⟩ := List.getElem?_of_mem hr
      have il : i < (joinT h c low k).length := (List.getElem?_eq_some_iff.mp hi).1
      rw [el] at il
      obtain ⟨row, hrow, hir⟩ := t.2.2 (i : Int) (by omega) (by omega)
      refine ⟨_, by rw [joinT]; exact List.mem_map.mpr ⟨row, hrow, rfl⟩, List.mem_flatten.mpr ⟨r, List.mem_map.mpr ⟨(i : Int), hir, ?_⟩, hx⟩⟩
      rw [Int.toNat_natCast, List.getD_eq_getElem?_getD, hi]
      rfl
theorem not_wide {h c : List Tab} {low n : Nat} (g : ClkF h c) (hw : ¬ wideT h c low n) : ∀ k, k < n → ∀ row ∈ joinT h c low k, row.length ≤ 64 := fun k hk row hr => by
  by_cases z : k = 0
  · subst z
    exact ((g.tab low).2.1 row hr).2.1
  · refine Nat.le_of_not_lt fun h6 => hw ⟨k, by omega, hk, row, hr, h6⟩
theorem join_fit {h c : List Tab} {low n : Nat} (g : ClkF h c) (n1 : 1 ≤ n) (hw : ¬ wideT h c low n) : TabFit (roomsN h c low) (joinT h c low (n - 1)) ∧ (joinT h c low (n - 1)).length = roomsN h c (low + n) := by
  refine ⟨joinT_fit g _ fun j j1 jk => not_wide g hw j (by omega), ?_⟩
  rw [joinT_len, show low + (n - 1) + 1 = low + n by omega]
def jF (h : List Tab) (n : Nat) : Nat := (h.length + n - 1) / n
def jP (c : List Tab) (n : Nat) : Nat := Nat.lcm c.length n / n
def joinH (h c : List Tab) (n : Nat) : List Tab := (List.range (jF h n)).map fun i => joinT h c (i * n) (n - 1)
def joinC (h c : List Tab) (n : Nat) : List Tab := (List.range (jP c n)).map fun i => joinT h c ((jF h n + i) * n) (n - 1)
def wideC (h c : List Tab) (n : Nat) : Prop := ∃ i, i < jF h n + jP c n ∧ wideT h c (i * n) n
theorem jP_mul {c : List Tab} {n : Nat} : jP c n * n = Nat.lcm c.length n := Nat.div_mul_cancel (Nat.dvd_lcm_right _ _)
theorem jP_pos {c : List Tab} {n : Nat} (c1 : 1 ≤ c.length) (n1 : 1 ≤ n) : 1 ≤ jP c n := by
  have := Nat.lcm_pos (m := c.length) (n := n) (by omega) (by omega)
  rw [← jP_mul] at this
  exact Nat.pos_of_mul_pos_right this
theorem jP_le {c : List Tab} {n : Nat} (c1 : 1 ≤ c.length) (n1 : 1 ≤ n) : jP c n ≤ c.length := by
  have e := jP_mul (c := c) (n := n)
  have : Nat.lcm c.length n ≤ c.length * n := Nat.div_le_self _ _
  rw [← e] at this
  exact Nat.le_of_mul_le_mul_right this (by omega)
theorem jF_le {h : List Tab} {n : Nat} (n1 : 1 ≤ n) : jF h n ≤ h.length := by
  unfold jF
  cases e : h.length with
  | zero => rw [Nat.zero_add, Nat.div_eq_of_lt (by omega)]; exact Nat.le_refl _
  | succ m =>
    refine Nat.le_of_lt_succ (Nat.div_lt_of_lt_mul ?_)
    have e2 : n * (m + 1).succ = n * m + n + n := by rw [Nat.mul_succ, Nat.mul_succ]
    have : m ≤ n * m := Nat.le_mul_of_pos_left m (by omega)
    omega
theorem jF_mul {h : List Tab} {n : Nat} (n1 : 1 ≤ n) : h.length ≤ jF h n * n := by
  unfold jF
  have := Nat.div_add_mod (h.length + n - 1) n
  have m := Nat.mod_lt (h.length + n - 1) (show 0 < n by omega)
  rw [Nat.mul_comm] at this
  omega
theorem join_at {h c : List Tab} {n : Nat} (g : ClkF h c) (n1 : 1 ≤ n) (hw : ¬ wideC h c n) {i : Nat} (hi : i < jF h n + jP c n) : TabFit (roomsN h c (i * n)) (joinT h c (i * n) (n - 1)) ∧ (joinT h c (i * n) (n - 1)).length = roomsN h c ((i + 1) * n) := by
  have := join_fit (low := i * n) g n1 fun z => hw ⟨i, hi, z⟩
  rw [Nat.succ_mul]
  exact this
theorem join_rc {h c : List Tab} {n : Nat} (g : ClkF h c) (n1 : 1 ≤ n) : roomsN h c ((jF h n + jP c n) * n) = roomsN h c (jF h n * n) := by
  rw [Nat.add_mul, jP_mul]
  obtain ⟨k, hk⟩ := Nat.dvd_lcm_left c.length n
  rw [hk]
  exact g.per (jF_mul n1) k
theorem join_plan {h c : List Tab} {n : Nat} (g : ClkF h c) (n1 : 1 ≤ n) (hw : ¬ wideC h c n) : PlanF (joinH h c n) (joinC h c n) := by
  have p1 := jP_pos g.c1 n1
  refine ⟨fun z => ?_, ?_, (roomsN h c (jF h n * n) : Int), ?_, ?_⟩
  · have := congrArg List.length z
    unfold joinC at this
    rw [List.length_map, List.length_range, List.length_nil] at this
    omega
  · unfold joinH joinC
    rw [List.length_map, List.length_range, List.length_map, List.length_range]
    have := jF_le (h := h) n1
    have := jP_le (c := c) g.c1 n1
    have := g.le
    omega
  · have := chain_rng (T := fun i => joinT h c (i * n) (n - 1)) (R := fun i => roomsN h c (i * n)) (jF h n) 0 fun i _ hi => join_at g n1 hw (by omega)
    simp only [Nat.zero_add, Nat.zero_mul] at this
    exact this
  · have := chain_rng (T := fun i => joinT h c (i * n) (n - 1)) (R := fun i => roomsN h c (i * n)) (jP c n) (jF h n) fun i _ hi => join_at g n1 hw (by omega)
    simp only [join_rc g n1] at this
    exact this
theorem lc_mapE {g : WG} {te : RL.WE} {E : EV} {all : List D} {Q : KD} {S : Sto} (good : D → Prop) (f : D → D) {ds : List D} (hl : ds.length ≤ sizeLine) (hs : ∀ d ∈ ds, ∀ (S1 : Sto) (K1 : KD), S.Le S1 → (good d → K1 (f d) S1) → g d E S1 fun E2 S2 => te E2 S2 K1) (h : (∀ d ∈ ds, good d) → Q (.lst (ds.map f)) S) :
    ∀ Z, S Z = none → wLcL g wYes te E none all Z (fun S2 => asF Z S2 Q) ds [] (S.put Z (.lst [])) := fun Z hZ => by
  have key : ∀ (es bs : List D), bs.length + es.length ≤ sizeLine → (∀ d ∈ es, d ∈ ds) → bs ++ es = ds → (∀ d ∈ bs, good d) → wLcL g wYes te E none all Z (fun S2 => asF Z S2 Q) es (bs.map f) (S.put Z (.lst (bs.map f))) := by
    intro es
    induction es with
    | nil =>
      intro bs _ _ e hb
      refine ⟨trivial, Sto.put_same, fun a ha => ?_⟩
      rw [Sto.put_same] at ha
      cases ha
      rw [List.append_nil] at e
      rw [Sto.del_put hZ, e]
      exact h fun d hd => hb d (e ▸ hd)
    | cons d es ih =>
      intro bs hl2 hd e hb
      refine ⟨trivial, hs d (hd d List.mem_cons_self) _ _ (Sto.le_put hZ) fun gd => ⟨Sto.put_same, by rw [List.length_map]; rw [List.length_cons] at hl2; omega, ?_⟩⟩
      rw [Sto.put_put]
      have := ih (bs ++ [d]) (by rw [List.length_append]; simp only [List.length_cons, List.length_nil] at hl2 ⊢; omega) (fun x hx => hd x (List.mem_cons_of_mem _ hx)) (by rw [List.append_assoc]; exact e) fun x hx => by
        rcases List.mem_append.mp hx with hx | hx
        · exact hb x hx
        · rw [List.mem_singleton.mp hx]
          exact gd
      rw [List.map_append] at this
      exact this
  exact key ds [] (by rw [List.length_nil, Nat.zero_add]; exact hl) (fun d hd => hd) rfl fun d hd => by cases hd
abbrev s_joined_table : Stmt := topS 20
theorem sc_joined_table : FnScope ["clock", "low", "count", "rows", "floor", "row", "door", "start"] ["clock", "low", "count"] (defScope s_joined_table) := ⟨rfl, rfl, rfl, by decide +kernel, rfl, by decide +kernel, by decide +kernel⟩
abbrev s_join : Stmt := topS 21
theorem sc_join : FnScope ["clock", "count", "first", "period", "tables", "floor"] ["clock", "count"] (defScope s_join) := ⟨rfl, rfl, rfl, by decide +kernel, rfl, by decide +kernel, by decide +kernel⟩
/-! ### joined clocks, by the program -/
def xnCountJ (cls : Addr) (n : Int) : Xn := ⟨cls, [("word", .str "invalidcount"), ("count", .int n)]⟩
def spJoinT (cm : Addr) : DSp := fun ds S Q Xd => ∃ (h c : List Tab) (low n : Nat), ds = [clkD h c, .int low, .int n] ∧ ClkF h c ∧ low ≤ 100000 ∧ 1 ≤ n ∧ n ≤ 4 ∧ (wideT h c low n → Xd (xnLimit cm 64) S) ∧ (¬ wideT h c low n → Q (tabD (joinT h c low (n - 1))) S)
def spJoin (cc cm : Addr) : DSp := fun ds S Q Xd => ∃ (h c : List Tab) (z : Int), ds = [clkD h c, .int z] ∧ ClkF h c ∧ (¬ (1 ≤ z ∧ z ≤ 4) → Xd (xnCountJ cc z) S) ∧ ∀ n : Nat, z = n → 1 ≤ n → n ≤ 4 → (wideC h c n → Xd (xnLimit cm 64) S) ∧ (¬ wideC h c n → Q (clkD (joinH h c n) (joinC h c n)) S)
def joinRowD (ts : List D) : D → D
  | .tup ds => .tup (ds.map fun d => rowsOf (ts.getD (intOf d).toNat .non)).flatten
  | _ => .non
theorem joinRow_eq {t : Tab} {r : List Int} : joinRowD (t.map rowT) (rowT r) = rowT (r.map fun d => t.getD d.toNat []).flatten := by
  unfold rowT
  show D.tup ((r.map D.int).map fun d => rowsOf ((t.map fun r => D.tup (r.map D.int)).getD (intOf d).toNat .non)).flatten = _
  rw [List.map_flatten, List.map_map, List.map_map]
  refine congrArg (fun l => D.tup (List.flatten l)) (List.map_congr_left fun d _ => ?_)
  show rowsOf ((t.map fun r => D.tup (r.map D.int)).getD (intOf (D.int d)).toNat .non) = _
  rw [List.getD_eq_getElem?_getD, List.getElem?_map, show intOf (D.int d) = d from rfl]
  show _ = (t.getD d.toNat []).map D.int
  rw [List.getD_eq_getElem?_getD]
  cases t[d.toNat]? <;> rfl
theorem lc2J_all {g1 : WG} {te : RL.WE} {E : EV} {all : List D} {Z : Addr} {K : List D → Sto → Prop} {S : Sto} : ∀ {ds acc : List D}, (∀ y ∈ ds, ∀ (S1 : Sto) (K1 : KD), K1 y S1 → g1 y E S1 fun E2 S2 => te E2 S2 K1) → acc.length + ds.length ≤ sizeLine → K (acc ++ ds) (S.put Z (.lst (acc ++ ds))) → wLc2J g1 wYes te E none all Z K ds acc (S.put Z (.lst acc))
  | [], acc, _, _, h => ⟨trivial, by rw [List.append_nil] at h; exact h⟩
  | d :: ds, acc, hs, hl, h => by
    rw [List.length_cons] at hl
    refine ⟨trivial, hs d List.mem_cons_self _ _ ⟨Sto.put_same, by omega, ?_⟩⟩
    rw [Sto.put_put]
    refine lc2J_all (fun y hy => hs y (List.mem_cons_of_mem _ hy)) (by rw [List.length_append]; simp only [List.length_cons, List.length_nil]; omega) ?_
    rw [List.append_assoc]
    exact h
/-- [x for d in ds for x in f d], nothing else touched -/
theorem lc2_flat {g : WG} {wi1 : WI} {g1 : WG} {te : RL.WE} {vs1 : List Nat} {E : EV} {all : List D} {Q : KD} {S : Sto} (f : D → List D) {ds : List D} (hl : (ds.map f).flatten.length ≤ sizeLine)
    (hs : ∀ d ∈ ds, ∀ (S1 : Sto) (M : EV → List D → Option Addr → Sto → Prop), (∀ E2 : EV, E2.length = E.length → M E2 (f d) none S1) → g d E S1 fun E2 S2 => wi1 E2 S2 (M E2))
    (h1 : ∀ d ∈ ds, ∀ y ∈ f d, ∀ (E2 : EV) (S1 : Sto) (K1 : KD), E2.length = E.length → K1 y S1 → g1 y E2 S1 fun E3 S2 => te E3 S2 K1) (h : Q (.lst (ds.map f).flatten) S) :
    ∀ Z, S Z = none → wLc2L g wYes wi1 g1 wYes te vs1 E none all Z (fun S2 => asF Z S2 Q) ds [] (S.put Z (.lst [])) := fun Z hZ => by
  have key : ∀ (es acc : List D), acc.length + (es.map f).flatten.length ≤ sizeLine → (∀ d ∈ es, d ∈ ds) → acc ++ (es.map f).flatten = (ds.map f).flatten → wLc2L g wYes wi1 g1 wYes te vs1 E none all Z (fun S2 => asF Z S2 Q) es acc (S.put Z (.lst acc)) := by
    intro es
    induction es with
    | nil =>
      intro acc _ _ e
      refine ⟨trivial, Sto.put_same, fun a ha => ?_⟩
      rw [Sto.put_same] at ha
      cases ha
      rw [List.map_nil, List.flatten_nil, List.append_nil] at e
      rw [Sto.del_put hZ, e]
      exact h
    | cons d es ih =>
      intro acc hl2 hd e
      rw [List.map_cons, List.flatten_cons] at e hl2
      rw [List.length_append] at hl2
      refine ⟨trivial, ?_⟩
      have := hs d (hd d List.mem_cons_self) (S.put Z (.lst acc)) (fun E2 ds1 src1 S4 => wLc2J g1 wYes te (wipeD E2 vs1) src1 ds1 Z (fun acc' S' => wLc2L g wYes wi1 g1 wYes te vs1 E none all Z (fun S2 => asF Z S2 Q) es acc' S') ds1 acc S4) fun E2 he2 => ?_
      · exact this
      · refine lc2J_all (fun y hy S1 K1 hK => h1 d (hd d List.mem_cons_self) y hy _ S1 K1 (by rw [wipeD_length, he2]) hK) (by omega) ?_
        exact ih (acc ++ f d) (by rw [List.length_append]; omega) (fun x hx => hd x (List.mem_cons_of_mem _ hx)) (by rw [List.append_assoc]; exact e)
  exact key ds [] (by rw [List.length_nil, Nat.zero_add]; exact hl) (fun d hd => hd) rfl
section
variable {P : Program} {w : World} {K : PySem.W.Frag} {mg : Str → Option Value} {base : Heap} {C : Cf} {cc cm : Addr}
theorem ok_joinedtable {f : Addr} {fd : FuncData} (F : Fun K "joined_table" "joined_table" s_joined_table f fd) (T : Txt mg) (X_LimitExceeded : Xc1 P w K mg base "LimitExceeded" "limit" "limitexceeded" cm) (M_table : DfM P w K mg base C "table" 4 ["self", "floor"] spTabG) : DOk P w K mg base C 5 f fd ["clock", "low", "count"] (spJoinT cm) := by
  refine dok_of F sc_joined_table (fun ds S Q Xd h => ?_) (fun cdv A outer s B Ex ds S Q Xd hr dx h => ?_)
  · obtain ⟨h, c, low, n, rfl, _⟩ := h
    rfl
  · have sc := sc_joined_table
    refine ⟨_, (dss_cons (ds_set 3 sc.nd (de_meth M_table (hr.mono (by omega)) dx (de_var 0) (da_cons (de_var 1) da_nil))) (dss_cons (ds_for (passes_of rfl) rfl (di_range2 T.b_range (da_cons (de_bin od_add (de_var 1) de_int) (da_cons (de_bin od_add (de_var 1) (de_var 2)) da_nil))) (dg_name 4 sc.nd) (dss_cons (ds_set 3 sc.nd (de_lc true [("row", 5)] rfl sc.nd (blkOk_by (N := ["clock", "low", "count", "rows", "floor", "row", "door", "start"]) (sc := defScope s_joined_table) (by decide +kernel)) (di_seq (de_meth M_table (hr.mono (by omega)) dx (de_var 0) (da_cons (de_var 4) da_nil))) (fun _ _ _ _ _ _ => (dg_name 5 sc.nd)) (fun _ _ _ _ _ _ => dts_nil) (fun _ _ _ _ _ _ => (de_callTy cd_tuple T.b_tuple (by decide +kernel) (da_cons (de_lc2 true [("door", 6), ("start", 7)] [7] rfl sc.nd (blkOk_by (by kernel_rfl)) (di_seq (de_var 5)) (fun _ _ _ _ _ _ => (dg_name 6 sc.nd)) (fun _ _ _ _ _ _ => dts_nil) (fun _ _ _ _ _ _ => (di_seq (de_ix (de_var 3) (de_var 6)))) (fun _ _ _ _ _ _ => (dg_name 7 sc.nd)) (fun _ _ _ _ _ _ => dts_nil) (fun _ _ _ _ _ _ => (de_var 7))) da_nil))))) (dss_one (ds_if (dt_cmp od_gt (de_callB (cd_maxL rfl) T.b_max (by decide +kernel) (da_cons (de_lc true [("row", 5)] rfl sc.nd (blkOk_by (N := ["clock", "low", "count", "rows", "floor", "row", "door", "start"]) (sc := defScope s_joined_table) (by decide +kernel)) (di_seq (de_var 3)) (fun _ _ _ _ _ _ => (dg_name 5 sc.nd)) (fun _ _ _ _ _ _ => dts_nil) (fun _ _ _ _ _ _ => (de_callB cd_len T.b_len (by decide +kernel) (da_cons (de_var 5) da_nil)))) da_nil)) (de_gint T.c_MAX_DOORS)) (dss_one (ds_raise1 X_LimitExceeded (hr.mono (by omega)) rfl dx (de_gint T.c_MAX_DOORS))) dss_nil)))) (dss_one (ds_ret (de_callTy cd_tuple T.b_tuple (by decide +kernel) (da_cons (de_var 3) da_nil)))))), ?_⟩
    obtain ⟨h, c, low, n, rfl, g, hl, n1, n4, xl, q⟩ := h
    refine seqG ?_
    walk_at "step"
    refine ⟨rfl, h, c, low, rfl, g.c0, ?_⟩
    refine seqC (fun E S5 => S5 = S ∧ ¬ wideT h c low n ∧ ∃ d x4 x5 x6 x7, E = [some (clkD h c), some (.int (low : Int)), some (.int (n : Int)), some d, x4, x5, x6, x7] ∧ (d = .tup ((joinT h c low (n - 1)).map rowT) ∨ d = .lst ((joinT h c low (n - 1)).map rowT))) (fun nx2 hn2 => ?_) (fun E S5 hR => ?_)
    rotate_left
    · obtain ⟨rfl, nw, d, x4, x5, x6, x7, rfl, hd⟩ := hR
      walk_at "step"
      rcases hd with rfl | rfl
      · exact .now (q nw)
      · exact .now (q nw)
    walk_at "step"
    rw [show ((low : Int) + n - (low + 1)).toNat = n - 1 by omega]
    refine ⟨⟨by omega, by omega, by omega, by omega⟩, forL_range (fun i E S1 => S1 = S ∧ ∃ (k : Nat) (d : D) (x4 x5 x6 x7 : Option D), i = low + 1 + k ∧ E = [some (clkD h c), some (.int (low : Int)), some (.int (n : Int)), some d, x4, x5, x6, x7] ∧ (d = .tup ((joinT h c low k).map rowT) ∨ d = .lst ((joinT h c low k).map rowT)) ∧ ∀ j, 1 ≤ j → j ≤ k → ∀ row ∈ joinT h c low j, row.length ≤ 64) _ _ (fun i E S1 i1 i2 hP nx hn => ?_) (fun E S1 hP => ?_) _ _ ⟨rfl, 0, _, _, _, _, _, by omega, rfl, .inl rfl, fun j j1 j0 => by omega⟩⟩
    rotate_left
    · obtain ⟨rfl, k, d, x4, x5, x6, x7, ek, rfl, hd, hk⟩ := hP
      obtain rfl : k = n - 1 := by omega
      exact hn2 _ _ ⟨rfl, fun ⟨j, j1, jn, row, hr, h6⟩ => by have := hk j j1 (by omega) row hr; omega, d, x4, x5, x6, x7, rfl, hd⟩
    obtain ⟨rfl, k, d, x4, x5, x6, x7, rfl, rfl, hd, hk⟩ := hP
    have tf := g.tab (low + (k + 1))
    have jf := joinT_fit g k hk
    have jl := joinT_len (h := h) (c := c) (low := low) k
    refine seqG ?_
    walk_at "step"
    refine ⟨rfl, h, c, low + (k + 1), by rw [show ((low : Int) + 1 + k) = ((low + (k + 1) : Nat) : Int) by omega], g.c0, ?_⟩
    have t8 := tf.1.2
    unfold tabD
    walk_at "step"
    intro _
    refine lc_map (joinRowD ((joinT h c low k).map rowT)) (by rw [List.length_map, PySem.sizeLine_eq]; omega) (fun e he S1 K1 hK => ?_) ?_
    · obtain ⟨r, hr, rfl⟩ := List.mem_map.mp he
      rw [joinRow_eq] at hK
      have rf := tf.2.1 r hr
      have r64 := rf.2.1
      have at_ : ∀ x ∈ r, ∃ l, (joinT h c low k)[x.toNat]? = some l ∧ 0 ≤ x ∧ l.length ≤ 64 := fun x hx => by
        have := rf.2.2 x hx
        rw [show low + (k + 1) = low + k + 1 by omega, ← jl] at this
        have hx' : x.toNat < (joinT h c low k).length := by omega
        exact ⟨_, List.getElem?_eq_getElem hx', by omega, (jf.2.1 _ (List.getElem_mem hx')).2.1⟩
      have ef : ((r.map D.int).map fun d => rowsOf (((joinT h c low k).map rowT).getD (intOf d).toNat .non)).flatten = (r.map fun d => (joinT h c low k).getD d.toNat []).flatten.map D.int := by
        have := joinRow_eq (t := joinT h c low k) (r := r)
        unfold rowT at this ⊢
        injection this
      walk_at "wall"
      unfold rowT
      walk_at "step"
      intro _
      refine lc2_flat (fun d => rowsOf (((joinT h c low k).map rowT).getD (intOf d).toNat .non)) ?_ (fun y hy S2 M hM => ?_) (fun y hy z hz E2 S2 K2 hE hK2 => ?_) ?_
      · rw [ef, List.length_map]
        have := flat_le (k := 64) (t := r.map fun d => (joinT h c low k).getD d.toNat []) fun l hl => by
          obtain ⟨x, hx, rfl⟩ := List.mem_map.mp hl
          obtain ⟨l, e1, _, e2⟩ := at_ x hx
          rw [List.getD_eq_getElem?_getD, e1]
          exact e2
        rw [List.length_map] at this
        rw [PySem.sizeLine_eq]
        omega
      · obtain ⟨x, hx, rfl⟩ := List.mem_map.mp hy
        obtain ⟨l, e1, x0, e2⟩ := at_ x hx
        have eD : ((joinT h c low k).map rowT).getD (intOf (D.int x)).toNat .non = rowT l := by
          rw [List.getD_eq_getElem?_getD, List.getElem?_map, show intOf (D.int x) = x from rfl, e1]
          rfl
        rw [eD] at hM
        have e3 : atI ((joinT h c low k).map rowT) x = some (rowT l) := by
          rw [show x = ((x.toNat : Nat) : Int) by omega]
          exact atI_nat (by rw [List.getElem?_map, e1]; rfl)
        walk_at "wall"
        rcases hd with rfl | rfl
        · walk_at "step"
          refine ⟨_, e3, ?_⟩
          unfold rowT
          walk_at "step"
          exact fun _ => hM _ rfl
        · walk_at "step"
          refine ⟨_, e3, ?_⟩
          unfold rowT
          walk_at "step"
          exact fun _ => hM _ rfl
      · simp only [gSet, wVar]
        rw [List.getElem?_set_self (by rw [hE]; simp [wipeD])]
        exact hK2
      · rw [ef]
        walk_at "step"
        exact hK
    have eJ : ((tabN h c (low + (k + 1))).map rowT).map (joinRowD ((joinT h c low k).map rowT)) = (joinT h c low (k + 1)).map rowT := by
      rw [joinT, List.map_map, List.map_map]
      exact List.map_congr_left fun r _ => joinRow_eq
    rw [eJ]
    have jl2 := joinT_len (h := h) (c := c) (low := low) (k + 1)
    have r8 := g.rooms (low + (k + 1) + 1)
    walk_at "step"
    intro _
    refine lc_map (fun d => .int ((rowsOf d).length : Nat)) (by rw [List.length_map, PySem.sizeLine_eq]; omega) (fun e he S1 K1 hK => ?_) ?_
    · obtain ⟨r, hr, rfl⟩ := List.mem_map.mp he
      have hK : K1 (.int ((r.map D.int).length : Nat)) S1 := hK
      walk_at "wall"
      unfold rowT
      walk_at "step"
      exact fun _ => hK
    walk_at "step"
    refine ⟨(joinT h c low (k + 1)).map fun r => ((r.length : Nat) : Int), ?_, by rw [List.length_map]; omega, fun m hm hy => ?_⟩
    · rw [List.map_map, List.map_map]
      refine List.map_congr_left fun r _ => ?_
      show D.int (((r.map D.int).length : Nat) : Int) = D.int _
      rw [List.length_map]
    by_cases m64 : 64 < m
    · rw [decide_eq_true (by omega)]
      walk_at "step"
      obtain ⟨r, hr, rfl⟩ := List.mem_map.mp hm
      exact ⟨_, Sto.Le.refl _, xl ⟨k + 1, by omega, by omega, r, hr, by omega⟩⟩
    · rw [decide_eq_false (by omega)]
      walk_at "step"
      refine hn _ _ ⟨rfl, k + 1, _, _, _, _, _, by omega, rfl, .inr rfl, fun j j1 jk row hr => ?_⟩
      by_cases z : j = k + 1
      · subst z
        have := hy _ (List.mem_map.mpr ⟨row, hr, rfl⟩)
        omega
      · exact hk j j1 (by omega) row hr
theorem ok_join {f : Addr} {fd : FuncData} (F : Fun K "join" "join" s_join f fd) (T : Txt mg) (KC : CkC K C) (X_InvalidCount : Xc1 P w K mg base "InvalidCount" "count" "invalidcount" cc) (K_Clock : DfK P w K mg base C "Clock" 4 ["self", "head", "cycle"] spInit) (G_common_multiple : Df P w K mg base C "common_multiple" 1 ["one", "other"] spLcm) (G_joined_table : Df P w K mg base C "joined_table" 5 ["clock", "low", "count"] (spJoinT cm)) : DOk P w K mg base C 6 f fd ["clock", "count"] (spJoin cc cm) := by
  refine dok_of F sc_join (fun ds S Q Xd h => ?_) (fun cdv A outer s B Ex ds S Q Xd hr dx h => ?_)
  · obtain ⟨h, c, z, rfl, _⟩ := h
    rfl
  · have sc := sc_join
    refine ⟨_, (dss_cons (ds_if (dt_not (dt_chain od_le od_le de_int (de_var 1) (de_gint T.c_MOST_JOINED))) (dss_one (ds_raise1 X_InvalidCount (hr.mono (by omega)) rfl dx (de_var 1))) dss_nil) (dss_cons (ds_set 2 sc.nd (de_bin od_fdiv (de_bin od_sub (de_bin od_add (de_callB cd_len T.b_len (by decide +kernel) (da_cons (de_head KC (de_var 0)) da_nil)) (de_var 1)) de_int) (de_var 1))) (dss_cons (ds_set 3 sc.nd (de_bin od_fdiv (de_callD G_common_multiple (hr.mono (by omega)) dx (da_cons (de_callB cd_len T.b_len (by decide +kernel) (da_cons (de_cycle KC (de_var 0)) da_nil)) (da_cons (de_var 1) da_nil))) (de_var 1))) (dss_cons (ds_setLcX 4 [("floor", 5)] dx rfl sc.nd (blkOk_by (N := ["clock", "count", "first", "period", "tables", "floor"]) (sc := defScope s_join) (by decide +kernel)) (di_range1 T.b_range (da_cons (de_bin od_add (de_var 2) (de_var 3)) da_nil)) (fun _ _ _ _ _ _ _ => (dg_name 5 sc.nd)) (fun _ _ _ _ _ _ _ dy => (de_callY G_joined_table (hr.mono (by omega)) dy (da_cons (de_var 0) (da_cons (de_bin od_mul (de_var 5) (de_var 1)) (da_cons (de_var 1) da_nil))))) (sw_true rfl rfl rfl (by decide +kernel))) (dss_one (ds_ret (de_make K_Clock (hr.mono (by omega)) dx (da_cons (de_slice (de_var 4) do_none (do_some (de_var 2))) (da_cons (de_slice (de_var 4) (do_some (de_var 2)) do_none) da_nil))))))))), ?_⟩
    obtain ⟨h, c, z, rfl, g, xc, q⟩ := h
    have le := g.le
    have c1 := g.c1
    walk_at "go"
    by_cases z1 : ¬ 1 ≤ z
    · rw [decide_eq_false z1]
      walk_at "go"
      exact ⟨S, Sto.Le.refl S, xc fun e => z1 e.1⟩
    have z1 : 1 ≤ z := Decidable.not_not.mp z1
    rw [decide_eq_true z1]
    walk_at "go"
    by_cases z4 : ¬ z ≤ 4
    · rw [decide_eq_false z4]
      walk_at "go"
      exact ⟨S, Sto.Le.refl S, xc fun e => z4 e.2⟩
    have z4 : z ≤ 4 := Decidable.not_not.mp z4
    rw [decide_eq_true z4]
    obtain ⟨n, rfl⟩ : ∃ n : Nat, z = n := ⟨z.toNat, by omega⟩
    obtain ⟨xw, q⟩ := q n rfl (by omega) (by omega)
    have n1 : 1 ≤ n := by omega
    have n4 : n ≤ 4 := by omega
    have dF : ((h.length : Int) + n - 1) / (n : Int) = ((jF h n : Nat) : Int) := by
      unfold jF
      rw [Int.natCast_ediv]
      congr 1
      omega
    have dP : ((Nat.lcm c.length n : Nat) : Int) / (n : Int) = ((jP c n : Nat) : Int) := by
      unfold jP
      rw [Int.natCast_ediv]
    have lF := jF_le (h := h) n1
    have lP := jP_le (c := c) c1 n1
    have pP := jP_pos (c := c) c1 n1
    have lL : Nat.lcm c.length n ≤ 60 * 4 := Nat.le_trans (Nat.div_le_self _ _) (Nat.mul_le_mul (by omega) n4)
    walk_at "go"
    refine ⟨_, rfl, ?_⟩
    walk_at "go"
    intro _
    rw [List.length_map, dF]
    refine ⟨wide_div (b := 200) (by omega) (by omega) (by decide) (by decide), ?_⟩
    refine ⟨_, rfl, ?_⟩
    walk_at "go"
    intro _
    rw [List.length_map]
    refine ⟨c.length, n, rfl, c1, n1, by omega, by omega, ?_⟩
    walk_at "go"
    rw [dP]
    refine ⟨wide_div (b := 200) (by omega) (by omega) (by decide) (by decide), ⟨by omega, by omega⟩, ?_⟩
    rw [show (((jF h n : Nat) : Int) + ((jP c n : Nat) : Int)).toNat = jF h n + jP c n by omega]
    refine lc_mapE (fun d => ¬ wideT h c ((intOf d).toNat * n) n) (fun d => tabD (joinT h c ((intOf d).toNat * n) (n - 1))) (by rw [rngD_length, PySem.sizeLine_eq]; omega) (fun d hd S1 K1 le1 hK => ?_) fun good => ?_
    · obtain ⟨i, hi⟩ := List.getElem?_of_mem hd
      obtain ⟨hi2, rfl⟩ := rngD_get hi
      have e0 : (intOf (.int ((0 : Int) + (i : Int)))).toNat = i := by
        show ((0 : Int) + (i : Int)).toNat = i
        omega
      rw [e0] at hK
      walk_at "wall"
      refine ⟨mul_small (by omega) (by omega), ?_⟩
      have i4 : i * n ≤ 120 * 4 := Nat.mul_le_mul (by omega) n4
      refine ⟨h, c, i * n, n, by rw [Int.zero_add, Int.natCast_mul], g, by omega, n1, n4, fun wd => ?_, fun nw => hK nw⟩
      obtain ⟨S0, l0, x0⟩ : UpX Xd (xnLimit cm 64) S := ⟨S, Sto.Le.refl S, xw ⟨i, hi2, wd⟩⟩
      exact ⟨S0, l0.trans le1, x0⟩
    have nw : ¬ wideC h c n := fun ⟨i, hi, wd⟩ => by
      have := good (.int ((0 : Int) + (i : Int))) (by unfold rngD; exact List.mem_map.mpr ⟨i, List.mem_range.mpr hi, rfl⟩)
      rw [show (intOf (.int ((0 : Int) + (i : Int)))).toNat = i by show ((0 : Int) + (i : Int)).toNat = i; omega] at this
      exact this wd
    have q := q nw
    have pf := join_plan g n1 nw
    have eT : (rngD 0 (jF h n + jP c n)).map (fun d => tabD (joinT h c ((intOf d).toNat * n) (n - 1))) = (joinH h c n ++ joinC h c n).map tabD := by
      unfold rngD joinH joinC
      rw [List.map_append, List.map_map, List.map_map, List.map_map, List.range_add, List.map_append, List.map_map]
      congr 1
      · refine List.map_congr_left fun i _ => ?_
        show tabD (joinT h c (((0 : Int) + (i : Int)).toNat * n) (n - 1)) = _
        rw [show ((0 : Int) + (i : Int)).toNat = i by omega]
        rfl
      · refine List.map_congr_left fun i _ => ?_
        show tabD (joinT h c (((0 : Int) + ((jF h n + i : Nat) : Int)).toNat * n) (n - 1)) = _
        rw [show ((0 : Int) + ((jF h n + i : Nat) : Int)).toNat = jF h n + i by omega]
        rfl
    rw [eT]
    have lH : (joinH h c n).length = jF h n := by unfold joinH; rw [List.length_map, List.length_range]
    walk_at "go"
    rw [cutD_to, cutD_from, ← List.map_take, ← List.map_drop, List.take_left' lH, List.drop_left' lH]
    intro a ha
    refine ⟨a, _, _, joinH h c n, joinC h c n, rfl, Sto.put_same, .inr (.inl rfl), .inr (.inl rfl), pf.c0, pf.le, pf.small, pf.valid, ?_⟩
    refine ⟨rfl, _, _, Sto.put_same, ?_⟩
    rw [Sto.put_put, Sto.del_put ha]
    exact .now q
end
abbrev s__law_joined_table : Stmt := topS 34
theorem sc__law_joined_table : FnScope ["_law_plan_here", "_law_floor", "_law_times", "_law_rows", "_law_at", "_law_fresh", "_law_row", "_law_whole", "_law_door"] ["_law_plan_here", "_law_floor", "_law_times"] (defScope s__law_joined_table) := ⟨rfl, rfl, rfl, by decide +kernel, rfl, by decide +kernel, by decide +kernel⟩
abbrev s__law_joined : Stmt := topS 35
theorem sc__law_joined : FnScope ["_law_plan_here", "_law_times", "_law_first", "_law_size", "_law_tables", "_law_at"] ["_law_plan_here", "_law_times"] (defScope s__law_joined) := ⟨rfl, rfl, rfl, by decide +kernel, rfl, by decide +kernel, by decide +kernel⟩
/-! ### joined clocks, by the law -/
def spJoinTL : DSp := fun ds S Q _ => ∃ (h c : List Tab) (low n : Nat), ds = [planD h c, .int low, .int n] ∧ ClkF h c ∧ low ≤ 100000 ∧ 1 ≤ n ∧ n ≤ 4 ∧ (wideT h c low n → Q .non S) ∧ (¬ wideT h c low n → Q (tabD (joinT h c low (n - 1))) S)
def spJoinL : DSp := fun ds S Q _ => ∃ (h c : List Tab) (n : Nat), ds = [planD h c, .int n] ∧ ClkF h c ∧ 1 ≤ n ∧ n ≤ 4 ∧ (wideC h c n → Q .non S) ∧ (¬ wideC h c n → Q (planD (joinH h c n) (joinC h c n)) S)
def rowJL (r : List Int) : D := .lst (r.map D.int)
def jRow (T : Tab) (r : List Int) : List Int := (r.map fun d => T.getD d.toNat []).flatten
theorem jRow_snoc {T : Tab} {r : List Int} {x : Int} : jRow T (r ++ [x]) = jRow T r ++ T.getD x.toNat [] := by
  unfold jRow
  rw [List.map_append, List.flatten_append]
  simp
section
variable {P : Program} {w : World} {K : PySem.W.Frag} {mg : Str → Option Value} {base : Heap} {C : Cf}
theorem ok_joinTL {f : Addr} {fd : FuncData} (F : Fun K "_law_joined_table" "_law_joined_table" s__law_joined_table f fd) (T : Txt mg) (G__law_table_at : Df P w K mg base C "_law_table_at" 1 ["_law_plan_here", "_law_floor"] spTabL) : DOk P w K mg base C 2 f fd ["_law_plan_here", "_law_floor", "_law_times"] spJoinTL := by
  refine dok_of F sc__law_joined_table (fun ds S Q Xd h => ?_) (fun cdv A outer s B Ex ds S Q Xd hr dx h => ?_)
  · obtain ⟨h, c, low, n, rfl, _⟩ := h
    rfl
  · have sc := sc__law_joined_table
    refine ⟨_, (dss_cons (ds_setLc 3 true [("_law_row", 6)] rfl sc.nd (blkOk_by (N := ["_law_plan_here", "_law_floor", "_law_times", "_law_rows", "_law_at", "_law_fresh", "_law_row", "_law_whole", "_law_door"]) (sc := defScope s__law_joined_table) (by decide +kernel)) (di_seq (de_callD G__law_table_at (hr.mono (by omega)) dx (da_cons (de_var 0) (da_cons (de_var 1) da_nil)))) (fun _ _ _ _ _ _ => (dg_name 6 sc.nd)) (fun _ _ _ _ _ _ => dts_nil) (fun _ _ _ _ _ _ => (de_callTy cd_list T.b_list (by decide +kernel) (da_cons (de_var 6) da_nil))) (sw_true rfl rfl rfl (by decide +kernel))) (dss_cons (ds_for (passes_of rfl) rfl (di_range2 T.b_range (da_cons (de_bin od_add (de_var 1) de_int) (da_cons (de_bin od_add (de_var 1) (de_var 2)) da_nil))) (dg_name 4 sc.nd) (dss_cons (ds_set 5 sc.nd (de_lstL da_nil)) (dss_cons (ds_for (passes_of rfl) rfl (di_seq (de_callD G__law_table_at (hr.mono (by omega)) dx (da_cons (de_var 0) (da_cons (de_var 4) da_nil)))) (dg_name 6 sc.nd) (dss_cons (ds_set 7 sc.nd (de_lst da_nil)) (dss_cons (ds_for (passes_of rfl) rfl (di_seq (de_var 6)) (dg_name 8 sc.nd) (dss_one (ds_set 7 sc.nd (de_bin od_add (de_var 7) (de_ix (de_var 3) (de_var 8)))))) (dss_one (ds_expr (de_append (de_var 5) (de_var 7))))))) (dss_lock 5 (dss_cons (ds_set 3 sc.nd (de_var 5)) (dss_one (ds_if (dt_cmp od_gt (de_callB (cd_maxL rfl) T.b_max (by decide +kernel) (da_cons (de_lc true [("_law_row", 6)] rfl sc.nd (blkOk_by (N := ["_law_plan_here", "_law_floor", "_law_times", "_law_rows", "_law_at", "_law_fresh", "_law_row", "_law_whole", "_law_door"]) (sc := defScope s__law_joined_table) (by decide +kernel)) (di_seq (de_var 3)) (fun _ _ _ _ _ _ => (dg_name 6 sc.nd)) (fun _ _ _ _ _ _ => dts_nil) (fun _ _ _ _ _ _ => (de_callB cd_len T.b_len (by decide +kernel) (da_cons (de_var 6) da_nil)))) da_nil)) de_int) (dss_one (ds_ret de_non)) dss_nil))))))) (dss_one (ds_ret (de_callTy cd_tuple T.b_tuple (by decide +kernel) (da_cons (de_lc true [("_law_row", 6)] rfl sc.nd (blkOk_by (N := ["_law_plan_here", "_law_floor", "_law_times", "_law_rows", "_law_at", "_law_fresh", "_law_row", "_law_whole", "_law_door"]) (sc := defScope s__law_joined_table) (by decide +kernel)) (di_seq (de_var 3)) (fun _ _ _ _ _ _ => (dg_name 6 sc.nd)) (fun _ _ _ _ _ _ => dts_nil) (fun _ _ _ _ _ _ => (de_callTy cd_tuple T.b_tuple (by decide +kernel) (da_cons (de_var 6) da_nil)))) da_nil)))))), ?_⟩
    obtain ⟨h, c, low, n, rfl, g, hl, n1, n4, xw, q⟩ := h
    refine seqG ?_
    walk_at "step"
    refine ⟨h, c, low, rfl, g.c0, ?_⟩
    have t8 := (g.tab low).1.2
    unfold tabD
    walk_at "step"
    intro _
    refine lc_map (fun d => .lst (rowsOf d)) (by rw [List.length_map, PySem.sizeLine_eq]; omega) (fun e he S1 K1 hK => ?_) ?_
    · obtain ⟨r, hr, rfl⟩ := List.mem_map.mp he
      have hK : K1 (.lst (r.map D.int)) S1 := hK
      walk_at "wall"
      unfold rowT
      walk_at "step"
      exact hK
    have e0 : ((tabN h c low).map rowT).map (fun d => D.lst (rowsOf d)) = (joinT h c low 0).map rowJL := by
      rw [List.map_map]
      rfl
    rw [e0]
    refine seqC (fun E S5 => S5 = S ∧ ¬ wideT h c low n ∧ ∃ x4 x5 x6 x7 x8, E = [some (planD h c), some (.int (low : Int)), some (.int (n : Int)), some (.lst ((joinT h c low (n - 1)).map rowJL)), x4, x5, x6, x7, x8]) (fun nx2 hn2 => ?_) (fun E S5 hR => ?_)
    rotate_left
    · obtain ⟨rfl, nw, x4, x5, x6, x7, x8, rfl⟩ := hR
      have jl := joinT_len (h := h) (c := c) (low := low) (n - 1)
      have r8 := g.rooms (low + (n - 1) + 1)
      walk_at "step"
      intro _
      refine lc_map (fun d => match d with | .lst ds => .tup ds | d => d) (by rw [List.length_map, PySem.sizeLine_eq]; omega) (fun e he S1 K1 hK => ?_) ?_
      · obtain ⟨r, hr, rfl⟩ := List.mem_map.mp he
        have hK : K1 (.tup (r.map D.int)) S1 := hK
        walk_at "wall"
        unfold rowJL
        walk_at "step"
        exact hK
      have e1 : ((joinT h c low (n - 1)).map rowJL).map (fun d => match d with | .lst ds => D.tup ds | d => d) = (joinT h c low (n - 1)).map rowT := by
        rw [List.map_map]
        rfl
      rw [e1]
      walk_at "step"
      exact .now (q nw)
    walk_at "step"
    rw [show ((low : Int) + n - (low + 1)).toNat = n - 1 by omega]
    refine ⟨⟨by omega, by omega, by omega, by omega⟩, forL_range (fun i E S1 => S1 = S ∧ ∃ (k : Nat) (x4 x5 x6 x7 x8 : Option D), i = low + 1 + k ∧ E = [some (planD h c), some (.int (low : Int)), some (.int (n : Int)), some (.lst ((joinT h c low k).map rowJL)), x4, x5, x6, x7, x8] ∧ ∀ j, 1 ≤ j → j ≤ k → ∀ row ∈ joinT h c low j, row.length ≤ 64) _ _ (fun i E S1 i1 i2 hP nx hn => ?_) (fun E S1 hP => ?_) _ _ ⟨rfl, 0, _, _, _, _, _, by omega, rfl, fun j j1 j0 => by omega⟩⟩
    rotate_left
    · obtain ⟨rfl, k, x4, x5, x6, x7, x8, ek, rfl, hk⟩ := hP
      obtain rfl : k = n - 1 := by omega
      exact hn2 _ _ ⟨rfl, fun ⟨j, j1, jn, row, hr, h6⟩ => by have := hk j j1 (by omega) row hr; omega, x4, x5, x6, x7, x8, rfl⟩
    obtain ⟨rfl, k, x4, x5, x6, x7, x8, rfl, rfl, hk⟩ := hP
    have tf := g.tab (low + (k + 1))
    have jf := joinT_fit g k hk
    have jl := joinT_len (h := h) (c := c) (low := low) k
    refine seqG ?_
    walk_at "step"
    intro p hp
    refine seqC (fun E S5 => S5 = S1.put p (.lst ((joinT h c low (k + 1)).map rowJL)) ∧ ∃ x6 x7 x8, E = [some (planD h c), some (.int (low : Int)), some (.int (n : Int)), some (.lst ((joinT h c low k).map rowJL)), some (.int ((low : Int) + 1 + k)), some (.ref p), x6, x7, x8]) (fun nx3 hn3 => ?_) (fun E S5 hR => ?_)
    · walk_at "step"
      refine ⟨h, c, low + (k + 1), by rw [show ((low : Int) + 1 + k) = ((low + (k + 1) : Nat) : Int) by omega], g.c0, ?_⟩
      have t8k := tf.1.2
      unfold tabD
      walk_at "step"
      intro _
      refine forL_rule (fun rest E S5 => ∃ pre suf : Tab, tabN h c (low + (k + 1)) = pre ++ suf ∧ rest = suf.map rowT ∧ S5 = S1.put p (.lst ((pre.map (jRow (joinT h c low k))).map rowJL)) ∧ ∃ x6 x7 x8, E = [some (planD h c), some (.int (low : Int)), some (.int (n : Int)), some (.lst ((joinT h c low k).map rowJL)), some (.int ((low : Int) + 1 + k)), some (.ref p), x6, x7, x8]) (fun d rest E S5 hP => ?_) (fun E S5 hP => ?_) _ _ _ ⟨[], _, rfl, rfl, rfl, _, _, _, rfl⟩
      rotate_left
      · obtain ⟨pre, suf, e1, e2, rfl, x6, x7, x8, rfl⟩ := hP
        obtain rfl : suf = [] := List.map_eq_nil_iff.mp e2.symm
        rw [List.append_nil] at e1
        refine ⟨trivial, hn3 _ _ ⟨?_, x6, x7, x8, rfl⟩⟩
        rw [joinT, e1]
        rfl
      obtain ⟨pre, suf, e1, e2, rfl, x6, x7, x8, rfl⟩ := hP
      refine ⟨trivial, fun nx4 hn4 => ?_⟩
      cases suf with
      | nil => cases e2
      | cons r suf =>
        rw [List.map_cons] at e2
        obtain ⟨rfl, rfl⟩ := List.cons.inj e2
        have rm : r ∈ tabN h c (low + (k + 1)) := by rw [e1]; exact List.mem_append_right _ List.mem_cons_self
        have rf := tf.2.1 r rm
        have r64 := rf.2.1
        have at_ : ∀ x ∈ r, ∃ l, (joinT h c low k)[x.toNat]? = some l ∧ 0 ≤ x ∧ l.length ≤ 64 := fun x hx => by
          have := rf.2.2 x hx
          rw [show low + (k + 1) = low + k + 1 by omega, ← jl] at this
          have hx' : x.toNat < (joinT h c low k).length := by omega
          exact ⟨_, List.getElem?_eq_getElem hx', by omega, (jf.2.1 _ (List.getElem_mem hx')).2.1⟩
        walk_at "step"
        refine seqG ?_
        walk_at "step"
        refine seqC (fun E S6 => S6 = S1.put p (.lst ((pre.map (jRow (joinT h c low k))).map rowJL)) ∧ ∃ x8, E = [some (planD h c), some (.int (low : Int)), some (.int (n : Int)), some (.lst ((joinT h c low k).map rowJL)), some (.int ((low : Int) + 1 + k)), some (.ref p), some (rowT r), some (rowJL (jRow (joinT h c low k) r)), x8]) (fun nx5 hn5 => ?_) (fun E S6 hR => ?_)
        · unfold rowT
          walk_at "step"
          intro _
          refine forL_rule (fun rest E S6 => S6 = S1.put p (.lst ((pre.map (jRow (joinT h c low k))).map rowJL)) ∧ ∃ (us vs : List Int) (x8 : Option D), r = us ++ vs ∧ rest = vs.map D.int ∧ E = [some (planD h c), some (.int (low : Int)), some (.int (n : Int)), some (.lst ((joinT h c low k).map rowJL)), some (.int ((low : Int) + 1 + k)), some (.ref p), some (.tup (r.map D.int)), some (rowJL (jRow (joinT h c low k) us)), x8]) (fun d rest E S6 hP => ?_) (fun E S6 hP => ?_) _ _ _ ⟨rfl, [], r, _, rfl, rfl, rfl⟩
          rotate_left
          · obtain ⟨rfl, us, vs, x8, e3, e4, rfl⟩ := hP
            obtain rfl : vs = [] := List.map_eq_nil_iff.mp e4.symm
            rw [List.append_nil] at e3
            subst e3
            exact ⟨trivial, hn5 _ _ ⟨rfl, x8, rfl⟩⟩
          obtain ⟨rfl, us, vs, x8, e3, e4, rfl⟩ := hP
          refine ⟨trivial, fun nx6 hn6 => ?_⟩
          cases vs with
          | nil => cases e4
          | cons x vs =>
            rw [List.map_cons] at e4
            obtain ⟨rfl, rfl⟩ := List.cons.inj e4
            obtain ⟨l, a1, a2, a3⟩ := at_ x (by rw [e3]; exact List.mem_append_right _ List.mem_cons_self)
            have e5 : atI ((joinT h c low k).map rowJL) x = some (rowJL l) := by
              rw [show x = ((x.toNat : Nat) : Int) by omega]
              exact atI_nat (by rw [List.getElem?_map, a1]; rfl)
            walk_at "step"
            refine ⟨_, e5, ?_⟩
            unfold rowJL
            walk_at "step"
            have lu : us.length ≤ 64 := by
              have := congrArg List.length e3
              rw [List.length_append] at this
              omega
            have lj : (jRow (joinT h c low k) us).length ≤ us.length * 64 := by
              have := flat_le (k := 64) (t := us.map fun d => (joinT h c low k).getD d.toNat []) fun l hl => by
                obtain ⟨y, hy, rfl⟩ := List.mem_map.mp hl
                obtain ⟨l, b1, _, b2⟩ := at_ y (by rw [e3]; exact List.mem_append_left _ hy)
                rw [List.getD_eq_getElem?_getD, b1]
                exact b2
              rw [List.length_map] at this
              exact this
            refine ⟨by rw [List.length_map, List.length_map, PySem.sizeLine_eq]; omega, hn6 _ _ ⟨rfl, us ++ [x], vs, some (.int x), by rw [List.append_assoc]; exact e3, rfl, ?_⟩⟩
            rw [jRow_snoc, show (joinT h c low k).getD x.toNat [] = l by rw [List.getD_eq_getElem?_getD, a1]; rfl, ← List.map_append]
            rfl
        · obtain ⟨rfl, x8, rfl⟩ := hR
          walk_at "step"
          have lp : pre.length ≤ 8 := by
            have := congrArg List.length e1
            rw [List.length_append] at this
            omega
          refine ⟨⟨p, _, rfl, Sto.put_same⟩, _, Sto.put_same, by rw [List.length_map, List.length_map, PySem.sizeLine_eq]; omega, ?_⟩
          rw [Sto.put_put]
          refine hn4 _ _ ⟨pre ++ [r], suf, by rw [List.append_assoc]; exact e1, rfl, ?_, _, _, _, rfl⟩
          rw [List.map_append, List.map_append]
          rfl
    · obtain ⟨rfl, x6, x7, x8, rfl⟩ := hR
      walk_at "step"
      have jl2 := joinT_len (h := h) (c := c) (low := low) (k + 1)
      have r8 := g.rooms (low + (k + 1) + 1)
      refine ⟨_, Sto.put_same, ?_⟩
      rw [Sto.del_put hp]
      refine seqG ?_
      walk_at "step"
      intro _
      refine lc_map (fun d => match d with | .lst ds => .int ((ds.length : Nat) : Int) | d => d) (by rw [List.length_map, PySem.sizeLine_eq]; omega) (fun e he S1 K1 hK => ?_) ?_
      · obtain ⟨r, hr, rfl⟩ := List.mem_map.mp he
        have hK : K1 (.int ((r.map D.int).length : Nat)) S1 := hK
        walk_at "wall"
        unfold rowJL
        walk_at "step"
        exact fun _ => hK
      walk_at "step"
      refine ⟨(joinT h c low (k + 1)).map fun r => ((r.length : Nat) : Int), ?_, by rw [List.length_map]; omega, fun m hm hy => ?_⟩
      · rw [List.map_map, List.map_map]
        refine List.map_congr_left fun r _ => ?_
        show D.int (((r.map D.int).length : Nat) : Int) = D.int _
        rw [List.length_map]
      by_cases m64 : 64 < m
      · rw [decide_eq_true (by omega)]
        walk_at "step"
        obtain ⟨r, hr, rfl⟩ := List.mem_map.mp hm
        exact .now (xw ⟨k + 1, by omega, by omega, r, hr, by omega⟩)
      · rw [decide_eq_false (by omega)]
        walk_at "step"
        refine hn _ _ ⟨rfl, k + 1, _, _, _, _, _, by omega, rfl, fun j j1 jk row hr => ?_⟩
        by_cases z : j = k + 1
        · subst z
          have := hy _ (List.mem_map.mpr ⟨row, hr, rfl⟩)
          omega
        · exact hk j j1 (by omega) row hr
open Classical in
theorem ok_joinL {f : Addr} {fd : FuncData} (F : Fun K "_law_joined" "_law_joined" s__law_joined f fd) (T : Txt mg) (G__law_lcm : Df P w K mg base C "_law_lcm" 1 ["_law_one", "_law_two"] spLcm) (G__law_joined_table : Df P w K mg base C "_law_joined_table" 2 ["_law_plan_here", "_law_floor", "_law_times"] spJoinTL) : DOk P w K mg base C 3 f fd ["_law_plan_here", "_law_times"] spJoinL := by
  refine dok_of F sc__law_joined (fun ds S Q Xd h => ?_) (fun cdv A outer s B Ex ds S Q Xd hr dx h => ?_)
  · obtain ⟨h, c, n, rfl, _⟩ := h
    rfl
  · have sc := sc__law_joined
    refine ⟨_, (dss_cons (ds_set 2 sc.nd (de_bin od_fdiv (de_bin od_sub (de_bin od_add (de_callB cd_len T.b_len (by decide +kernel) (da_cons (de_ix (de_var 0) de_int) da_nil)) (de_var 1)) de_int) (de_var 1))) (dss_cons (ds_set 3 sc.nd (de_bin od_fdiv (de_callD G__law_lcm (hr.mono (by omega)) dx (da_cons (de_callB cd_len T.b_len (by decide +kernel) (da_cons (de_ix (de_var 0) de_int) da_nil)) (da_cons (de_var 1) da_nil))) (de_var 1))) (dss_cons (ds_setLc 4 true [("_law_at", 5)] rfl sc.nd (blkOk_by (N := ["_law_plan_here", "_law_times", "_law_first", "_law_size", "_law_tables", "_law_at"]) (sc := defScope s__law_joined) (by decide +kernel)) (di_range1 T.b_range (da_cons (de_bin od_add (de_var 2) (de_var 3)) da_nil)) (fun _ _ _ _ _ _ => (dg_name 5 sc.nd)) (fun _ _ _ _ _ _ => dts_nil) (fun _ _ _ _ _ _ => (de_callD G__law_joined_table (hr.mono (by omega)) dx0 (da_cons (de_var 0) (da_cons (de_bin od_mul (de_var 5) (de_var 1)) (da_cons (de_var 1) da_nil))))) (sw_true rfl rfl rfl (by decide +kernel))) (dss_one (ds_ret (de_ife (dt_cmp (od_inS hr.units5) de_non (de_var 4)) de_non (de_tup (da_cons (de_slice (de_var 4) do_none (do_some (de_var 2))) (da_cons (de_slice (de_var 4) (do_some (de_var 2)) do_none) da_nil))))))))), ?_⟩
    obtain ⟨h, c, n, rfl, g, n1, n4, xw, q⟩ := h
    have le := g.le
    have c1 := g.c1
    have dF : ((h.length : Int) + n - 1) / (n : Int) = ((jF h n : Nat) : Int) := by
      unfold jF
      rw [Int.natCast_ediv]
      congr 1
      omega
    have dP : ((Nat.lcm c.length n : Nat) : Int) / (n : Int) = ((jP c n : Nat) : Int) := by
      unfold jP
      rw [Int.natCast_ediv]
    have lF := jF_le (h := h) n1
    have lP := jP_le (c := c) c1 n1
    have pP := jP_pos (c := c) c1 n1
    have lL : Nat.lcm c.length n ≤ 60 * 4 := Nat.le_trans (Nat.div_le_self _ _) (Nat.mul_le_mul (by omega) n4)
    unfold planD
    walk_at "go"
    refine ⟨_, rfl, ?_⟩
    walk_at "go"
    intro _
    rw [List.length_map, dF]
    refine ⟨wide_div (b := 200) (by omega) (by omega) (by decide) (by decide), ?_⟩
    refine ⟨_, rfl, ?_⟩
    walk_at "go"
    intro _
    rw [List.length_map]
    refine ⟨c.length, n, rfl, c1, n1, by omega, by omega, ?_⟩
    walk_at "go"
    rw [dP]
    refine ⟨wide_div (b := 200) (by omega) (by omega) (by decide) (by decide), ⟨by omega, by omega⟩, ?_⟩
    rw [show (((jF h n : Nat) : Int) + ((jP c n : Nat) : Int)).toNat = jF h n + jP c n by omega]
    refine lc_map (fun d => if wideT h c ((intOf d).toNat * n) n then .non else tabD (joinT h c ((intOf d).toNat * n) (n - 1))) (by rw [rngD_length, PySem.sizeLine_eq]; omega) (fun d hd S1 K1 hK => ?_) ?_
    · obtain ⟨i, hi⟩ := List.getElem?_of_mem hd
      obtain ⟨hi2, rfl⟩ := rngD_get hi
      have e0 : (intOf (.int ((0 : Int) + (i : Int)))).toNat = i := by
        show ((0 : Int) + (i : Int)).toNat = i
        omega
      rw [e0] at hK
      walk_at "wall"
      refine ⟨mul_small (by omega) (by omega), ?_⟩
      have i4 : i * n ≤ 120 * 4 := Nat.mul_le_mul (by omega) n4
      refine ⟨h, c, i * n, n, by rw [Int.zero_add, Int.natCast_mul]; rfl, g, by omega, n1, n4, fun wd => ?_, fun nw => ?_⟩
      · rw [if_pos wd] at hK
        exact hK
      · rw [if_neg nw] at hK
        exact hK
    generalize eG : (rngD 0 (jF h n + jP c n)).map (fun d => if wideT h c ((intOf d).toNat * n) n then D.non else tabD (joinT h c ((intOf d).toNat * n) (n - 1))) = G
    have mG : ∀ d ∈ G, d = .non ∨ ∃ t, d = tabD t := fun d hd => by
      rw [← eG] at hd
      obtain ⟨x, hx, rfl⟩ := List.mem_map.mp hd
      split
      · exact .inl rfl
      · exact .inr ⟨_, rfl⟩
    have okG : ∀ d ∈ G, Ok 2 d := fun d hd => by
      rcases mG d hd with rfl | ⟨t, rfl⟩
      · exact Ok.non
      · exact ok_tab t
    have at_ : ∀ i, i < jF h n + jP c n → G[i]? = some (if wideT h c (i * n) n then D.non else tabD (joinT h c (i * n) (n - 1))) := fun i hi => by
      rw [← eG]
      unfold rngD
      rw [List.map_map, List.getElem?_map, List.getElem?_range hi]
      show some (if wideT h c (((0 : Int) + (i : Int)).toNat * n) n then D.non else tabD (joinT h c (((0 : Int) + (i : Int)).toNat * n) (n - 1))) = _
      rw [show ((0 : Int) + (i : Int)).toNat = i by omega]
    refine ⟨⟨(Ok.non (n := 0)).okEq, (Ok.lst (n := 2) okG).okEq⟩, G, rfl, ?_⟩
    by_cases W : wideC h c n
    · have e1 : (G.any fun z => eqD z (see S D.non)) = true := by
        obtain ⟨i, hi, wd⟩ := W
        have := at_ i hi
        rw [if_pos wd] at this
        exact List.any_eq_true.mpr ⟨.non, List.mem_of_getElem? this, eqD_self (Ok.non (n := 0))⟩
      rw [e1]
      walk_at "go"
      exact .now (xw W)
    · have eT : G = (joinH h c n ++ joinC h c n).map tabD := by
        rw [← eG]
        unfold rngD joinH joinC
        rw [List.map_append, List.map_map, List.map_map, List.map_map, List.range_add, List.map_append, List.map_map]
        congr 1
        · refine List.map_congr_left fun i hi => ?_
          show (if wideT h c (((0 : Int) + (i : Int)).toNat * n) n then D.non else tabD (joinT h c (((0 : Int) + (i : Int)).toNat * n) (n - 1))) = _
          rw [show ((0 : Int) + (i : Int)).toNat = i by omega, if_neg fun wd => W ⟨i, by have := List.mem_range.mp hi; omega, wd⟩]
          rfl
        · refine List.map_congr_left fun i hi => ?_
          show (if wideT h c (((0 : Int) + ((jF h n + i : Nat) : Int)).toNat * n) n then D.non else tabD (joinT h c (((0 : Int) + ((jF h n + i : Nat) : Int)).toNat * n) (n - 1))) = _
          rw [show ((0 : Int) + ((jF h n + i : Nat) : Int)).toNat = jF h n + i by omega, if_neg fun wd => W ⟨jF h n + i, by have := List.mem_range.mp hi; omega, wd⟩]
          rfl
      have e1 : (G.any fun z => eqD z (see S D.non)) = false := by
        rw [Bool.eq_false_iff]
        intro z
        obtain ⟨d, hd, hz⟩ := List.any_eq_true.mp z
        rw [eT] at hd
        obtain ⟨t, _, rfl⟩ := List.mem_map.mp hd
        have hz : eqD (tabD t) D.non = true := hz
        rw [eqD_ne (ok_tab t) (Ok.non (n := 2)) (fun e => by cases e)] at hz
        cases hz
      rw [e1]
      walk_at "go"
      have lH : (joinH h c n).length = jF h n := by unfold joinH; rw [List.length_map, List.length_range]
      rw [eT]
      walk_at "go"
      rw [cutD_to, cutD_from, ← List.map_take, ← List.map_drop, List.take_left' lH, List.drop_left' lH]
      exact ⟨by decide, .now (q W)⟩
end
abbrev s_Clock___eq__ : Stmt := inClass (topS 17) 2
theorem sc_Clock___eq__ : FnScope ["self", "other"] ["self", "other"] (defScope s_Clock___eq__) := ⟨rfl, rfl, rfl, by decide +kernel, rfl, by decide +kernel, by decide +kernel⟩
def spEq : DSp := fun ds S Q _ => ∃ (h c : List Tab) (d : D), ds = [.clk (h.map tabD) (c.map tabD), d] ∧ ((∃ h2 c2 : List Tab, d = .clk (h2.map tabD) (c2.map tabD) ∧ Q (.bl (decide (h = h2 ∧ c = c2))) S) ∨ (plainD d = true ∧ Q (.bl false) S))
section
variable {P : Program} {w : World} {K : PySem.W.Frag} {mg : Str → Option Value} {base : Heap} {C : Cf}
theorem ok_eqM {f : Addr} {fd : FuncData} (F : Fun K "__eq__" "Clock.__eq__" s_Clock___eq__ f fd) (T : Txt mg) (KC : CkC K C) (KI : KIs K mg C) : DOk P w K mg base C 1 f fd ["self", "other"] spEq := by
  refine dok_of F sc_Clock___eq__ (fun ds S Q Xd h => ?_) (fun cdv A outer s B Ex ds S Q Xd hr dx h => ?_)
  · obtain ⟨h, c, d, rfl, _⟩ := h
    rfl
  · have sc := sc_Clock___eq__
    refine ⟨_, (dss_cons (ds_if (dt_not (dt_val (de_callB (cd_isK KI) T.b_isinstance (by decide +kernel) (da_cons (de_var 1) (da_cons (de_gref KI.at_) da_nil))))) (dss_one (ds_ret de_bl)) dss_nil) (dss_one (ds_ret (de_and (de_cmp (od_eq hr.units) (de_head KC (de_var 0)) (de_head KC (de_var 1))) (de_one (de_cmp (od_eq hr.units) (de_cycle KC (de_var 0)) (de_cycle KC (de_var 1)))))))), ?_⟩
    obtain ⟨h, c, d, rfl, hq⟩ := h
    rcases hq with ⟨h2, c2, rfl, hq⟩ | ⟨pd, hq⟩
    · walk_at "go"
      refine ⟨_, rfl, _, rfl, ?_⟩
      refine dEq_of (ok_tabsT _) (ok_tabsT _) (fun e => ?_) fun e => ?_
      · have e := tabDs_inj (by injection e)
        walk_at "go"
        refine ⟨_, rfl, _, rfl, ?_⟩
        refine dEq_of (ok_tabsT _) (ok_tabsT _) (fun e2 => ?_) fun e2 => ?_
        · have e2 := tabDs_inj (by injection e2)
          rw [decide_eq_true ⟨e, e2⟩] at hq
          exact .now hq
        · rw [decide_eq_false fun z => e2 (by rw [z.2])] at hq
          exact .now hq
      · walk_at "go"
        rw [decide_eq_false fun z => e (by rw [z.1])] at hq
        exact .now hq
    · have no : ∀ Q' : KD, Q' (.bl false) S → dIsK C [d, .ref C.clk] S Q' := fun Q' q => by
        cases d <;> first | (cases pd; done) | exact ⟨rfl, rfl, q⟩
      walk_at "go"
      refine no _ ?_
      walk_at "go"
      exact .now hq
end
abbrev s_Clock___len__ : Stmt := inClass (topS 17) 1
theorem sc_Clock___len__ : FnScope ["self"] ["self"] (defScope s_Clock___len__) := ⟨rfl, rfl, rfl, by decide +kernel, rfl, by decide +kernel, by decide +kernel⟩
abbrev s_Clock___repr__ : Stmt := inClass (topS 17) 3
theorem sc_Clock___repr__ : FnScope ["self"] ["self"] (defScope s_Clock___repr__) := ⟨rfl, rfl, rfl, by decide +kernel, rfl, by decide +kernel, by decide +kernel⟩
abbrev s_Clock_head : Stmt := inClass (topS 17) 4
theorem sc_Clock_head : FnScope ["self"] ["self"] (defScope s_Clock_head) := ⟨rfl, rfl, rfl, by decide +kernel, rfl, by decide +kernel, by decide +kernel⟩
abbrev s_Clock_cycle : Stmt := inClass (topS 17) 5
theorem sc_Clock_cycle : FnScope ["self"] ["self"] (defScope s_Clock_cycle) := ⟨rfl, rfl, rfl, by decide +kernel, rfl, by decide +kernel, by decide +kernel⟩
/-! ### len, repr, head and cycle of clocks -/
def spLenM : DSp := fun ds S Q _ => ∃ (h c : List Tab), ds = [clkD h c] ∧ h.length + c.length ≤ 1000 ∧ Q (.int ((h.length + c.length : Nat) : Int)) S
def reprS (a b : Nat) : Str := ((((Str.ofString "Clock(") ++ (toString (a : Int) : Str)) ++ (Str.ofString " + ")) ++ (toString (b : Int) : Str)) ++ (Str.ofString " tables)")
theorem repr_facts : ∀ a : Nat, a < 4 → ∀ b : Nat, b < 4 → (Str.empty ++ Str.ofString "Clock(").length ≤ sizeLine ∧ (Str.empty ++ Str.ofString "Clock(" ++ (toString (a : Int) : Str)).length ≤ sizeLine ∧ (Str.empty ++ Str.ofString "Clock(" ++ (toString (a : Int) : Str) ++ Str.ofString " + ").length ≤ sizeLine ∧ (Str.empty ++ Str.ofString "Clock(" ++ (toString (a : Int) : Str) ++ Str.ofString " + " ++ (toString (b : Int) : Str)).length ≤ sizeLine ∧ (Str.empty ++ Str.ofString "Clock(" ++ (toString (a : Int) : Str) ++ Str.ofString " + " ++ (toString (b : Int) : Str) ++ Str.ofString " tables)").length ≤ sizeLine ∧ Str.empty ++ Str.ofString "Clock(" ++ (toString (a : Int) : Str) ++ Str.ofString " + " ++ (toString (b : Int) : Str) ++ Str.ofString " tables)" = reprS a b ∧ PyData.strOk (reprS a b) = true := by decide +kernel
theorem log_small (n : Nat) (h : n ≤ 3) : ((n : Int)).natAbs.log2 < 1920 := by
  rw [Int.natAbs_natCast]
  exact Nat.lt_of_le_of_lt (Nat.log2_le_self n) (by omega)
def spReprM : DSp := fun ds S Q _ => ∃ (h c : List Tab), ds = [clkD h c] ∧ h.length ≤ 3 ∧ c.length ≤ 3 ∧ Q (.str (reprS h.length c.length)) S
def spHeadM : DSp := fun ds S Q _ => ∃ (h c : List Tab), ds = [clkD h c] ∧ ∀ p, S p = none → Q (.ref p) (S.put p (.lst (h.map tabD)))
def spCycleM : DSp := fun ds S Q _ => ∃ (h c : List Tab), ds = [clkD h c] ∧ ∀ p, S p = none → Q (.ref p) (S.put p (.lst (c.map tabD)))
section
variable {P : Program} {w : World} {K : PySem.W.Frag} {mg : Str → Option Value} {base : Heap} {C : Cf}
theorem ok_lenM {f : Addr} {fd : FuncData} (F : Fun K "__len__" "Clock.__len__" s_Clock___len__ f fd) (T : Txt mg) (KC : CkC K C) : DOk P w K mg base C 1 f fd ["self"] spLenM := by
  refine dok_of F sc_Clock___len__ (fun ds S Q Xd h => ?_) (fun cdv A outer s B Ex ds S Q Xd hr dx h => ?_)
  · obtain ⟨h, c, rfl, _⟩ := h
    rfl
  · have sc := sc_Clock___len__
    refine ⟨_, (dss_one (ds_ret (de_callB cd_len T.b_len (by decide +kernel) (da_cons (de_bin od_add (de_head KC (de_var 0)) (de_cycle KC (de_var 0))) da_nil)))), ?_⟩
    obtain ⟨h, c, rfl, hl, q⟩ := h
    walk_at "go"
    refine ⟨_, rfl, ?_⟩
    walk_at "go"
    refine ⟨_, rfl, ?_⟩
    walk_at "go"
    refine ⟨by rw [List.length_map, List.length_map, PySem.sizeLine_eq]; omega, fun _ => ?_⟩
    rw [List.length_append, List.length_map, List.length_map]
    exact .now q
theorem ok_reprM {f : Addr} {fd : FuncData} (F : Fun K "__repr__" "Clock.__repr__" s_Clock___repr__ f fd) (T : Txt mg) (KC : CkC K C) : DOk P w K mg base C 1 f fd ["self"] spReprM := by
  refine dok_of F sc_Clock___repr__ (fun ds S Q Xd h => ?_) (fun cdv A outer s B Ex ds S Q Xd hr dx h => ?_)
  · obtain ⟨h, c, rfl, _⟩ := h
    rfl
  · have sc := sc_Clock___repr__
    refine ⟨_, (dss_one (ds_ret (de_joined (dj_cons de_str (dj_cons (de_fmt (de_callB cd_len T.b_len (by decide +kernel) (da_cons (de_head KC (de_var 0)) da_nil))) (dj_cons de_str (dj_cons (de_fmt (de_callB cd_len T.b_len (by decide +kernel) (da_cons (de_cycle KC (de_var 0)) da_nil))) (dj_cons de_str dj_nil)))))))), ?_⟩
    obtain ⟨h, c, rfl, h3, c3, q⟩ := h
    walk_at "go"
    obtain ⟨f1, f2, f3, f4, f5, f6, _⟩ := repr_facts h.length (by omega) c.length (by omega)
    refine ⟨_, rfl, f1, _, rfl, ?_⟩
    walk_at "go"
    intro _
    rw [List.length_map]
    refine ⟨log_small _ h3, _, rfl, f2, _, rfl, f3, _, rfl, ?_⟩
    walk_at "go"
    intro _
    rw [List.length_map]
    refine ⟨log_small _ c3, _, rfl, f4, _, rfl, f5, .now ?_⟩
    rw [f6]
    exact q
theorem ok_headM {f : Addr} {fd : FuncData} (F : Fun K "head" "Clock.head" s_Clock_head f fd) (T : Txt mg) (KC : CkC K C) : DOk P w K mg base C 1 f fd ["self"] spHeadM := by
  refine dok_of F sc_Clock_head (fun ds S Q Xd h => ?_) (fun cdv A outer s B Ex ds S Q Xd hr dx h => ?_)
  · obtain ⟨h, c, rfl, _⟩ := h
    rfl
  · have sc := sc_Clock_head
    refine ⟨_, (dss_one (ds_ret (de_callTy cd_listL T.b_list (by decide +kernel) (da_cons (de_head KC (de_var 0)) da_nil)))), ?_⟩
    obtain ⟨h, c, rfl, q⟩ := h
    walk_at "go"
    refine ⟨_, rfl, ?_⟩
    walk_at "go"
    exact fun p hp => .now (q p hp)
theorem ok_cycleM {f : Addr} {fd : FuncData} (F : Fun K "cycle" "Clock.cycle" s_Clock_cycle f fd) (T : Txt mg) (KC : CkC K C) : DOk P w K mg base C 1 f fd ["self"] spCycleM := by
  refine dok_of F sc_Clock_cycle (fun ds S Q Xd h => ?_) (fun cdv A outer s B Ex ds S Q Xd hr dx h => ?_)
  · obtain ⟨h, c, rfl, _⟩ := h
    rfl
  · have sc := sc_Clock_cycle
    refine ⟨_, (dss_one (ds_ret (de_callTy cd_listL T.b_list (by decide +kernel) (da_cons (de_cycle KC (de_var 0)) da_nil)))), ?_⟩
    obtain ⟨h, c, rfl, q⟩ := h
    walk_at "go"
    refine ⟨_, rfl, ?_⟩
    walk_at "go"
    exact fun p hp => .now (q p hp)
end
/-! ### _law_like of lists that may change -/
def spLikeR (n : Nat) : DSp := fun ds S Q _ => ∃ (p : Addr) (es : List D), ds = [.ref p, .lst es] ∧ S p = some (.lst es) ∧ Dat n (.lst es) ∧ Q (.bl true) S
/-- items that are data, or lists that may change -/
def spLikeX (n : Nat) : DSp := fun ds S Q _ => ∃ (fs es : List D), ds = [.lst fs, .lst es] ∧ fs.length = es.length ∧ fs.length ≤ 1000 ∧ (∀ x ∈ fs.zip es, (x.1 = x.2 ∧ Dat n x.2) ∨ ∃ p ds, x.1 = .ref p ∧ x.2 = .lst ds ∧ S p = some (.lst ds) ∧ Dat n (.lst ds)) ∧ Q (.bl true) S
def spLikeT (n : Nat) : DSp := fun ds S Q Xd => spLike (n + 2) ds S Q Xd ∨ (spLikeR (n + 2) ds S Q Xd ∨ spLikeX (n + 1) ds S Q Xd)
section
variable {P : Program} {w : World} {K : PySem.W.Frag} {mg : Str → Option Value} {base : Heap} {C : Cf}
theorem ok_likeRD {f : Addr} {fd : FuncData} (F : Fun K "_law_like" "_law_like" s__law_like f fd) (T : Txt mg) (hm : mg "_law_like" = some (.ref f)) (hk : PySem.W.keepIn K (.ref f) = true) (hb : Binds K fd ["_law_found", "_law_due"] []) (n : Nat) (hn : n ≤ 50) : DOk P w K mg base C (n + 1) f fd ["_law_found", "_law_due"] (spLikeR (n + 1)) := by
  have G__law_like := ok_like (P := P) (w := w) (base := base) (C := C) F T hm hk hb n (by omega)
  refine dok_of F sc__law_like (fun ds S Q Xd h => ?_) (fun cdv A outer s B Ex ds S Q Xd hr dx h => ?_)
  · obtain ⟨p, es, rfl, _⟩ := h
    rfl
  · have sc := sc__law_like
    refine ⟨_, (dss_cons (ds_if (dt_val (de_callB cd_isiL T.b_isinstance (by decide +kernel) (da_cons (de_var 1) (da_cons (de_tup (da_cons (de_gty (n := "list") T.b_list (by decide +kernel)) (da_cons (de_gty (n := "tuple") T.b_tuple (by decide +kernel)) da_nil))) da_nil)))) (dss_cons (ds_if (dt_w (dw_or (dt_cmp (od_ne hr.units) (de_callB cd_isiL T.b_isinstance (by decide +kernel) (da_cons (de_var 0) (da_cons (de_gty (n := "list") T.b_list (by decide +kernel)) da_nil))) (de_callB cd_isiL T.b_isinstance (by decide +kernel) (da_cons (de_var 1) (da_cons (de_gty (n := "list") T.b_list (by decide +kernel)) da_nil)))) (dw_or1 (dt_cmp (od_ne hr.units) (de_callB cd_isiL T.b_isinstance (by decide +kernel) (da_cons (de_var 0) (da_cons (de_gty (n := "tuple") T.b_tuple (by decide +kernel)) da_nil))) (de_callB cd_isiL T.b_isinstance (by decide +kernel) (da_cons (de_var 1) (da_cons (de_gty (n := "tuple") T.b_tuple (by decide +kernel)) da_nil))))))) (dss_one (ds_ret de_bl)) dss_nil) (dss_one (ds_ret (de_and (de_cmp (od_eq hr.units) (de_callB cd_len T.b_len (by decide +kernel) (da_cons (de_var 0) da_nil)) (de_callB cd_len T.b_len (by decide +kernel) (da_cons (de_var 1) da_nil))) (de_one (de_callB (cd_all rfl) T.b_all (by decide +kernel) (da_cons (de_lcG [("_law_one", 2), ("_law_other", 3)] rfl sc.nd (blkOk_by (N := ["_law_found", "_law_due", "_law_one", "_law_other"]) (sc := defScope s__law_like) (by decide +kernel)) (di_zipG T.b_zip (da_cons (de_var 0) (da_cons (de_var 1) da_nil))) (fun _ _ _ _ _ _ => (dg_tup (n := 2) rfl (dgs_cons (dgn 2 sc.nd) (dgs_cons (dgn 3 sc.nd) dgs_nil)))) (fun _ _ _ _ _ _ => dts_nil) (fun _ _ _ _ _ _ => (de_callD G__law_like (hr.mono (by omega)) dx0 (da_cons (de_var 2) (da_cons (de_var 3) da_nil))))) da_nil))))))) dss_nil) (dss_cons (ds_if (dt_w (dw_or (dt_cmp od_is (de_var 0) de_non) (dw_or1 (dt_cmp od_is (de_var 1) de_non)))) (dss_one (ds_ret (de_and (de_cmp od_is (de_var 0) de_non) (de_one (de_cmp od_is (de_var 1) de_non))))) dss_nil) (dss_cons (ds_if (dt_w (dw_or (dt_cmp (od_ne hr.units) (de_callB cd_isiL T.b_isinstance (by decide +kernel) (da_cons (de_var 0) (da_cons (de_gty (n := "bool") T.b_bool (by decide +kernel)) da_nil))) (de_callB cd_isiL T.b_isinstance (by decide +kernel) (da_cons (de_var 1) (da_cons (de_gty (n := "bool") T.b_bool (by decide +kernel)) da_nil)))) (dw_or1 (dt_cmp (od_ne hr.units) (de_callB cd_isiL T.b_isinstance (by decide +kernel) (da_cons (de_var 0) (da_cons (de_gty (n := "int") T.b_int (by decide +kernel)) da_nil))) (de_callB cd_isiL T.b_isinstance (by decide +kernel) (da_cons (de_var 1) (da_cons (de_gty (n := "int") T.b_int (by decide +kernel)) da_nil))))))) (dss_one (ds_ret de_bl)) dss_nil) (dss_one (ds_ret (de_and (de_cmp (od_eq hr.units) (de_callB cd_isiL T.b_isinstance (by decide +kernel) (da_cons (de_var 0) (da_cons (de_gty (n := "str") T.b_str (by decide +kernel)) da_nil))) (de_callB cd_isiL T.b_isinstance (by decide +kernel) (da_cons (de_var 1) (da_cons (de_gty (n := "str") T.b_str (by decide +kernel)) da_nil)))) (de_one (de_cmp (od_eq hr.units) (de_var 0) (de_var 1))))))))), ?_⟩
    obtain ⟨p, es, rfl, hp, hd, q⟩ := h
    walk_at "go"
    refine ⟨by decide, _, hp, dNe_self (.bl (n := n) true) ?_ (by omega)⟩
    walk_at "go"
    refine ⟨_, hp, dNe_self (.bl (n := n) false) ?_ (by omega)⟩
    walk_at "go"
    refine ⟨_, hp, fun hz _ => ?_⟩
    refine dEq_self (Ok.int (n := 0) _).dat ?_ (by omega)
    walk_at "go"
    refine ⟨_, hp, fun _ => ?_⟩
    rw [zipD_self]
    refine lc_mapG (fun _ => .bl true) (fun S' l => l _ _ hp) (by rw [List.length_map]; exact hz) (fun e he S1 K1 l1 hK => ?_) ?_
    · obtain ⟨x, hx, rfl⟩ := List.mem_map.mp he
      have hx' := hd.lsts x hx
      walk_at "go"
      exact ⟨x, rfl, hx', hK⟩
    · walk_at "go"
      refine ⟨es.map fun _ => true, by simp [List.map_map, Function.comp_def], .now ?_⟩
      rw [show (es.map fun _ => true).all id = true by simp]
      exact q
theorem ok_likeU {f : Addr} {fd : FuncData} (F : Fun K "_law_like" "_law_like" s__law_like f fd) (T : Txt mg) (hm : mg "_law_like" = some (.ref f)) (hk : PySem.W.keepIn K (.ref f) = true) (hb : Binds K fd ["_law_found", "_law_due"] []) (n : Nat) (hn : n ≤ 50) : Df P w K mg base C "_law_like" (n + 1) ["_law_found", "_law_due"] (fun ds S Q Xd => spLike (n + 1) ds S Q Xd ∨ spLikeR (n + 1) ds S Q Xd) := ⟨f, fd, RL.FnOk.or (ok_likeD F T hm hk hb (n + 1) (by omega)) (ok_likeRD F T hm hk hb n hn), hm, hk, hb⟩
theorem ok_likeXD {f : Addr} {fd : FuncData} (F : Fun K "_law_like" "_law_like" s__law_like f fd) (T : Txt mg) (hm : mg "_law_like" = some (.ref f)) (hk : PySem.W.keepIn K (.ref f) = true) (hb : Binds K fd ["_law_found", "_law_due"] []) (n : Nat) (hn : n ≤ 50) : DOk P w K mg base C (n + 2) f fd ["_law_found", "_law_due"] (spLikeX (n + 1)) := by
  have G__law_like := ok_likeU (P := P) (w := w) (base := base) (C := C) F T hm hk hb n (by omega)
  refine dok_of F sc__law_like (fun ds S Q Xd h => ?_) (fun cdv A outer s B Ex ds S Q Xd hr dx h => ?_)
  · obtain ⟨fs, es, rfl, _⟩ := h
    rfl
  · have sc := sc__law_like
    refine ⟨_, (dss_cons (ds_if (dt_val (de_callB cd_isiL T.b_isinstance (by decide +kernel) (da_cons (de_var 1) (da_cons (de_tup (da_cons (de_gty (n := "list") T.b_list (by decide +kernel)) (da_cons (de_gty (n := "tuple") T.b_tuple (by decide +kernel)) da_nil))) da_nil)))) (dss_cons (ds_if (dt_w (dw_or (dt_cmp (od_ne hr.units) (de_callB cd_isiL T.b_isinstance (by decide +kernel) (da_cons (de_var 0) (da_cons (de_gty (n := "list") T.b_list (by decide +kernel)) da_nil))) (de_callB cd_isiL T.b_isinstance (by decide +kernel) (da_cons (de_var 1) (da_cons (de_gty (n := "list") T.b_list (by decide +kernel)) da_nil)))) (dw_or1 (dt_cmp (od_ne hr.units) (de_callB cd_isiL T.b_isinstance (by decide +kernel) (da_cons (de_var 0) (da_cons (de_gty (n := "tuple") T.b_tuple (by decide +kernel)) da_nil))) (de_callB cd_isiL T.b_isinstance (by decide +kernel) (da_cons (de_var 1) (da_cons (de_gty (n := "tuple") T.b_tuple (by decide +kernel)) da_nil))))))) (dss_one (ds_ret de_bl)) dss_nil) (dss_one (ds_ret (de_and (de_cmp (od_eq hr.units) (de_callB cd_len T.b_len (by decide +kernel) (da_cons (de_var 0) da_nil)) (de_callB cd_len T.b_len (by decide +kernel) (da_cons (de_var 1) da_nil))) (de_one (de_callB (cd_all rfl) T.b_all (by decide +kernel) (da_cons (de_lcG [("_law_one", 2), ("_law_other", 3)] rfl sc.nd (blkOk_by (N := ["_law_found", "_law_due", "_law_one", "_law_other"]) (sc := defScope s__law_like) (by decide +kernel)) (di_zipG T.b_zip (da_cons (de_var 0) (da_cons (de_var 1) da_nil))) (fun _ _ _ _ _ _ => (dg_tup (n := 2) rfl (dgs_cons (dgn 2 sc.nd) (dgs_cons (dgn 3 sc.nd) dgs_nil)))) (fun _ _ _ _ _ _ => dts_nil) (fun _ _ _ _ _ _ => (de_callD G__law_like (hr.mono (by omega)) dx0 (da_cons (de_var 2) (da_cons (de_var 3) da_nil))))) da_nil))))))) dss_nil) (dss_cons (ds_if (dt_w (dw_or (dt_cmp od_is (de_var 0) de_non) (dw_or1 (dt_cmp od_is (de_var 1) de_non)))) (dss_one (ds_ret (de_and (de_cmp od_is (de_var 0) de_non) (de_one (de_cmp od_is (de_var 1) de_non))))) dss_nil) (dss_cons (ds_if (dt_w (dw_or (dt_cmp (od_ne hr.units) (de_callB cd_isiL T.b_isinstance (by decide +kernel) (da_cons (de_var 0) (da_cons (de_gty (n := "bool") T.b_bool (by decide +kernel)) da_nil))) (de_callB cd_isiL T.b_isinstance (by decide +kernel) (da_cons (de_var 1) (da_cons (de_gty (n := "bool") T.b_bool (by decide +kernel)) da_nil)))) (dw_or1 (dt_cmp (od_ne hr.units) (de_callB cd_isiL T.b_isinstance (by decide +kernel) (da_cons (de_var 0) (da_cons (de_gty (n := "int") T.b_int (by decide +kernel)) da_nil))) (de_callB cd_isiL T.b_isinstance (by decide +kernel) (da_cons (de_var 1) (da_cons (de_gty (n := "int") T.b_int (by decide +kernel)) da_nil))))))) (dss_one (ds_ret de_bl)) dss_nil) (dss_one (ds_ret (de_and (de_cmp (od_eq hr.units) (de_callB cd_isiL T.b_isinstance (by decide +kernel) (da_cons (de_var 0) (da_cons (de_gty (n := "str") T.b_str (by decide +kernel)) da_nil))) (de_callB cd_isiL T.b_isinstance (by decide +kernel) (da_cons (de_var 1) (da_cons (de_gty (n := "str") T.b_str (by decide +kernel)) da_nil)))) (de_one (de_cmp (od_eq hr.units) (de_var 0) (de_var 1))))))))), ?_⟩
    obtain ⟨fs, es, rfl, hl, h1000, hp, q⟩ := h
    walk_at "go"
    refine ⟨by decide, dNe_self (.bl (n := n) true) ?_ (by omega)⟩
    walk_at "go"
    refine dNe_self (.bl (n := n) false) ?_ (by omega)
    walk_at "go"
    intro _ _
    rw [hl]
    refine dEq_self (Ok.int (n := 0) _).dat ?_ (by omega)
    walk_at "go"
    intro _
    have zl : (zipD fs es).length ≤ sizeLine := by
      rw [zipD_length, PySem.sizeLine_eq]
      omega
    refine lc_mapG (fun _ => .bl true) (fun S' l => trivial) zl (fun e he S1 K1 l1 hK => ?_) ?_
    · obtain ⟨i, hi⟩ := List.getElem?_of_mem he
      obtain ⟨x, y, hx, hy, rfl⟩ := zipD_get hi
      have hz : (x, y) ∈ fs.zip es := List.mem_of_getElem? (i := i) (List.getElem?_zip_eq_some.mpr ⟨hx, hy⟩)
      walk_at "go"
      rcases hp _ hz with ⟨a1, a2⟩ | ⟨p, ds, a1, a2, a3, a4⟩
      · have a1 : x = y := a1
        have a2 : Dat (n + 1) y := a2
        subst a1
        exact .inl ⟨x, rfl, a2, hK⟩
      · have a1 : x = .ref p := a1
        have a2 : y = .lst ds := a2
        subst a1 a2
        exact .inr ⟨p, ds, rfl, l1 _ _ a3, a4, hK⟩
    · walk_at "go"
      refine ⟨(zipD fs es).map fun _ => true, by simp [List.map_map, Function.comp_def], .now ?_⟩
      rw [show ((zipD fs es).map fun _ => true).all id = true by simp]
      exact q
theorem ok_likeT {f : Addr} {fd : FuncData} (F : Fun K "_law_like" "_law_like" s__law_like f fd) (T : Txt mg) (hm : mg "_law_like" = some (.ref f)) (hk : PySem.W.keepIn K (.ref f) = true) (hb : Binds K fd ["_law_found", "_law_due"] []) (n : Nat) (hn : n ≤ 40) : Df P w K mg base C "_law_like" (n + 2) ["_law_found", "_law_due"] (spLikeT n) := ⟨f, fd, RL.FnOk.or (ok_likeD F T hm hk hb (n + 2) (by omega)) (RL.FnOk.or (ok_likeRD F T hm hk hb (n + 1) (by omega)) (ok_likeXD F T hm hk hb n (by omega))), hm, hk, hb⟩
end
abbrev s_law : Stmt := topS 36
theorem sc_law : FnScope ["_law_script", "_law_bag_here", "_law_turn", "_law_plan_here", "_law_made", "_law_times", "_law_due", "_law_told", "_law_far", "_law_eight", "_law_found", "_law_nine", "_law_full"] ["_law_script"] (defScope s_law) := ⟨rfl, rfl, rfl, by decide +kernel, rfl, by decide +kernel, by decide +kernel⟩
/-! ### the law of joined clocks -/
theorem fld_limit {cm : Addr} {n : Int} {S' : Sto} {Q' : KD} (q : Q' (.int n) S') : spFld (xnLimit cm n) S' Q' := ⟨_, rfl, by decide +kernel, _, rfl, q⟩
theorem fld_count {cm : Addr} {n : Int} {S' : Sto} {Q' : KD} (q : Q' (.int n) S') : spFld (xnCountJ cm n) S' Q' := ⟨_, rfl, by decide +kernel, _, rfl, q⟩
def wideB (h c : List Tab) (n : Nat) : Bool := (List.range (jF h n + jP c n)).any fun i => (List.range n).any fun k => (decide (1 ≤ k) && (joinT h c (i * n) k).any fun row => decide (64 < row.length))
theorem wideB_iff {h c : List Tab} {n : Nat} : wideB h c n = true ↔ wideC h c n := by
  unfold wideB wideC wideT
  simp only [List.any_eq_true, List.mem_range, Bool.and_eq_true, decide_eq_true_eq]
  constructor
  · rintro ⟨i, hi, k, hk, k1, row, hr, h6⟩
    exact ⟨i, hi, k, k1, hk, row, hr, h6⟩
  · rintro ⟨i, hi, k, k1, hk, row, hr, h6⟩
    exact ⟨i, hi, k, hk, k1, row, hr, h6⟩
theorem repD (n : Nat) : D.tup [D.tup (List.replicate n [D.int 0]).flatten] = tabD [List.replicate n 0] := by
  have e : (List.replicate n [D.int 0]).flatten = (List.replicate n (0 : Int)).map D.int := by
    induction n with
    | zero => rfl
    | succ n ih =>
      rw [List.replicate_succ, List.flatten_cons, ih, List.replicate_succ]
      rfl
  rw [e]
  rfl
section
variable {P : Program} {w : World} {K : PySem.W.Frag} {mg : Str → Option Value} {base : Heap} {C : Cf} {cc cm hang absent : Addr}
theorem ok_law {f cd PT : Addr} {oc kV doc pm ct' : Value} {od an : Option Addr} {osl : Array (Option Value)}
    (lk : K.lookup f = some ⟨oc, od, .func (PySem.W.fnOf "law" "law" (defArgs s_law) (defBody s_law) (defScope s_law) .none kV doc pm an (.ref cd) ct'), osl⟩) (hcd : PySem.W.codeIn K (.ref cd) "law" = true) (TB_own : LamX.TabB base mg cd PT) (hm_own : (PT, lamName "law") ∈ C.T) (hu_own : ∀ q ∈ C.T, q.1 = PT → q.2 = lamName "law")
    (T : Txt mg) (KE : CkEq K C) (xc : ∀ n, XnOk K hang (xnCountJ cc n)) (xl : ∀ n, XnOk K hang (xnLimit cm n)) (T_tried : Tried P w K mg base C hang absent 9 spFld)
    (G__law_bag : Df P w K mg base C "_law_bag" 1 ["_law_script"] spBag) (G__law_of : Df P w K mg base C "_law_of" 2 ["_law_bag_here", "_law_things"] spOf) (G__law_like : Df P w K mg base C "_law_like" 7 ["_law_found", "_law_due"] (spLikeT 5)) (G__law_plan : Df P w K mg base C "_law_plan" 3 ["_law_bag_here"] spPlan)
    (G__law_clock : Df P w K mg base C "_law_clock" 6 ["_law_plan_here"] spClock) (G__law_joined : Df P w K mg base C "_law_joined" 3 ["_law_plan_here", "_law_times"] spJoinL)
    (K_Clock : DfK P w K mg base C "Clock" 4 ["self", "head", "cycle"] spInit) (M_head : DfM P w K mg base C "head" 1 ["self"] spHeadM) (M_cycle : DfM P w K mg base C "cycle" 1 ["self"] spCycleM) (M_table : DfM P w K mg base C "table" 4 ["self", "floor"] spTabG)
    (M___eq__ : DfM P w K mg base C "__eq__" 1 ["self", "other"] spEq) (G_join : Df P w K mg base C "join" 6 ["clock", "count"] (spJoin cc cm)) : DOk P w K mg base C 12 f (PySem.W.fnOf "law" "law" (defArgs s_law) (defBody s_law) (defScope s_law) .none kV doc pm an (.ref cd) ct') ["_law_script"] (spTop 63) := by
  refine dok_ofC lk hcd sc_law (fun ds S Q Xd h => ?_) (fun A outer s B Ex ds S Q Xd hr dx h => ?_)
  · obtain ⟨ns, rfl, _⟩ := h
    rfl
  · have sc := sc_law
    refine ⟨_, (dss_cons (ds_set 1 sc.nd (de_callD G__law_bag (hr.mono (by omega)) dx (da_cons (de_var 0) da_nil))) (dss_cons (ds_for (passes_of rfl) rfl (di_range1 T.b_range (da_cons de_int da_nil)) (dg_name 2 sc.nd) (dss_cons (ds_set 3 sc.nd (de_callD G__law_plan (hr.mono (by omega)) dx (da_cons (de_var 1) da_nil))) (dss_cons (ds_set 4 sc.nd (de_callD G__law_clock (hr.mono (by omega)) dx (da_cons (de_var 3) da_nil))) (dss_cons (ds_for (passes_of rfl) rfl (di_range2 T.b_range (da_cons de_int (da_cons de_int da_nil))) (dg_name 5 sc.nd) (dss_cons (ds_set 6 sc.nd (de_callD G__law_joined (hr.mono (by omega)) dx (da_cons (de_var 3) (da_cons (de_var 5) da_nil)))) (dss_cons (ds_set 7 sc.nd (de_tried (o := none) T_tried rfl TB_own rfl hm_own hu_own (hr.mono (by omega)) rfl (lamG_by (N := ["_law_script", "_law_bag_here", "_law_turn", "_law_plan_here", "_law_made", "_law_times", "_law_due", "_law_told", "_law_far", "_law_eight", "_law_found", "_law_nine", "_law_full"]) (sc := defScope s_law) (by decide +kernel)) (fun _ _ _ _ _ _ _ _ _ hr dx => (de_callD G_join (hr.mono (by omega)) dx (da_cons (de_var 4) (da_cons (de_var 5) da_nil)))))) (dss_one (ds_if (dt_cmp od_is (de_var 6) de_non) (dss_one (ds_if (dt_cmp (od_ne hr.units) (de_var 7) (de_tup (da_cons de_str (da_cons de_int da_nil)))) (dss_one (ds_ret de_bl)) dss_nil)) (dss_one (ds_if (dt_w (dw_or (dt_cmp (od_ne hr.units) (de_ix (de_var 7) de_int) de_str) (dw_or1 (dt_not (dt_val (de_callD G__law_like (hr.mono (by omega)) dx (da_cons (de_lst (da_cons (de_meth0 M_head (hr.mono (by omega)) dx (de_ix (de_var 7) de_int)) (da_cons (de_meth0 M_cycle (hr.mono (by omega)) dx (de_ix (de_var 7) de_int)) da_nil))) (da_cons (de_lst (da_cons (de_ix (de_var 6) de_int) (da_cons (de_ix (de_var 6) de_int) da_nil))) da_nil)))))))) (dss_one (ds_ret de_bl)) dss_nil))))))) (dss_cons (ds_set 8 sc.nd (de_callD G__law_of (hr.mono (by omega)) dx (da_cons (de_var 1) (da_cons (de_lst (da_cons de_int (da_cons de_int (da_cons (de_un ud_neg de_int) (da_cons (de_bin od_pow de_int de_int) da_nil))))) da_nil)))) (dss_one (ds_if (dt_w (dw_or (dt_cmp (od_ne hr.units) (de_tried (o := none) T_tried rfl TB_own rfl hm_own hu_own (hr.mono (by omega)) rfl (lamG_by (N := ["_law_script", "_law_bag_here", "_law_turn", "_law_plan_here", "_law_made", "_law_times", "_law_due", "_law_told", "_law_far", "_law_eight", "_law_found", "_law_nine", "_law_full"]) (sc := defScope s_law) (by decide +kernel)) (fun _ _ _ _ _ _ _ _ _ hr dx => (de_callD G_join (hr.mono (by omega)) dx (da_cons (de_var 4) (da_cons (de_var 8) da_nil))))) (de_tup (da_cons de_str (da_cons (de_var 8) da_nil)))) (dw_or1 (dt_cmp (od_neK M___eq__ KE (hr.mono (by omega))) (de_var 4) (de_callD G__law_clock (hr.mono (by omega)) dx (da_cons (de_var 3) da_nil)))))) (dss_one (ds_ret de_bl)) dss_nil))))))) (dss_cons (ds_set 9 sc.nd (de_make K_Clock (hr.mono (by omega)) dx (da_cons (de_lst da_nil) (da_cons (de_lst (da_cons (de_tup (da_cons (de_bin od_mul (de_tup (da_cons de_int da_nil)) de_int) da_nil)) da_nil)) da_nil)))) (dss_cons (ds_set 10 sc.nd (de_lstL (da_cons (de_callB cd_len T.b_len (by decide +kernel) (da_cons (de_ix (de_meth M_table (hr.mono (by omega)) dx (de_callD G_join (hr.mono (by omega)) dx (da_cons (de_var 9) (da_cons de_int da_nil))) (da_cons de_int da_nil)) de_int) da_nil)) (da_cons (de_ix (de_tried (o := none) T_tried rfl TB_own rfl hm_own hu_own (hr.mono (by omega)) rfl (lamG_by (N := ["_law_script", "_law_bag_here", "_law_turn", "_law_plan_here", "_law_made", "_law_times", "_law_due", "_law_told", "_law_far", "_law_eight", "_law_found", "_law_nine", "_law_full"]) (sc := defScope s_law) (by decide +kernel)) (fun _ _ _ _ _ _ _ _ _ hr dx => (de_callD G_join (hr.mono (by omega)) dx (da_cons (de_var 9) (da_cons de_int da_nil))))) de_int) da_nil)))) (dss_cons (ds_set 11 sc.nd (de_make K_Clock (hr.mono (by omega)) dx (da_cons (de_lst (da_cons (de_tup (da_cons (de_bin od_mul (de_tup (da_cons de_int da_nil)) de_int) da_nil)) da_nil)) (da_cons (de_lst (da_cons (de_tup (da_cons (de_bin od_mul (de_tup (da_cons de_int da_nil)) de_int) da_nil)) (da_cons (de_tup (da_cons (de_bin od_mul (de_tup (da_cons de_int da_nil)) de_int) da_nil)) da_nil))) da_nil)))) (dss_cons (ds_expr (de_append (de_var 10) (de_tried (o := none) T_tried rfl TB_own rfl hm_own hu_own (hr.mono (by omega)) rfl (lamG_by (N := ["_law_script", "_law_bag_here", "_law_turn", "_law_plan_here", "_law_made", "_law_times", "_law_due", "_law_told", "_law_far", "_law_eight", "_law_found", "_law_nine", "_law_full"]) (sc := defScope s_law) (by decide +kernel)) (fun _ _ _ _ _ _ _ _ _ hr dx => (de_callD G_join (hr.mono (by omega)) dx (da_cons (de_var 11) (da_cons de_int da_nil))))))) (dss_cons (ds_set 12 sc.nd (de_make K_Clock (hr.mono (by omega)) dx (da_cons (de_lst da_nil) (da_cons (de_lst (da_cons (de_tup (da_cons (de_bin od_mul (de_tup (da_cons de_int da_nil)) de_int) da_nil)) da_nil)) da_nil)))) (dss_cons (ds_set 10 sc.nd (de_bin od_addLL (de_var 10) (de_lst (da_cons (de_tried (o := none) T_tried rfl TB_own rfl hm_own hu_own (hr.mono (by omega)) rfl (lamG_by (N := ["_law_script", "_law_bag_here", "_law_turn", "_law_plan_here", "_law_made", "_law_times", "_law_due", "_law_told", "_law_far", "_law_eight", "_law_found", "_law_nine", "_law_full"]) (sc := defScope s_law) (by decide +kernel)) (fun _ _ _ _ _ _ _ _ _ hr dx => (de_callD G_join (hr.mono (by omega)) dx (da_cons (de_var 12) (da_cons de_int da_nil))))) (da_cons (de_tried (o := (some ("_law_a", 0))) T_tried rfl TB_own rfl hm_own hu_own (hr.mono (by omega)) ⟨.inl rfl, _, _, _, rfl⟩ (lamG_by (N := ["_law_script", "_law_bag_here", "_law_turn", "_law_plan_here", "_law_made", "_law_times", "_law_due", "_law_told", "_law_far", "_law_eight", "_law_found", "_law_nine", "_law_full"]) (sc := defScope s_law) (by decide +kernel)) (fun _ _ _ _ _ _ _ _ _ hr dx => (de_callD G_join (hr.mono (by omega)) dx (da_cons (de_var 12) (da_cons de_int da_nil))))) da_nil))))) (dss_one (ds_ret (de_callD G__law_like (hr.mono (by omega)) dx (da_cons (de_var 10) (da_cons (de_bin od_add (de_bin od_add (de_lst (da_cons de_int (da_cons de_int da_nil))) (de_bin od_mul (de_lst (da_cons (de_tup (da_cons de_str (da_cons de_int da_nil))) da_nil)) de_int)) (de_lst (da_cons (de_tup (da_cons de_str (da_cons de_int da_nil))) da_nil))) da_nil))))))))))))), ?_⟩
    obtain ⟨ns, rfl, n63, nl0, q⟩ := h
    refine seqG ?_
    walk_at "step"
    refine ⟨ns, rfl, n63, fun p S1 hp hb1 off1 => ?_⟩
    clear nl0
    have mkC : ∀ {S' : Sto} {a : Addr} {d1 d2 : D} {h c : List Tab} {Q' : KD} {X' : Xn → Sto → Prop}, ClkF h c → d1 = .lst (h.map tabD) → d2 = .lst (c.map tabD) → Q' .non ((S'.put a (.ins [])).put a (.clk (h.map tabD) (c.map tabD))) → spInit [.ref a, d1, d2] (S'.put a (.ins [])) Q' X' := fun {S' a d1 d2 h c Q' X'} g z1 z2 hq => by
      have pf := g.planF
      exact ⟨a, d1, d2, h, c, rfl, Sto.put_same, .inr (.inl z1), .inr (.inl z2), pf.c0, pf.le, pf.small, pf.valid, hq⟩
    refine seqC (fun E S2 => (∃ x2 x3 x4 x5 x6 x7 x8 x9 x10 x11 x12, E = [some (.scr (ns.map D.int)), some (.ref p), x2, x3, x4, x5, x6, x7, x8, x9, x10, x11, x12]) ∧ BagAt S2 p) (fun nx hn => ?_) (fun E S2 hR => ?_)
    rotate_left
    · obtain ⟨⟨y2, y3, y4, y5, y6, y7, y8, y9, y10, y11, y12, rfl⟩, hb2⟩ := hR
      have g8 : ClkF [] [[List.replicate 8 0]] := clk_ones (List.cons_ne_nil _ _) (by decide) fun t ht => ⟨8, by decide, by decide, List.mem_singleton.mp ht⟩
      have g9 : ClkF [[List.replicate 8 0]] [[List.replicate 8 0], [List.replicate 9 0]] := clk_ones (List.cons_ne_nil _ _) (by decide) fun t ht => by
        simp only [List.cons_append, List.nil_append, List.mem_cons, List.not_mem_nil, or_false] at ht
        rcases ht with rfl | rfl | rfl
        · exact ⟨8, by decide, by decide, rfl⟩
        · exact ⟨8, by decide, by decide, rfl⟩
        · exact ⟨9, by decide, by decide, rfl⟩
      have g64 : ClkF [] [[List.replicate 64 0]] := clk_ones (List.cons_ne_nil _ _) (by decide) fun t ht => ⟨64, by decide, by decide, List.mem_singleton.mp ht⟩
      have w82 : ¬ wideC [] [[List.replicate 8 0]] 2 := fun z => absurd (wideB_iff.mpr z) (by decide +kernel)
      have w83 : wideC [] [[List.replicate 8 0]] 3 := wideB_iff.mp (by decide +kernel)
      have w92 : wideC [[List.replicate 8 0]] [[List.replicate 8 0], [List.replicate 9 0]] 2 := wideB_iff.mp (by decide +kernel)
      have w642 : wideC [] [[List.replicate 64 0]] 2 := wideB_iff.mp (by decide +kernel)
      have t82 : tabN (joinH [] [[List.replicate 8 0]] 2) (joinC [] [[List.replicate 8 0]] 2) 0 = [List.replicate 64 0] := by decide +kernel
      have no5 : ¬ ((1 : Int) ≤ 5 ∧ (5 : Int) ≤ 4) := by decide
      refine seqG ?_
      walk_at "step"
      obtain ⟨R8, e8⟩ : ∃ R, R = List.replicate 8 (0 : Int) := ⟨_, rfl⟩
      obtain ⟨R9, e9⟩ : ∃ R, R = List.replicate 9 (0 : Int) := ⟨_, rfl⟩
      obtain ⟨R64, e64⟩ : ∃ R, R = List.replicate 64 (0 : Int) := ⟨_, rfl⟩
      have l64 : R64.length = 64 := by rw [e64, List.length_replicate]
      rw [← e8] at g8 g9 w82 w83 w92 t82
      rw [← e9] at g9 w92
      rw [← e64] at g64 w642 t82
      have d8 : D.tup [D.tup (List.replicate (Int.toNat 8) [D.int 0]).flatten] = tabD [R8] := by rw [e8]; exact repD 8
      have d9 : D.tup [D.tup (List.replicate (Int.toNat 9) [D.int 0]).flatten] = tabD [R9] := by rw [e9]; exact repD 9
      have d64 : D.tup [D.tup (List.replicate (Int.toNat 64) [D.int 0]).flatten] = tabD [R64] := by rw [e64]; exact repD 64
      rw [d8]
      refine ⟨by decide, fun a1 ha1 => mkC (h := []) (c := [[R8]]) g8 rfl rfl ?_⟩
      refine ⟨rfl, _, _, Sto.put_same, ?_⟩
      rw [Sto.put_put, Sto.del_put ha1]
      refine seqG ?_
      walk_at "step"
      simp only [wTried]
      walk_at "step"
      refine ⟨[], [[R8]], 2, rfl, g8, fun z => absurd (by decide) z, fun m em _ _ => ?_⟩
      obtain rfl : m = 2 := by omega
      refine ⟨fun wd => absurd wd w82, fun _ => ⟨rfl, _, _, 0, rfl, (join_plan g8 (by decide) w82).c0, ?_⟩⟩
      rw [t82, show tabD [R64] = .tup [.tup (R64.map D.int)] from rfl]
      walk_at "step"
      intro _
      rw [List.length_map, l64]
      refine ⟨[], [[R8]], 3, rfl, g8, fun z => absurd (by decide) z, fun m em _ _ => ?_⟩
      obtain rfl : m = 3 := by omega
      refine ⟨fun _ => ⟨xl _, _, rfl, fld_limit ?_⟩, fun nw => absurd w83 nw⟩
      walk_at "step"
      intro w1 hw1
      refine seqG ?_
      walk_at "step"
      rw [d8, d9]
      refine ⟨by decide, by decide, by decide, fun a2 ha2 => mkC (h := [[R8]]) (c := [[R8], [R9]]) g9 rfl rfl ?_⟩
      refine ⟨rfl, _, _, Sto.put_same, ?_⟩
      rw [Sto.put_put, Sto.del_put ha2]
      refine seqG ?_
      walk_at "step"
      simp only [wTried]
      walk_at "step"
      refine ⟨⟨w1, _, rfl, Sto.put_same⟩, [[R8]], [[R8], [R9]], 2, rfl, g9, fun z => absurd (by decide) z, fun m em _ _ => ?_⟩
      obtain rfl : m = 2 := by omega
      refine ⟨fun _ => ⟨xl _, _, rfl, fld_limit ?_⟩, fun nw => absurd w92 nw⟩
      walk_at "step"
      refine ⟨_, Sto.put_same, by decide, ?_⟩
      rw [Sto.put_put]
      refine seqG ?_
      walk_at "step"
      rw [d64]
      refine ⟨by decide, fun a3 ha3 => mkC (h := []) (c := [[R64]]) g64 rfl rfl ?_⟩
      refine ⟨rfl, _, _, Sto.put_same, ?_⟩
      rw [Sto.put_put, Sto.del_put ha3]
      refine seqG ?_
      walk_at "step"
      simp only [wTried]
      walk_at "step"
      refine ⟨[], [[R64]], 2, rfl, g64, fun z => absurd (by decide) z, fun m em _ _ => ?_⟩
      obtain rfl : m = 2 := by omega
      refine ⟨fun _ => ⟨xl _, _, rfl, fld_limit ?_⟩, fun nw => absurd w642 nw⟩
      walk_at "step"
      refine ⟨[], [[R64]], 5, rfl, g64, fun _ => ⟨xc _, _, rfl, fld_count ?_⟩, fun m em m1 m4 => absurd em (by omega)⟩
      refine ⟨_, Sto.put_same, by rw [PySem.sizeLine_eq]; decide, fun w2 hw2 => ⟨⟨by decide, by decide, by rw [PySem.sizeLine_eq]; decide⟩, by rw [PySem.sizeLine_eq]; decide, by rw [PySem.sizeLine_eq]; decide, ?_⟩⟩
      refine .inr (.inl ⟨w2, [.int 64, .int 64, .tup [.str "limitexceeded", .int 64], .tup [.str "limitexceeded", .int 64], .tup [.str "invalidcount", .int 5]], rfl, Sto.put_same, ((Ok.lst (n := 1) fun d hd => ?_).mono (by decide : 2 ≤ 6)).dat, .now (q _)⟩)
      simp only [List.mem_cons, List.not_mem_nil, or_false] at hd
      have tp : ∀ {t : Str} {e : D}, PyData.strOk t = true → Ok 0 e → Ok 1 (.tup [.str t, e]) := fun {t e} ht he => Ok.tup (n := 0) fun d hd => by
        simp only [List.mem_cons, List.not_mem_nil, or_false] at hd
        rcases hd with rfl | rfl
        · exact Ok.str ht
        · exact he
      rcases hd with rfl | rfl | rfl | rfl | rfl
      · exact Ok.int _
      · exact Ok.int _
      · exact tp (by decide +kernel) (Ok.int _)
      · exact tp (by decide +kernel) (Ok.int _)
      · exact tp (by decide +kernel) (Ok.int _)
    walk_at "step"
    refine ⟨by decide, forL_range (fun i E S2 => (∃ x2 x3 x4 x5 x6 x7 x8 x9 x10 x11 x12, E = [some (.scr (ns.map D.int)), some (.ref p), x2, x3, x4, x5, x6, x7, x8, x9, x10, x11, x12]) ∧ BagAt S2 p) _ _ (fun i E S2 i1 i2 hP nx2 hn2 => ?_) (fun E S2 hP => hn _ _ hP) _ _ ⟨⟨_, _, _, _, _, _, _, _, _, _, _, rfl⟩, hb1⟩⟩
    clear hb1 off1
    obtain ⟨⟨x2, x3, x4, x5, x6, x7, x8, x9, x10, x11, x12, rfl⟩, hb2⟩ := hP
    refine seqG ?_
    walk_at "step"
    refine ⟨p, rfl, hb2, fun h c S3 hb3 off3 pk => ?_⟩
    have g := pk.clkF
    refine seqG ?_
    walk_at "step"
    refine ⟨h, c, rfl, pk.good, ?_⟩
    refine seqC (fun E S4 => (∃ x5 x6 x7, E = [some (.scr (ns.map D.int)), some (.ref p), some (.int i), some (planD h c), some (clkD h c), x5, x6, x7, x8, x9, x10, x11, x12]) ∧ BagAt S4 p) (fun nx3 hn3 => ?_) (fun E S4 hR => ?_)
    · walk_at "step"
      refine ⟨by decide, forL_range (fun k E S4 => (∃ x5 x6 x7, E = [some (.scr (ns.map D.int)), some (.ref p), some (.int i), some (planD h c), some (clkD h c), x5, x6, x7, x8, x9, x10, x11, x12]) ∧ BagAt S4 p) _ _ (fun k E S4 k1 k2 hP nx4 hn4 => ?_) (fun E S4 hP => hn3 _ _ hP) _ _ ⟨⟨_, _, _, rfl⟩, hb3⟩⟩
      clear hb3 off3
      obtain ⟨⟨x5, x6, x7, rfl⟩, hb4⟩ := hP
      obtain ⟨n, rfl⟩ := Int.eq_ofNat_of_zero_le (show 0 ≤ k by omega)
      have n1 : 1 ≤ n := by omega
      have n4 : n ≤ 4 := by omega
      refine seqG ?_
      walk_at "step"
      refine ⟨h, c, n, rfl, g, n1, n4, fun wd => ?_, fun nw => ?_⟩
      · refine seqG ?_
        walk_at "step"
        simp only [wTried]
        walk_at "step"
        refine ⟨h, c, (n : Int), rfl, g, fun z => absurd ⟨by omega, by omega⟩ z, fun m em _ _ => ?_⟩
        obtain rfl : m = n := by omega
        refine ⟨fun _ => ⟨xl _, _, rfl, fld_limit ?_⟩, fun nw => absurd wd nw⟩
        walk_at "step"
        refine dNe_self ((Ok.tup (n := 0) fun d hd => ?_).mono (by decide : 1 ≤ 6)).dat ?_ (by omega)
        · simp only [List.mem_cons, List.not_mem_nil, or_false] at hd
          rcases hd with rfl | rfl
          · exact Ok.str (by decide +kernel)
          · exact Ok.int _
        walk_at "step"
        exact hn4 _ _ ⟨⟨_, _, _, rfl⟩, hb4⟩
      · refine seqG ?_
        walk_at "step"
        simp only [wTried]
        walk_at "step"
        refine ⟨h, c, (n : Int), rfl, g, fun z => absurd ⟨by omega, by omega⟩ z, fun m em _ _ => ?_⟩
        obtain rfl : m = n := by omega
        refine ⟨fun wd => absurd wd nw, fun _ => ?_⟩
        have ep : planD (joinH h c m) (joinC h c m) = .tup [.lst ((joinH h c m).map tabD), .lst ((joinC h c m).map tabD)] := rfl
        rw [ep]
        walk_at "step"
        refine dNe_self ((Ok.str (n := 0) (by decide +kernel)).mono (by decide : 0 ≤ 6)).dat ?_ (by omega)
        walk_at "step"
        refine ⟨rfl, _, _, rfl, fun q0 hq0 => ⟨rfl, _, _, rfl, fun q1 hq1 => ?_⟩⟩
        have nq : q0 ≠ q1 := fun z => by
          rw [← z, Sto.put_same] at hq1
          cases hq1
        have hb6 : BagAt ((S4.put q0 (.lst ((joinH h c m).map tabD))).put q1 (.lst ((joinC h c m).map tabD))) p := (hb4.put hq0).put hq1
        have s0 : ((S4.put q0 (.lst ((joinH h c m).map tabD))).put q1 (.lst ((joinC h c m).map tabD))) q0 = some (.lst ((joinH h c m).map tabD)) := by rw [Sto.put_ne nq, Sto.put_same]
        have s1 : ((S4.put q0 (.lst ((joinH h c m).map tabD))).put q1 (.lst ((joinC h c m).map tabD))) q1 = some (.lst ((joinC h c m).map tabD)) := Sto.put_same
        generalize ((S4.put q0 (.lst ((joinH h c m).map tabD))).put q1 (.lst ((joinC h c m).map tabD))) = S6 at hb6 s0 s1
        have datT : ∀ t : List Tab, Dat 6 (.lst (t.map tabD)) := fun t => ((ok_tabsL t).mono (by decide : 3 ≤ 5)).dat
        refine .inr (.inr ⟨_, _, rfl, rfl, by show 2 ≤ 1000; decide, fun x hx => ?_, ?_⟩)
        · simp only [List.zip_cons_cons, List.zip_nil_right, List.mem_cons, List.not_mem_nil, or_false] at hx
          rcases hx with rfl | rfl
          · exact .inr ⟨q0, _, rfl, rfl, s0, datT _⟩
          · exact .inr ⟨q1, _, rfl, rfl, s1, datT _⟩
        walk_at "step"
        exact hn4 _ _ ⟨⟨_, _, _, rfl⟩, hb6⟩
    · obtain ⟨⟨x5, x6, x7, rfl⟩, hb4⟩ := hR
      refine seqG ?_
      simp only [wAsg, wCall, wCons, wNil, wVar, wLst, wBin, wUn, dNeg_int, wC, dII_int, dPow, dII0_int, List.getElem?_cons_succ, List.getElem?_cons_zero]
      refine ⟨pow10 20, ?_⟩
      have big : (4 : Int) < 10 ^ (20 : Int).toNat := by decide +kernel
      refine ⟨by rw [PySem.sizeLine_eq]; show 4 ≤ 16777216; decide, ?_⟩
      refine ⟨p, _, rfl, hb4, by show 0 < 4; decide, by show 4 < 2 ^ 62; decide, fun x S6 hb6 off6 hx => ?_⟩
      obtain ⟨far, rfl, nfar⟩ : ∃ far : Int, x = .int far ∧ ¬ (1 ≤ far ∧ far ≤ 4) := by
        simp only [List.mem_cons, List.not_mem_nil, or_false] at hx
        rcases hx with rfl | rfl | rfl | rfl
        · exact ⟨_, rfl, by omega⟩
        · exact ⟨_, rfl, by omega⟩
        · exact ⟨_, rfl, by omega⟩
        · exact ⟨_, rfl, by omega⟩
      clear hx
      walk_at "step"
      simp only [wTried]
      walk_at "step"
      refine ⟨h, c, far, rfl, g, fun _ => ⟨xc _, _, rfl, fld_count ?_⟩, fun m em m1 m4 => absurd ⟨by omega, by omega⟩ nfar⟩
      refine dNe_self ((Ok.tup (n := 0) fun d hd => ?_).mono (by decide : 1 ≤ 6)).dat ?_ (by omega)
      · simp only [List.mem_cons, List.not_mem_nil, or_false] at hd
        rcases hd with rfl | rfl
        · exact Ok.str (by decide +kernel)
        · exact Ok.int _
      walk_at "step"
      refine ⟨h, c, rfl, pk.good, ?_⟩
      walk_at "step"
      refine ⟨h, c, _, rfl, .inl ⟨h, c, rfl, ?_⟩⟩
      rw [decide_eq_true ⟨rfl, rfl⟩]
      walk_at "step"
      exact ⟨true, rfl, hn2 _ _ ⟨⟨_, _, _, _, _, _, _, _, _, _, _, rfl⟩, hb6⟩⟩
end
abbrev s__law_tried : Stmt := topS 28
theorem sc__law_tried : FnScope ["_law_ask", "_law_e"] ["_law_ask"] (defScope s__law_tried) := ⟨rfl, rfl, rfl, by decide +kernel, rfl, by decide +kernel, by decide +kernel⟩
abbrev s_LimitExceeded___init__ : Stmt := inClass (topS 6) 0
theorem sc_LimitExceeded___init__ : FnScope ["self", "limit"] ["self", "limit"] (defScope s_LimitExceeded___init__) := ⟨rfl, rfl, rfl, by decide +kernel, rfl, by decide +kernel, by decide +kernel⟩
abbrev s_InvalidCount___init__ : Stmt := inClass (topS 8) 0
theorem sc_InvalidCount___init__ : FnScope ["self", "count"] ["self", "count"] (defScope s_InvalidCount___init__) := ⟨rfl, rfl, rfl, by decide +kernel, rfl, by decide +kernel, by decide +kernel⟩
theorem all_mk {l : PySem.W.OpenLaw} {w : World} {K : PySem.W.Frag} {h : Heap} {mg : Str → Option Value} {fa f0 f1 f2 f3 f4 f5 f6 f7 f8 f9 f10 f11 f12 f13 f14 f15 f16 f17 f18 f19 f20 f21 f22 f23 f24 f25 ck hang absent ft ff cdL PT cdF PF xLimitExceeded xiLimitExceeded xInvalidCount xiInvalidCount : Addr} (X : K.In h) (G : h.Ns mainGlobals mg) (hfa : mg "law" = some (.ref fa))
    (aC : PySem.W.nsIn K mainGlobals "Clock" = some (some (.ref ck)))
    (pg : PySem.W.plainGet K ck Str.empty = true)
    (hd : PySem.W.hasDictIn K ck = true)
    (po : PySem.W.plainOver K ck = true)
    (sa : PySem.W.findIn K (.ref ck) "__setattr__" = some (some (.builtin "object.__setattr__")))
    (mk : PySem.W.makesIn K ck = true)
    (kc : PySem.W.keepIn K (.ref ck) = true)
    (n_head_tables : PySem.W.findIn K (.ref ck) "head_tables" = some none)
    (n_cycle_tables : PySem.W.findIn K (.ref ck) "cycle_tables" = some none)
    (n_levels : PySem.W.findIn K (.ref ck) "levels" = some none)
    (ha : PySem.W.findIn K (.ref ck) "__class__" = some (some (.builtin "object.__class__")))
    (hn : PySem.W.specialIn K (.builtin "object.__class__") "__get__" = some (some (.builtin "getset_descriptor.__get__")))
    (htk : PySem.W.takesIn K (.builtin "object.__class__") = some true)
    (hmo : PySem.W.mroIn K ck (.type "object") = some true)
    (isC : PySem.W.isClsIn K ck = true)
    (tyC : PySem.W.typeIn K (.ref ck) = some (.type "type"))
    (ne_ : PySem.W.findIn K (.ref ck) "__ne__" = some (some (.builtin "object.__ne__")))
    (su_NoneType : PySem.W.subIn K (.ref ck) (.type "NoneType") = some false)
    (su_int : PySem.W.subIn K (.ref ck) (.type "int") = some false)
    (su_str : PySem.W.subIn K (.ref ck) (.type "str") = some false)
    (su_tuple : PySem.W.subIn K (.ref ck) (.type "tuple") = some false)
    (a0 : PySem.W.nsIn K mainGlobals "common_multiple" = some (some (.ref f0)))
    {od0 an0 : Option Addr} {sl0 : Array (Option Value)} {oc0 kV0 dc0 pm0 ct0 : Value} {cd0 : Value}
    (l0 : K.lookup f0 = some ⟨oc0, od0, .func (PySem.W.fnOf "common_multiple" "common_multiple" (defArgs s_common_multiple) (defBody s_common_multiple) (defScope s_common_multiple) .none kV0 dc0 pm0 an0 cd0 ct0), sl0⟩)
    (c0 : PySem.W.codeIn K cd0 "common_multiple" = true)
    (k0 : PySem.W.keepIn K (.ref f0) = true)
    (a1 : PySem.W.nsIn K mainGlobals "row_fits" = some (some (.ref f1)))
    {od1 an1 : Option Addr} {sl1 : Array (Option Value)} {oc1 kV1 dc1 pm1 ct1 : Value} {cd1 : Value}
    (l1 : K.lookup f1 = some ⟨oc1, od1, .func (PySem.W.fnOf "row_fits" "row_fits" (defArgs s_row_fits) (defBody s_row_fits) (defScope s_row_fits) .none kV1 dc1 pm1 an1 cd1 ct1), sl1⟩)
    (c1 : PySem.W.codeIn K cd1 "row_fits" = true)
    (k1 : PySem.W.keepIn K (.ref f1) = true)
    (a2 : PySem.W.nsIn K mainGlobals "table_fits" = some (some (.ref f2)))
    {od2 an2 : Option Addr} {sl2 : Array (Option Value)} {oc2 kV2 dc2 pm2 ct2 : Value} {cd2 : Value}
    (l2 : K.lookup f2 = some ⟨oc2, od2, .func (PySem.W.fnOf "table_fits" "table_fits" (defArgs s_table_fits) (defBody s_table_fits) (defScope s_table_fits) .none kV2 dc2 pm2 an2 cd2 ct2), sl2⟩)
    (c2 : PySem.W.codeIn K cd2 "table_fits" = true)
    (k2 : PySem.W.keepIn K (.ref f2) = true)
    (a3 : PySem.W.nsIn K mainGlobals "check_tables" = some (some (.ref f3)))
    {od3 an3 : Option Addr} {sl3 : Array (Option Value)} {oc3 kV3 dc3 pm3 ct3 : Value} {cd3 : Value}
    (l3 : K.lookup f3 = some ⟨oc3, od3, .func (PySem.W.fnOf "check_tables" "check_tables" (defArgs s_check_tables) (defBody s_check_tables) (defScope s_check_tables) .none kV3 dc3 pm3 an3 cd3 ct3), sl3⟩)
    (c3 : PySem.W.codeIn K cd3 "check_tables" = true)
    (k3 : PySem.W.keepIn K (.ref f3) = true)
    (a4 : PySem.W.findIn K (.ref ck) "__init__" = some (some (.ref f4)))
    (i4 : PySem.W.isFn K (.ref f4) = true)
    {od4 an4 : Option Addr} {sl4 : Array (Option Value)} {oc4 kV4 dc4 pm4 ct4 : Value} {cd4 : Value}
    (l4 : K.lookup f4 = some ⟨oc4, od4, .func (PySem.W.fnOf "__init__" "Clock.__init__" (defArgs s_Clock___init__) (defBody s_Clock___init__) (defScope s_Clock___init__) .none kV4 dc4 pm4 an4 cd4 ct4), sl4⟩)
    (c4 : PySem.W.codeIn K cd4 "Clock.__init__" = true)
    (k4 : PySem.W.keepIn K (.ref f4) = true)
    (a5 : PySem.W.findIn K (.ref ck) "table" = some (some (.ref f5)))
    (i5 : PySem.W.isFn K (.ref f5) = true)
    {od5 an5 : Option Addr} {sl5 : Array (Option Value)} {oc5 kV5 dc5 pm5 ct5 : Value} {cd5 : Value}
    (l5 : K.lookup f5 = some ⟨oc5, od5, .func (PySem.W.fnOf "table" "Clock.table" (defArgs s_Clock_table) (defBody s_Clock_table) (defScope s_Clock_table) .none kV5 dc5 pm5 an5 cd5 ct5), sl5⟩)
    (c5 : PySem.W.codeIn K cd5 "Clock.table" = true)
    (k5 : PySem.W.keepIn K (.ref f5) = true)
    (a6 : PySem.W.findIn K (.ref ck) "rooms" = some (some (.ref f6)))
    (i6 : PySem.W.isFn K (.ref f6) = true)
    {od6 an6 : Option Addr} {sl6 : Array (Option Value)} {oc6 kV6 dc6 pm6 ct6 : Value} {cd6 : Value}
    (l6 : K.lookup f6 = some ⟨oc6, od6, .func (PySem.W.fnOf "rooms" "Clock.rooms" (defArgs s_Clock_rooms) (defBody s_Clock_rooms) (defScope s_Clock_rooms) .none kV6 dc6 pm6 an6 cd6 ct6), sl6⟩)
    (c6 : PySem.W.codeIn K cd6 "Clock.rooms" = true)
    (k6 : PySem.W.keepIn K (.ref f6) = true)
    (a7 : PySem.W.nsIn K mainGlobals "_law_bag" = some (some (.ref f7)))
    {od7 an7 : Option Addr} {sl7 : Array (Option Value)} {oc7 kV7 dc7 pm7 ct7 : Value} {cd7 : Value}
    (l7 : K.lookup f7 = some ⟨oc7, od7, .func (PySem.W.fnOf "_law_bag" "_law_bag" (defArgs s__law_bag) (defBody s__law_bag) (defScope s__law_bag) .none kV7 dc7 pm7 an7 cd7 ct7), sl7⟩)
    (c7 : PySem.W.codeIn K cd7 "_law_bag" = true)
    (k7 : PySem.W.keepIn K (.ref f7) = true)
    (a8 : PySem.W.nsIn K mainGlobals "_law_pull" = some (some (.ref f8)))
    {od8 an8 : Option Addr} {sl8 : Array (Option Value)} {oc8 kV8 dc8 pm8 ct8 : Value} {cd8 : Value}
    (l8 : K.lookup f8 = some ⟨oc8, od8, .func (PySem.W.fnOf "_law_pull" "_law_pull" (defArgs s__law_pull) (defBody s__law_pull) (defScope s__law_pull) .none kV8 dc8 pm8 an8 cd8 ct8), sl8⟩)
    (c8 : PySem.W.codeIn K cd8 "_law_pull" = true)
    (k8 : PySem.W.keepIn K (.ref f8) = true)
    (a9 : PySem.W.nsIn K mainGlobals "_law_of" = some (some (.ref f9)))
    {od9 an9 : Option Addr} {sl9 : Array (Option Value)} {oc9 kV9 dc9 pm9 ct9 : Value} {cd9 : Value}
    (l9 : K.lookup f9 = some ⟨oc9, od9, .func (PySem.W.fnOf "_law_of" "_law_of" (defArgs s__law_of) (defBody s__law_of) (defScope s__law_of) .none kV9 dc9 pm9 an9 cd9 ct9), sl9⟩)
    (c9 : PySem.W.codeIn K cd9 "_law_of" = true)
    (k9 : PySem.W.keepIn K (.ref f9) = true)
    (a10 : PySem.W.nsIn K mainGlobals "_law_like" = some (some (.ref f10)))
    {od10 an10 : Option Addr} {sl10 : Array (Option Value)} {oc10 kV10 dc10 pm10 ct10 : Value} {cd10 : Value}
    (l10 : K.lookup f10 = some ⟨oc10, od10, .func (PySem.W.fnOf "_law_like" "_law_like" (defArgs s__law_like) (defBody s__law_like) (defScope s__law_like) .none kV10 dc10 pm10 an10 cd10 ct10), sl10⟩)
    (c10 : PySem.W.codeIn K cd10 "_law_like" = true)
    (k10 : PySem.W.keepIn K (.ref f10) = true)
    (a11 : PySem.W.nsIn K mainGlobals "_law_lcm" = some (some (.ref f11)))
    {od11 an11 : Option Addr} {sl11 : Array (Option Value)} {oc11 kV11 dc11 pm11 ct11 : Value} {cd11 : Value}
    (l11 : K.lookup f11 = some ⟨oc11, od11, .func (PySem.W.fnOf "_law_lcm" "_law_lcm" (defArgs s__law_lcm) (defBody s__law_lcm) (defScope s__law_lcm) .none kV11 dc11 pm11 an11 cd11 ct11), sl11⟩)
    (c11 : PySem.W.codeIn K cd11 "_law_lcm" = true)
    (k11 : PySem.W.keepIn K (.ref f11) = true)
    (a12 : PySem.W.nsIn K mainGlobals "_law_table" = some (some (.ref f12)))
    {od12 an12 : Option Addr} {sl12 : Array (Option Value)} {oc12 kV12 dc12 pm12 ct12 : Value} {cd12 : Value}
    (l12 : K.lookup f12 = some ⟨oc12, od12, .func (PySem.W.fnOf "_law_table" "_law_table" (defArgs s__law_table) (defBody s__law_table) (defScope s__law_table) .none kV12 dc12 pm12 an12 cd12 ct12), sl12⟩)
    (c12 : PySem.W.codeIn K cd12 "_law_table" = true)
    (k12 : PySem.W.keepIn K (.ref f12) = true)
    (a13 : PySem.W.nsIn K mainGlobals "_law_plan" = some (some (.ref f13)))
    {od13 an13 : Option Addr} {sl13 : Array (Option Value)} {oc13 kV13 dc13 pm13 ct13 : Value} {cd13 : Value}
    (l13 : K.lookup f13 = some ⟨oc13, od13, .func (PySem.W.fnOf "_law_plan" "_law_plan" (defArgs s__law_plan) (defBody s__law_plan) (defScope s__law_plan) .none kV13 dc13 pm13 an13 cd13 ct13), sl13⟩)
    (c13 : PySem.W.codeIn K cd13 "_law_plan" = true)
    (k13 : PySem.W.keepIn K (.ref f13) = true)
    (a14 : PySem.W.nsIn K mainGlobals "_law_clock" = some (some (.ref f14)))
    {od14 an14 : Option Addr} {sl14 : Array (Option Value)} {oc14 kV14 dc14 pm14 ct14 : Value} {cd14 : Value}
    (l14 : K.lookup f14 = some ⟨oc14, od14, .func (PySem.W.fnOf "_law_clock" "_law_clock" (defArgs s__law_clock) (defBody s__law_clock) (defScope s__law_clock) .none kV14 dc14 pm14 an14 cd14 ct14), sl14⟩)
    (c14 : PySem.W.codeIn K cd14 "_law_clock" = true)
    (k14 : PySem.W.keepIn K (.ref f14) = true)
    (a15 : PySem.W.nsIn K mainGlobals "_law_table_at" = some (some (.ref f15)))
    {od15 an15 : Option Addr} {sl15 : Array (Option Value)} {oc15 kV15 dc15 pm15 ct15 : Value} {cd15 : Value}
    (l15 : K.lookup f15 = some ⟨oc15, od15, .func (PySem.W.fnOf "_law_table_at" "_law_table_at" (defArgs s__law_table_at) (defBody s__law_table_at) (defScope s__law_table_at) .none kV15 dc15 pm15 an15 cd15 ct15), sl15⟩)
    (c15 : PySem.W.codeIn K cd15 "_law_table_at" = true)
    (k15 : PySem.W.keepIn K (.ref f15) = true)
    (a16 : PySem.W.findIn K (.ref ck) "__len__" = some (some (.ref f16)))
    (i16 : PySem.W.isFn K (.ref f16) = true)
    {od16 an16 : Option Addr} {sl16 : Array (Option Value)} {oc16 kV16 dc16 pm16 ct16 : Value} {cd16 : Value}
    (l16 : K.lookup f16 = some ⟨oc16, od16, .func (PySem.W.fnOf "__len__" "Clock.__len__" (defArgs s_Clock___len__) (defBody s_Clock___len__) (defScope s_Clock___len__) .none kV16 dc16 pm16 an16 cd16 ct16), sl16⟩)
    (c16 : PySem.W.codeIn K cd16 "Clock.__len__" = true)
    (k16 : PySem.W.keepIn K (.ref f16) = true)
    (a17 : PySem.W.findIn K (.ref ck) "__repr__" = some (some (.ref f17)))
    (i17 : PySem.W.isFn K (.ref f17) = true)
    {od17 an17 : Option Addr} {sl17 : Array (Option Value)} {oc17 kV17 dc17 pm17 ct17 : Value} {cd17 : Value}
    (l17 : K.lookup f17 = some ⟨oc17, od17, .func (PySem.W.fnOf "__repr__" "Clock.__repr__" (defArgs s_Clock___repr__) (defBody s_Clock___repr__) (defScope s_Clock___repr__) .none kV17 dc17 pm17 an17 cd17 ct17), sl17⟩)
    (c17 : PySem.W.codeIn K cd17 "Clock.__repr__" = true)
    (k17 : PySem.W.keepIn K (.ref f17) = true)
    (a18 : PySem.W.findIn K (.ref ck) "head" = some (some (.ref f18)))
    (i18 : PySem.W.isFn K (.ref f18) = true)
    {od18 an18 : Option Addr} {sl18 : Array (Option Value)} {oc18 kV18 dc18 pm18 ct18 : Value} {cd18 : Value}
    (l18 : K.lookup f18 = some ⟨oc18, od18, .func (PySem.W.fnOf "head" "Clock.head" (defArgs s_Clock_head) (defBody s_Clock_head) (defScope s_Clock_head) .none kV18 dc18 pm18 an18 cd18 ct18), sl18⟩)
    (c18 : PySem.W.codeIn K cd18 "Clock.head" = true)
    (k18 : PySem.W.keepIn K (.ref f18) = true)
    (a19 : PySem.W.findIn K (.ref ck) "cycle" = some (some (.ref f19)))
    (i19 : PySem.W.isFn K (.ref f19) = true)
    {od19 an19 : Option Addr} {sl19 : Array (Option Value)} {oc19 kV19 dc19 pm19 ct19 : Value} {cd19 : Value}
    (l19 : K.lookup f19 = some ⟨oc19, od19, .func (PySem.W.fnOf "cycle" "Clock.cycle" (defArgs s_Clock_cycle) (defBody s_Clock_cycle) (defScope s_Clock_cycle) .none kV19 dc19 pm19 an19 cd19 ct19), sl19⟩)
    (c19 : PySem.W.codeIn K cd19 "Clock.cycle" = true)
    (k19 : PySem.W.keepIn K (.ref f19) = true)
    (a20 : PySem.W.findIn K (.ref ck) "__eq__" = some (some (.ref f20)))
    (i20 : PySem.W.isFn K (.ref f20) = true)
    {od20 an20 : Option Addr} {sl20 : Array (Option Value)} {oc20 kV20 dc20 pm20 ct20 : Value} {cd20 : Value}
    (l20 : K.lookup f20 = some ⟨oc20, od20, .func (PySem.W.fnOf "__eq__" "Clock.__eq__" (defArgs s_Clock___eq__) (defBody s_Clock___eq__) (defScope s_Clock___eq__) .none kV20 dc20 pm20 an20 cd20 ct20), sl20⟩)
    (c20 : PySem.W.codeIn K cd20 "Clock.__eq__" = true)
    (k20 : PySem.W.keepIn K (.ref f20) = true)
    (a21 : PySem.W.nsIn K mainGlobals "joined_table" = some (some (.ref f21)))
    {od21 an21 : Option Addr} {sl21 : Array (Option Value)} {oc21 kV21 dc21 pm21 ct21 : Value} {cd21 : Value}
    (l21 : K.lookup f21 = some ⟨oc21, od21, .func (PySem.W.fnOf "joined_table" "joined_table" (defArgs s_joined_table) (defBody s_joined_table) (defScope s_joined_table) .none kV21 dc21 pm21 an21 cd21 ct21), sl21⟩)
    (c21 : PySem.W.codeIn K cd21 "joined_table" = true)
    (k21 : PySem.W.keepIn K (.ref f21) = true)
    (a22 : PySem.W.nsIn K mainGlobals "join" = some (some (.ref f22)))
    {od22 an22 : Option Addr} {sl22 : Array (Option Value)} {oc22 kV22 dc22 pm22 ct22 : Value} {cd22 : Value}
    (l22 : K.lookup f22 = some ⟨oc22, od22, .func (PySem.W.fnOf "join" "join" (defArgs s_join) (defBody s_join) (defScope s_join) .none kV22 dc22 pm22 an22 cd22 ct22), sl22⟩)
    (c22 : PySem.W.codeIn K cd22 "join" = true)
    (k22 : PySem.W.keepIn K (.ref f22) = true)
    (a23 : PySem.W.nsIn K mainGlobals "_law_joined_table" = some (some (.ref f23)))
    {od23 an23 : Option Addr} {sl23 : Array (Option Value)} {oc23 kV23 dc23 pm23 ct23 : Value} {cd23 : Value}
    (l23 : K.lookup f23 = some ⟨oc23, od23, .func (PySem.W.fnOf "_law_joined_table" "_law_joined_table" (defArgs s__law_joined_table) (defBody s__law_joined_table) (defScope s__law_joined_table) .none kV23 dc23 pm23 an23 cd23 ct23), sl23⟩)
    (c23 : PySem.W.codeIn K cd23 "_law_joined_table" = true)
    (k23 : PySem.W.keepIn K (.ref f23) = true)
    (a24 : PySem.W.nsIn K mainGlobals "_law_joined" = some (some (.ref f24)))
    {od24 an24 : Option Addr} {sl24 : Array (Option Value)} {oc24 kV24 dc24 pm24 ct24 : Value} {cd24 : Value}
    (l24 : K.lookup f24 = some ⟨oc24, od24, .func (PySem.W.fnOf "_law_joined" "_law_joined" (defArgs s__law_joined) (defBody s__law_joined) (defScope s__law_joined) .none kV24 dc24 pm24 an24 cd24 ct24), sl24⟩)
    (c24 : PySem.W.codeIn K cd24 "_law_joined" = true)
    (k24 : PySem.W.keepIn K (.ref f24) = true)
    (a25 : PySem.W.nsIn K mainGlobals "law" = some (some (.ref f25)))
    {od25 an25 : Option Addr} {sl25 : Array (Option Value)} {oc25 kV25 dc25 pm25 ct25 : Value}
    (l25 : K.lookup f25 = some ⟨oc25, od25, .func (PySem.W.fnOf "law" "law" (defArgs s_law) (defBody s_law) (defScope s_law) .none kV25 dc25 pm25 an25 (.ref cdL) ct25), sl25⟩)
    (c25 : PySem.W.codeIn K (.ref cdL) "law" = true)
    (k25 : PySem.W.keepIn K (.ref f25) = true)
    (aH : PySem.W.nsIn K mainGlobals "HangError" = some (some (.ref hang)))
    (aA : PySem.W.nsIn K mainGlobals "Absent" = some (some (.ref absent)))
    (aft : PySem.W.nsIn K mainGlobals "_law_tried" = some (some (.ref ft)))
    {odft anft : Option Addr} {slft : Array (Option Value)} {ocft kVft dcft pmft ctft : Value} {cdft : Value}
    (lft : K.lookup ft = some ⟨ocft, odft, .func (PySem.W.fnOf "_law_tried" "_law_tried" (defArgs s__law_tried) (defBody s__law_tried) (defScope s__law_tried) .none kVft dcft pmft anft cdft ctft), slft⟩)
    (cft : PySem.W.codeIn K cdft "_law_tried" = true)
    (kft : PySem.W.keepIn K (.ref ft) = true)
    (aff : PySem.W.nsIn K mainGlobals "_law_field" = some (some (.ref ff)))
    {odff anff : Option Addr} {slff : Array (Option Value)} {ocff kVff dcff pmff ctff : Value}
    (lff : K.lookup ff = some ⟨ocff, odff, .func (PySem.W.fnOf "_law_field" "_law_field" (defArgs s__law_field) (defBody s__law_field) (defScope s__law_field) .none kVff dcff pmff anff (.ref cdF) ctff), slff⟩)
    (cff : PySem.W.codeIn K (.ref cdF) "_law_field" = true)
    (kff : PySem.W.keepIn K (.ref ff) = true)
    (hg1 : PySem.W.subIn K (.ref hang) (.type "BaseException") = some true)
    (hg2 : PySem.W.hasDictIn K hang = true)
    (hg3 : PySem.W.typeIn K (.ref hang) = some (.type "type"))
    {vsL : Array Value} {ddL : Option Addr} {slL : Array (Option Value)}
    (lcL : K.lookup cdL = some ⟨.type "code", ddL, .fields vsL, slL⟩)
    (v11L : vsL[11]? = some (.ref PT))
    (v18L : ∃ f t, vsL.getD 18 .none = .str f t)
    (v7L : ∃ f t, vsL.getD 7 .none = .int f t)
    (v9L : ∃ f, vsL.getD 9 .none = .bool f)
    (v10L : ∃ f t, vsL.getD 10 .none = .int f t)
    (neL : cdL ≠ PT)
    (nL : K.lookup PT = none)
    (hL : h.get? PT = some (PySem.W.tabObj #[]))
    {vsF : Array Value} {ddF : Option Addr} {slF : Array (Option Value)}
    (lcF : K.lookup cdF = some ⟨.type "code", ddF, .fields vsF, slF⟩)
    (v11F : vsF[11]? = some (.ref PF))
    (v18F : ∃ f t, vsF.getD 18 .none = .str f t)
    (v7F : ∃ f t, vsF.getD 7 .none = .int f t)
    (v9F : ∃ f, vsF.getD 9 .none = .bool f)
    (v10F : ∃ f t, vsF.getD 10 .none = .int f t)
    (neF : cdF ≠ PF)
    (nF : K.lookup PF = none)
    (hF : h.get? PF = some (PySem.W.tabObj #[]))
    (neP : PT ≠ PF)
    {nmLimitExceeded qLimitExceeded : Str} {NLimitExceeded : Addr} {bsLimitExceeded bmLimitExceeded : _} {snLimitExceeded subLimitExceeded abLimitExceeded colLimitExceeded : _} {ddLimitExceeded k0LimitExceeded k1LimitExceeded k2LimitExceeded k3LimitExceeded k5LimitExceeded : _}
    (eLimitExceeded : PySem.W.nsIn K mainGlobals "LimitExceeded" = some (some (.ref xLimitExceeded)))
    (elLimitExceeded : K.lookup xLimitExceeded = some (excClassObj nmLimitExceeded qLimitExceeded xLimitExceeded NLimitExceeded bsLimitExceeded bmLimitExceeded true snLimitExceeded subLimitExceeded abLimitExceeded colLimitExceeded ddLimitExceeded k0LimitExceeded k1LimitExceeded k2LimitExceeded k3LimitExceeded k5LimitExceeded "ValueError.__new__"))
    (evLimitExceeded : PySem.HandSPX.refsVE bmLimitExceeded = true)
    (esLimitExceeded : PySem.W.findIn K (.ref xLimitExceeded) "__setattr__" = some (some (.builtin "object.__setattr__")))
    (eeLimitExceeded : PySem.W.subIn K (.ref xLimitExceeded) (.type "BaseException") = some true)
    (etLimitExceeded : PySem.W.typeIn K (.ref xLimitExceeded) = some (.type "type"))
    (ekLimitExceeded : PySem.W.keepIn K (.ref xLimitExceeded) = true)
    (egLimitExceeded : PySem.W.findIn K (.ref xLimitExceeded) "__getattribute__" = some (some (.builtin "BaseException.__getattribute__")))
    (eaLimitExceeded : PySem.W.findIn K (.ref xLimitExceeded) "__getattr__" = some none)
    (edLimitExceeded : PySem.W.hasDictIn K xLimitExceeded = true)
    (ehLimitExceeded : PySem.W.subIn K (.ref xLimitExceeded) (.ref hang) = some true)
    (ewLimitExceeded : PySem.W.findIn K (.ref xLimitExceeded) "word" = some none)
    (efLimitExceeded : PySem.W.findIn K (.ref xLimitExceeded) "limit" = some none)
    (eiLimitExceeded : PySem.W.findIn K (.ref xLimitExceeded) "__init__" = some (some (.ref xiLimitExceeded)))
    (ejLimitExceeded : PySem.W.typeIn K (.ref xiLimitExceeded) = some (.type "function"))
    {odxiLimitExceeded anxiLimitExceeded : Option Addr} {slxiLimitExceeded : Array (Option Value)} {ocxiLimitExceeded kVxiLimitExceeded dcxiLimitExceeded pmxiLimitExceeded ctxiLimitExceeded : Value} {cdxiLimitExceeded : Value}
    (lxiLimitExceeded : K.lookup xiLimitExceeded = some ⟨ocxiLimitExceeded, odxiLimitExceeded, .func (PySem.W.fnOf "__init__" "LimitExceeded.__init__" (defArgs s_LimitExceeded___init__) (defBody s_LimitExceeded___init__) (defScope s_LimitExceeded___init__) .none kVxiLimitExceeded dcxiLimitExceeded pmxiLimitExceeded anxiLimitExceeded cdxiLimitExceeded ctxiLimitExceeded), slxiLimitExceeded⟩)
    (cxiLimitExceeded : PySem.W.codeIn K cdxiLimitExceeded "LimitExceeded.__init__" = true)
    (kxiLimitExceeded : PySem.W.keepIn K (.ref xiLimitExceeded) = true)
    {nmInvalidCount qInvalidCount : Str} {NInvalidCount : Addr} {bsInvalidCount bmInvalidCount : _} {snInvalidCount subInvalidCount abInvalidCount colInvalidCount : _} {ddInvalidCount k0InvalidCount k1InvalidCount k2InvalidCount k3InvalidCount k5InvalidCount : _}
    (eInvalidCount : PySem.W.nsIn K mainGlobals "InvalidCount" = some (some (.ref xInvalidCount)))
    (elInvalidCount : K.lookup xInvalidCount = some (excClassObj nmInvalidCount qInvalidCount xInvalidCount NInvalidCount bsInvalidCount bmInvalidCount true snInvalidCount subInvalidCount abInvalidCount colInvalidCount ddInvalidCount k0InvalidCount k1InvalidCount k2InvalidCount k3InvalidCount k5InvalidCount "ValueError.__new__"))
    (evInvalidCount : PySem.HandSPX.refsVE bmInvalidCount = true)
    (esInvalidCount : PySem.W.findIn K (.ref xInvalidCount) "__setattr__" = some (some (.builtin "object.__setattr__")))
    (eeInvalidCount : PySem.W.subIn K (.ref xInvalidCount) (.type "BaseException") = some true)
    (etInvalidCount : PySem.W.typeIn K (.ref xInvalidCount) = some (.type "type"))
    (ekInvalidCount : PySem.W.keepIn K (.ref xInvalidCount) = true)
    (egInvalidCount : PySem.W.findIn K (.ref xInvalidCount) "__getattribute__" = some (some (.builtin "BaseException.__getattribute__")))
    (eaInvalidCount : PySem.W.findIn K (.ref xInvalidCount) "__getattr__" = some none)
    (edInvalidCount : PySem.W.hasDictIn K xInvalidCount = true)
    (ehInvalidCount : PySem.W.subIn K (.ref xInvalidCount) (.ref hang) = some true)
    (ewInvalidCount : PySem.W.findIn K (.ref xInvalidCount) "word" = some none)
    (efInvalidCount : PySem.W.findIn K (.ref xInvalidCount) "count" = some none)
    (eiInvalidCount : PySem.W.findIn K (.ref xInvalidCount) "__init__" = some (some (.ref xiInvalidCount)))
    (ejInvalidCount : PySem.W.typeIn K (.ref xiInvalidCount) = some (.type "function"))
    {odxiInvalidCount anxiInvalidCount : Option Addr} {slxiInvalidCount : Array (Option Value)} {ocxiInvalidCount kVxiInvalidCount dcxiInvalidCount pmxiInvalidCount ctxiInvalidCount : Value} {cdxiInvalidCount : Value}
    (lxiInvalidCount : K.lookup xiInvalidCount = some ⟨ocxiInvalidCount, odxiInvalidCount, .func (PySem.W.fnOf "__init__" "InvalidCount.__init__" (defArgs s_InvalidCount___init__) (defBody s_InvalidCount___init__) (defScope s_InvalidCount___init__) .none kVxiInvalidCount dcxiInvalidCount pmxiInvalidCount anxiInvalidCount cdxiInvalidCount ctxiInvalidCount), slxiInvalidCount⟩)
    (cxiInvalidCount : PySem.W.codeIn K cdxiInvalidCount "InvalidCount.__init__" = true)
    (kxiInvalidCount : PySem.W.keepIn K (.ref xiInvalidCount) = true)
    (z_abs : PySem.W.nsIn K mainGlobals "abs" = some none)
    (z_all : PySem.W.nsIn K mainGlobals "all" = some none)
    (z_any : PySem.W.nsIn K mainGlobals "any" = some none)
    (z_bool : PySem.W.nsIn K mainGlobals "bool" = some none)
    (z_enumerate : PySem.W.nsIn K mainGlobals "enumerate" = some none)
    (z_int : PySem.W.nsIn K mainGlobals "int" = some none)
    (z_isinstance : PySem.W.nsIn K mainGlobals "isinstance" = some none)
    (z_len : PySem.W.nsIn K mainGlobals "len" = some none)
    (z_list : PySem.W.nsIn K mainGlobals "list" = some none)
    (z_max : PySem.W.nsIn K mainGlobals "max" = some none)
    (z_min : PySem.W.nsIn K mainGlobals "min" = some none)
    (z_range : PySem.W.nsIn K mainGlobals "range" = some none)
    (z_repr : PySem.W.nsIn K mainGlobals "repr" = some none)
    (z_set : PySem.W.nsIn K mainGlobals "set" = some none)
    (z_sorted : PySem.W.nsIn K mainGlobals "sorted" = some none)
    (z_str : PySem.W.nsIn K mainGlobals "str" = some none)
    (z_sum : PySem.W.nsIn K mainGlobals "sum" = some none)
    (z_tuple : PySem.W.nsIn K mainGlobals "tuple" = some none)
    (z_zip : PySem.W.nsIn K mainGlobals "zip" = some none)
    {t_MAX_DOORS : Tok}
    (z_MAX_DOORS : PySem.W.nsIn K mainGlobals "MAX_DOORS" = some (some (.int 64 t_MAX_DOORS)))
    {t_MAX_ROOMS : Tok}
    (z_MAX_ROOMS : PySem.W.nsIn K mainGlobals "MAX_ROOMS" = some (some (.int 8 t_MAX_ROOMS)))
    {t_MAX_TABLES : Tok}
    (z_MAX_TABLES : PySem.W.nsIn K mainGlobals "MAX_TABLES" = some (some (.int 60 t_MAX_TABLES)))
    {t_MOST_JOINED : Tok}
    (z_MOST_JOINED : PySem.W.nsIn K mainGlobals "MOST_JOINED" = some (some (.int 4 t_MOST_JOINED)))
    : LamX.LawAtS l w K (L2N.CX l.prog w) 12 63 "_law_script" mg fa h := by
  have e := hfa.symm.trans (PySem.W.mg_of X G a25)
  cases e
  have T : Txt mg := ⟨PySem.W.mg_none_of X G z_abs, PySem.W.mg_none_of X G z_all, PySem.W.mg_none_of X G z_any, PySem.W.mg_none_of X G z_bool, PySem.W.mg_none_of X G z_enumerate, PySem.W.mg_none_of X G z_int, PySem.W.mg_none_of X G z_isinstance, PySem.W.mg_none_of X G z_len, PySem.W.mg_none_of X G z_list, PySem.W.mg_none_of X G z_max, PySem.W.mg_none_of X G z_min, PySem.W.mg_none_of X G z_range, PySem.W.mg_none_of X G z_repr, PySem.W.mg_none_of X G z_set, PySem.W.mg_none_of X G z_sorted, PySem.W.mg_none_of X G z_str, PySem.W.mg_none_of X G z_sum, PySem.W.mg_none_of X G z_tuple, PySem.W.mg_none_of X G z_zip, ⟨t_MAX_DOORS, PySem.W.mg_of X G z_MAX_DOORS⟩, ⟨t_MAX_ROOMS, PySem.W.mg_of X G z_MAX_ROOMS⟩, ⟨t_MAX_TABLES, PySem.W.mg_of X G z_MAX_TABLES⟩, ⟨t_MOST_JOINED, PySem.W.mg_of X G z_MOST_JOINED⟩⟩
  have F0 := fun_mk (st := s_common_multiple) l0 c0 k0
  have b0 := F0.binds (ps := ["one", "other"]) fun _ _ _ _ _ _ us hl => match us, hl with | [_, _], _ => rfl
  have F1 := fun_mk (st := s_row_fits) l1 c1 k1
  have b1 := F1.binds (ps := ["row", "rooms"]) fun _ _ _ _ _ _ us hl => match us, hl with | [_, _], _ => rfl
  have F2 := fun_mk (st := s_table_fits) l2 c2 k2
  have b2 := F2.binds (ps := ["table", "rooms"]) fun _ _ _ _ _ _ us hl => match us, hl with | [_, _], _ => rfl
  have F3 := fun_mk (st := s_check_tables) l3 c3 k3
  have b3 := F3.binds (ps := ["head", "cycle"]) fun _ _ _ _ _ _ us hl => match us, hl with | [_, _], _ => rfl
  have F4 := fun_mk (st := s_Clock___init__) l4 c4 k4
  have b4 := F4.binds (ps := ["self", "head", "cycle"]) fun _ _ _ _ _ _ us hl => match us, hl with | [_, _, _], _ => rfl
  have F5 := fun_mk (st := s_Clock_table) l5 c5 k5
  have b5 := F5.binds (ps := ["self", "floor"]) fun _ _ _ _ _ _ us hl => match us, hl with | [_, _], _ => rfl
  have F6 := fun_mk (st := s_Clock_rooms) l6 c6 k6
  have b6 := F6.binds (ps := ["self", "floor"]) fun _ _ _ _ _ _ us hl => match us, hl with | [_, _], _ => rfl
  have F7 := fun_mk (st := s__law_bag) l7 c7 k7
  have b7 := F7.binds (ps := ["_law_script"]) fun _ _ _ _ _ _ us hl => match us, hl with | [_], _ => rfl
  have F8 := fun_mk (st := s__law_pull) l8 c8 k8
  have b8 := F8.binds (ps := ["_law_bag_here", "_law_many"]) fun _ _ _ _ _ _ us hl => match us, hl with | [_, _], _ => rfl
  have F9 := fun_mk (st := s__law_of) l9 c9 k9
  have b9 := F9.binds (ps := ["_law_bag_here", "_law_things"]) fun _ _ _ _ _ _ us hl => match us, hl with | [_, _], _ => rfl
  have F10 := fun_mk (st := s__law_like) l10 c10 k10
  have b10 := F10.binds (ps := ["_law_found", "_law_due"]) fun _ _ _ _ _ _ us hl => match us, hl with | [_, _], _ => rfl
  have F11 := fun_mk (st := s__law_lcm) l11 c11 k11
  have b11 := F11.binds (ps := ["_law_one", "_law_two"]) fun _ _ _ _ _ _ us hl => match us, hl with | [_, _], _ => rfl
  have F12 := fun_mk (st := s__law_table) l12 c12 k12
  have b12 := F12.binds (ps := ["_law_bag_here", "_law_rooms", "_law_many"]) fun _ _ _ _ _ _ us hl => match us, hl with | [_, _, _], _ => rfl
  have F13 := fun_mk (st := s__law_plan) l13 c13 k13
  have b13 := F13.binds (ps := ["_law_bag_here"]) fun _ _ _ _ _ _ us hl => match us, hl with | [_], _ => rfl
  have F14 := fun_mk (st := s__law_clock) l14 c14 k14
  have b14 := F14.binds (ps := ["_law_plan_here"]) fun _ _ _ _ _ _ us hl => match us, hl with | [_], _ => rfl
  have F15 := fun_mk (st := s__law_table_at) l15 c15 k15
  have b15 := F15.binds (ps := ["_law_plan_here", "_law_floor"]) fun _ _ _ _ _ _ us hl => match us, hl with | [_, _], _ => rfl
  have F16 := fun_mk (st := s_Clock___len__) l16 c16 k16
  have b16 := F16.binds (ps := ["self"]) fun _ _ _ _ _ _ us hl => match us, hl with | [_], _ => rfl
  have F17 := fun_mk (st := s_Clock___repr__) l17 c17 k17
  have b17 := F17.binds (ps := ["self"]) fun _ _ _ _ _ _ us hl => match us, hl with | [_], _ => rfl
  have F18 := fun_mk (st := s_Clock_head) l18 c18 k18
  have b18 := F18.binds (ps := ["self"]) fun _ _ _ _ _ _ us hl => match us, hl with | [_], _ => rfl
  have F19 := fun_mk (st := s_Clock_cycle) l19 c19 k19
  have b19 := F19.binds (ps := ["self"]) fun _ _ _ _ _ _ us hl => match us, hl with | [_], _ => rfl
  have F20 := fun_mk (st := s_Clock___eq__) l20 c20 k20
  have b20 := F20.binds (ps := ["self", "other"]) fun _ _ _ _ _ _ us hl => match us, hl with | [_, _], _ => rfl
  have F21 := fun_mk (st := s_joined_table) l21 c21 k21
  have b21 := F21.binds (ps := ["clock", "low", "count"]) fun _ _ _ _ _ _ us hl => match us, hl with | [_, _, _], _ => rfl
  have F22 := fun_mk (st := s_join) l22 c22 k22
  have b22 := F22.binds (ps := ["clock", "count"]) fun _ _ _ _ _ _ us hl => match us, hl with | [_, _], _ => rfl
  have F23 := fun_mk (st := s__law_joined_table) l23 c23 k23
  have b23 := F23.binds (ps := ["_law_plan_here", "_law_floor", "_law_times"]) fun _ _ _ _ _ _ us hl => match us, hl with | [_, _, _], _ => rfl
  have F24 := fun_mk (st := s__law_joined) l24 c24 k24
  have b24 := F24.binds (ps := ["_law_plan_here", "_law_times"]) fun _ _ _ _ _ _ us hl => match us, hl with | [_, _], _ => rfl
  have F25 := fun_mk (st := s_law) l25 c25 k25
  have Fft := fun_mk (st := s__law_tried) lft cft kft
  have bft := Fft.binds (ps := ["_law_ask"]) fun _ _ _ _ _ _ us hl => match us, hl with | [_], _ => rfl
  have Fff := fun_mk (st := s__law_field) lff cff kff
  have bff := Fff.binds (ps := ["_law_e"]) fun _ _ _ _ _ _ us hl => match us, hl with | [_], _ => rfl
  have FxiLimitExceeded := fun_mk (st := s_LimitExceeded___init__) lxiLimitExceeded cxiLimitExceeded kxiLimitExceeded
  have bxiLimitExceeded := FxiLimitExceeded.binds (ps := ["self", "limit"]) fun _ _ _ _ _ _ us hl => match us, hl with | [_, _], _ => rfl
  have XB_LimitExceeded : XcB K hang xLimitExceeded := xcb_mk elLimitExceeded evLimitExceeded esLimitExceeded eeLimitExceeded etLimitExceeded ekLimitExceeded (by unfold L2.xfB; rw [decide_eq_true egLimitExceeded, decide_eq_true eaLimitExceeded, decide_eq_true eeLimitExceeded, edLimitExceeded]; rfl) hg1 hg2 hg3 ehLimitExceeded
  have FxiInvalidCount := fun_mk (st := s_InvalidCount___init__) lxiInvalidCount cxiInvalidCount kxiInvalidCount
  have bxiInvalidCount := FxiInvalidCount.binds (ps := ["self", "count"]) fun _ _ _ _ _ _ us hl => match us, hl with | [_, _], _ => rfl
  have XB_InvalidCount : XcB K hang xInvalidCount := xcb_mk elInvalidCount evInvalidCount esInvalidCount eeInvalidCount etInvalidCount ekInvalidCount (by unfold L2.xfB; rw [decide_eq_true egInvalidCount, decide_eq_true eaInvalidCount, decide_eq_true eeInvalidCount, edInvalidCount]; rfl) hg1 hg2 hg3 ehInvalidCount
  refine lawAt (clk := ck) [((cdL, PT), lamName "law"), ((cdF, PF), lamName "_law_field")] (fun p hp => by rcases List.mem_cons.mp hp with rfl | hp <;> first | exact hL | (rw [List.mem_singleton.mp hp]; exact hF)) (fun p hp => by rcases List.mem_cons.mp hp with rfl | hp <;> first | exact nL | (rw [List.mem_singleton.mp hp]; exact nF)) (fun p hp => by rcases List.mem_cons.mp hp with rfl | hp <;> first | exact hd_of X lcL v11L v18L v7L v9L v10L neL | (rw [List.mem_singleton.mp hp]; exact hd_of X lcF v11F v18F v7F v9F v10F neF)) (fd := PySem.W.fnOf "law" "law" (defArgs s_law) (defBody s_law) (defScope s_law) .none kV25 dc25 pm25 an25 (.ref cdL) ct25) (fun s v => .of_eq rfl) fun base _ _ TB C hC hT => ?_
  obtain ⟨c0, t0, o0⟩ := C
  have hC : c0 = ck := hC
  subst hC
  have kcl : Cls K c0 := ⟨pg, hd, po, sa⟩
  have KC : CkC K ⟨c0, t0, o0⟩ := ⟨kcl, n_head_tables, n_cycle_tables, n_levels⟩
  have KI : KIs K mg ⟨c0, t0, o0⟩ := ⟨PySem.W.mg_of X G aC, ⟨kcl, ha, hn, htk, hmo, kit_self⟩, kit_no isC tyC⟩
  have KE : CkEq K ⟨c0, t0, o0⟩ := ⟨ne_, hmo, fun n hn => by (simp only [List.mem_cons, List.not_mem_nil, or_false] at hn; rcases hn with rfl | rfl | rfl | rfl; exact su_NoneType; exact su_int; exact su_str; exact su_tuple)⟩
  have X_LimitExceeded : Xc1 l.prog w K mg base "LimitExceeded" "limit" "limitexceeded" xLimitExceeded := ⟨XB_LimitExceeded.oex, PySem.W.mg_of X G eLimitExceeded, _, _, eiLimitExceeded, ejLimitExceeded, xinit_ok FxiLimitExceeded sc_LimitExceeded___init__ rfl XB_LimitExceeded.oex efLimitExceeded ewLimitExceeded (by first | exact Or.inl rfl | exact Or.inr (Or.inl rfl) | exact Or.inr (Or.inr rfl)) (by first | exact Or.inl rfl | exact Or.inr (Or.inl rfl) | exact Or.inr (Or.inr rfl)) (by decide) (by decide) (fun _ => rfl), bxiLimitExceeded⟩
  have X_InvalidCount : Xc1 l.prog w K mg base "InvalidCount" "count" "invalidcount" xInvalidCount := ⟨XB_InvalidCount.oex, PySem.W.mg_of X G eInvalidCount, _, _, eiInvalidCount, ejInvalidCount, xinit_ok FxiInvalidCount sc_InvalidCount___init__ rfl XB_InvalidCount.oex efInvalidCount ewInvalidCount (by first | exact Or.inl rfl | exact Or.inr (Or.inl rfl) | exact Or.inr (Or.inr rfl)) (by first | exact Or.inl rfl | exact Or.inr (Or.inl rfl) | exact Or.inr (Or.inr rfl)) (by decide) (by decide) (fun _ => rfl), bxiInvalidCount⟩
  have hm_own : (PT, lamName "law") ∈ Cf.T ⟨c0, t0, o0⟩ := by rw [hT]; exact List.mem_cons_self
  have hm_F : (PF, lamName "_law_field") ∈ Cf.T ⟨c0, t0, o0⟩ := by rw [hT]; exact List.mem_cons_of_mem _ List.mem_cons_self
  have hu_own : ∀ q ∈ Cf.T ⟨c0, t0, o0⟩, q.1 = PT → q.2 = lamName "law" := fun q hq e => by rw [hT] at hq; rcases List.mem_cons.mp hq with rfl | hq <;> first | rfl | (rw [List.mem_singleton.mp hq] at e; exact absurd e.symm neP)
  have hu_F : ∀ q ∈ Cf.T ⟨c0, t0, o0⟩, q.1 = PF → q.2 = lamName "_law_field" := fun q hq e => by rw [hT] at hq; rcases List.mem_cons.mp hq with rfl | hq <;> first | exact absurd e neP | (rw [List.mem_singleton.mp hq])
  have TB_own := TB _ List.mem_cons_self
  have TB_F := TB _ (List.mem_cons_of_mem _ List.mem_cons_self)
  have T_tried : Tried l.prog w K mg base ⟨c0, t0, o0⟩ hang absent 9 spFld := ⟨s__law_tried, _, _, _, _, _, _, _, _, _, _, _, ⟨0, 0, 0, 0⟩, _, _, _, _, _, _, _, _, _, _, _, _, _, _, _, _, ⟨0, 0, 0, 0⟩, ⟨0, 0, 0, 0⟩, _, _, _, _, Fft, sc__law_tried, rfl, PySem.W.mg_of X G aft, bft, rfl, rfl, rfl, rfl, rfl, PySem.W.mg_of X G aH, PySem.W.mg_of X G aA, (ok_field lff cff kff (PySem.W.mg_of X G aff) bff TB_F hm_F hu_F).mono (by decide), rfl⟩
  have G_common_multiple : Df l.prog w K mg base ⟨c0, t0, o0⟩ "common_multiple" 1 ["one", "other"] spLcm := ⟨_, _, ok_common_multiple F0 T, PySem.W.mg_of X G a0, k0, b0⟩
  have G_row_fits : Df l.prog w K mg base ⟨c0, t0, o0⟩ "row_fits" 1 ["row", "rooms"] spRowFits := ⟨_, _, ok_rowfits F1 T, PySem.W.mg_of X G a1, k1, b1⟩
  have G_table_fits : Df l.prog w K mg base ⟨c0, t0, o0⟩ "table_fits" 2 ["table", "rooms"] spTabFits := ⟨_, _, ok_tabfits F2 T G_row_fits, PySem.W.mg_of X G a2, k2, b2⟩
  have G_check_tables : Df l.prog w K mg base ⟨c0, t0, o0⟩ "check_tables" 3 ["head", "cycle"] spChk := ⟨_, _, ok_check F3 T G_table_fits, PySem.W.mg_of X G a3, k3, b3⟩
  have K_Clock : DfK l.prog w K mg base ⟨c0, t0, o0⟩ "Clock" 4 ["self", "head", "cycle"] spInit := ⟨PySem.W.mg_of X G aC, _, _, ok_init F4 T KC G_check_tables, ⟨mk, a4, i4, kc⟩, b4⟩
  have M_table : DfM l.prog w K mg base ⟨c0, t0, o0⟩ "table" 4 ["self", "floor"] spTabG := ⟨kcl, ⟨by decide +kernel, by decide +kernel, by decide +kernel⟩, _, _, ok_tableG F5 T KC, ⟨a5, i5, k5⟩, b5⟩
  have M_rooms : DfM l.prog w K mg base ⟨c0, t0, o0⟩ "rooms" 5 ["self", "floor"] spRoomsG := ⟨kcl, ⟨by decide +kernel, by decide +kernel, by decide +kernel⟩, _, _, ok_roomsG F6 T KC M_table, ⟨a6, i6, k6⟩, b6⟩
  have G__law_bag : Df l.prog w K mg base ⟨c0, t0, o0⟩ "_law_bag" 1 ["_law_script"] spBag := ⟨_, _, ok_bag F7 T, PySem.W.mg_of X G a7, k7, b7⟩
  have G__law_pull : Df l.prog w K mg base ⟨c0, t0, o0⟩ "_law_pull" 1 ["_law_bag_here", "_law_many"] spPull := ⟨_, _, ok_pull F8 T, PySem.W.mg_of X G a8, k8, b8⟩
  have G__law_of : Df l.prog w K mg base ⟨c0, t0, o0⟩ "_law_of" 2 ["_law_bag_here", "_law_things"] spOf := ⟨_, _, ok_of F9 T G__law_pull, PySem.W.mg_of X G a9, k9, b9⟩
  have G__law_like : Df l.prog w K mg base ⟨c0, t0, o0⟩ "_law_like" 7 ["_law_found", "_law_due"] (spLikeT 5) := ok_likeT F10 T (PySem.W.mg_of X G a10) k10 b10 5 (by decide)
  have G__law_lcm : Df l.prog w K mg base ⟨c0, t0, o0⟩ "_law_lcm" 1 ["_law_one", "_law_two"] spLcm := ⟨_, _, ok__law_lcm F11 T, PySem.W.mg_of X G a11, k11, b11⟩
  have G__law_table : Df l.prog w K mg base ⟨c0, t0, o0⟩ "_law_table" 2 ["_law_bag_here", "_law_rooms", "_law_many"] spTable := ⟨_, _, ok_table F12 T G__law_pull, PySem.W.mg_of X G a12, k12, b12⟩
  have G__law_plan : Df l.prog w K mg base ⟨c0, t0, o0⟩ "_law_plan" 3 ["_law_bag_here"] spPlan := ⟨_, _, ok_plan F13 T G__law_pull G__law_of G__law_table, PySem.W.mg_of X G a13, k13, b13⟩
  have G__law_clock : Df l.prog w K mg base ⟨c0, t0, o0⟩ "_law_clock" 6 ["_law_plan_here"] spClock := ⟨_, _, ok_clock F14 T K_Clock, PySem.W.mg_of X G a14, k14, b14⟩
  have G__law_table_at : Df l.prog w K mg base ⟨c0, t0, o0⟩ "_law_table_at" 1 ["_law_plan_here", "_law_floor"] spTabL := ⟨_, _, ok_table_at F15 T, PySem.W.mg_of X G a15, k15, b15⟩
  have M___len__ : DfM l.prog w K mg base ⟨c0, t0, o0⟩ "__len__" 1 ["self"] spLenM := ⟨kcl, ⟨by decide +kernel, by decide +kernel, by decide +kernel⟩, _, _, ok_lenM F16 T KC, ⟨a16, i16, k16⟩, b16⟩
  have M___repr__ : DfM l.prog w K mg base ⟨c0, t0, o0⟩ "__repr__" 1 ["self"] spReprM := ⟨kcl, ⟨by decide +kernel, by decide +kernel, by decide +kernel⟩, _, _, ok_reprM F17 T KC, ⟨a17, i17, k17⟩, b17⟩
  have M_head : DfM l.prog w K mg base ⟨c0, t0, o0⟩ "head" 1 ["self"] spHeadM := ⟨kcl, ⟨by decide +kernel, by decide +kernel, by decide +kernel⟩, _, _, ok_headM F18 T KC, ⟨a18, i18, k18⟩, b18⟩
  have M_cycle : DfM l.prog w K mg base ⟨c0, t0, o0⟩ "cycle" 1 ["self"] spCycleM := ⟨kcl, ⟨by decide +kernel, by decide +kernel, by decide +kernel⟩, _, _, ok_cycleM F19 T KC, ⟨a19, i19, k19⟩, b19⟩
  have M___eq__ : DfM l.prog w K mg base ⟨c0, t0, o0⟩ "__eq__" 1 ["self", "other"] spEq := ⟨kcl, ⟨by decide +kernel, by decide +kernel, by decide +kernel⟩, _, _, ok_eqM F20 T KC KI, ⟨a20, i20, k20⟩, b20⟩
  have G_joined_table : Df l.prog w K mg base ⟨c0, t0, o0⟩ "joined_table" 5 ["clock", "low", "count"] (spJoinT xLimitExceeded) := ⟨_, _, ok_joinedtable F21 T X_LimitExceeded M_table, PySem.W.mg_of X G a21, k21, b21⟩
  have G_join : Df l.prog w K mg base ⟨c0, t0, o0⟩ "join" 6 ["clock", "count"] (spJoin xInvalidCount xLimitExceeded) := ⟨_, _, ok_join F22 T KC X_InvalidCount K_Clock G_common_multiple G_joined_table, PySem.W.mg_of X G a22, k22, b22⟩
  have G__law_joined_table : Df l.prog w K mg base ⟨c0, t0, o0⟩ "_law_joined_table" 2 ["_law_plan_here", "_law_floor", "_law_times"] spJoinTL := ⟨_, _, ok_joinTL F23 T G__law_table_at, PySem.W.mg_of X G a23, k23, b23⟩
  have G__law_joined : Df l.prog w K mg base ⟨c0, t0, o0⟩ "_law_joined" 3 ["_law_plan_here", "_law_times"] spJoinL := ⟨_, _, ok_joinL F24 T G__law_lcm G__law_joined_table, PySem.W.mg_of X G a24, k24, b24⟩
  exact ok_law l25 c25 TB_own hm_own hu_own T KE (fun n => XB_InvalidCount.ok1 efInvalidCount ewInvalidCount) (fun n => XB_LimitExceeded.ok1 efLimitExceeded ewLimitExceeded) T_tried G__law_bag G__law_of G__law_like G__law_plan G__law_clock G__law_joined K_Clock M_head M_cycle M_table M___eq__ G_join
end K35
def PySem.W.Fast.tw7892571405694709096 := ()
def PySem.W.Fast.tw12351570095387631803 := ()
def PySem.W.Fast.tw12757726298728131175 := ()
def PySem.W.Fast.tw4073145849277169387 := ()
def PySem.W.Fast.tw10377856800768492678 := ()
def PySem.W.Fast.tw17025166578479925362 := ()
def PySem.W.Fast.tw6628261659613408927 := ()
def PySem.W.Fast.tw15487085918923220948 := ()
def PySem.W.Fast.tw5814599056310483707 := ()
def PySem.W.Fast.tw8767688863325331615 := ()
def PySem.W.Fast.tw9665837842434216655 := ()
def PySem.W.Fast.tw1414632018082412569 := ()
def PySem.W.Fast.tw12190419802669338471 := ()
def PySem.W.Fast.tw1410951211525988035 := ()
def PySem.W.Fast.tw1518638456678194138 := ()
def PySem.W.Fast.tw469307240310665298 := ()
def PySem.W.Fast.tw17531388716459327922 := ()
def PySem.W.Fast.tw13251171202992961601 := ()
def PySem.W.Fast.tw17247802348447853534 := ()
def PySem.W.Fast.tw4396719791606900986 := ()
def PySem.W.Fast.tw17672662233006169924 := ()
def PySem.W.Fast.tw7347473864428857304 := ()
def PySem.W.Fast.tw12182385180827685352 := ()
def PySem.W.Fast.tw4992584074143379662 := ()
def PySem.W.Fast.tw16871307933815872585 := ()
def PySem.W.Fast.tw6145486013350801690 := ()
def PySem.W.Fast.tw10151780525465540682 := ()
def PySem.W.Fast.tw15500050108421635477 := ()
def PySem.W.Fast.tw8098213546920489047 := ()
def PySem.W.Fast.tw14930406179611276643 := ()
def PySem.W.Fast.tw16913199574030383811 := ()
def PySem.W.Fast.tw5176855278450465926 := ()
def PySem.W.Fast.tw9550906348751654363 := ()
def PySem.W.Fast.tw9442026399181239855 := ()
def PySem.W.Fast.tw450833227528058493 := ()
def PySem.W.Fast.tw14796559850971916830 := ()
def PySem.W.Fast.tw1563920285005063529 := ()
def PySem.W.Fast.tw615813949034552277 := ()
def PySem.W.Fast.tw2542045355265845318 := ()
def PySem.W.Fast.tw813149713133460514 := ()
def PySem.W.Fast.tw15098457462600798730 := ()
def PySem.W.Fast.tw12472664070447507054 := ()
def PySem.W.Fast.tw1748023470462359559 := ()
def PySem.W.Fast.tw14005153531007136 := ()
def PySem.W.Fast.tw7767036034795245327 := ()
def PySem.W.Fast.tw11126642969072118388 := ()
def PySem.W.Fast.tw16593316987063191051 := ()
def PySem.W.Fast.tw14885811698641373346 := ()
def PySem.W.Fast.tw3676108936390040745 := ()
def PySem.W.Fast.tw4062146013312347623 := ()
def PySem.W.Fast.tw14289955886132409085 := ()
def PySem.W.Fast.tw5106808670318970883 := ()
def PySem.W.Fast.tw5224449764862895014 := ()
def PySem.W.Fast.tw8220244144591004983 := ()
def PySem.W.Fast.tw13866450205776469096 := ()
def PySem.W.Fast.tw18183044742634456995 := ()
def PySem.W.Fast.tw690894783621977716 := ()
def PySem.W.Fast.tw107145396063032382 := ()
def PySem.W.Fast.tw12287356471226469771 := ()
def PySem.W.Fast.tw15377958282618284686 := ()
def PySem.W.Fast.tw13133153448444865336 := ()
def PySem.W.Fast.tw5465650258091643595 := ()
def PySem.W.Fast.tw1613236798004589593 := ()
def PySem.W.Fast.tw6922964444841644369 := ()
def PySem.W.Fast.tw10722924064527979112 := ()
def PySem.W.Fast.tw16962326592222861802 := ()
def PySem.W.Fast.tw5814139309151455526 := ()
def PySem.W.Fast.tw9770326315215344407 := ()
def PySem.W.Fast.tw8452553567497413733 := ()
def PySem.W.Fast.tw4055149194201204949 := ()
def PySem.W.Fast.tw9435623080401831231 := ()
def PySem.W.Fast.tw15658426160365644150 := ()
def PySem.W.Fast.tw2537712347434075908 := ()
def PySem.W.Fast.tw16650844222241682553 := ()
def PySem.W.Fast.tw10737962999197857630 := ()
def PySem.W.Fast.tw1204329743947467752 := ()
def PySem.W.Fast.tw3699523984406228946 := ()
def PySem.W.Fast.tw13095674946950574493 := ()
def PySem.W.Fast.tw2894816918748540043 := ()
def PySem.W.Fast.tw13756583692161606376 := ()
def PySem.W.Fast.tw14994952772005329359 := ()
def PySem.W.Fast.tw6230437024971271274 := ()
def PySem.W.Fast.tw5182994122352485528 := ()
def PySem.W.Fast.tw10459409963784690845 := ()
def PySem.W.Fast.tw640161935353369123 := ()
def PySem.W.Fast.tw748904472906120402 := ()
def PySem.W.Fast.tw3489282192065507191 := ()
def PySem.W.Fast.tw14364401077194519198 := ()
def PySem.W.Fast.tw9763065644652038326 := ()
def PySem.W.Fast.tw10489526083112568360 := ()
def PySem.W.Fast.tw16541695331632149903 := ()
def PySem.W.Fast.tw4956767809446115023 := ()
def PySem.W.Fast.tw13430891298146190829 := ()
def PySem.W.Fast.tw8020690360215595927 := ()
def PySem.W.Fast.tw2896558202399592270 := ()
def PySem.W.Fast.tw8410342476552556456 := ()
def PySem.W.Fast.tw12503501603984612858 := ()
def PySem.W.Fast.tw1274186594323732414 := ()
def PySem.W.Fast.tw10110108681856723607 := ()
def PySem.W.Fast.tw4984342129459588507 := ()
def PySem.W.Fast.tw16418730772673268610 := ()
def PySem.W.Fast.tw16253453246865752357 := ()
def PySem.W.Fast.tw7220573325202818607 := ()
def PySem.W.Fast.tw17059807857777170688 := ()
def PySem.W.Fast.tw7818020960105620105 := ()
def PySem.W.Fast.tw4695176239560929064 := ()
def PySem.W.Fast.tw15156058302895645755 := ()
def PySem.W.Fast.tw18173638586343232223 := ()
def PySem.W.Fast.tw197894313018967446 := ()
def PySem.W.Fast.tw16396003044208485972 := ()
def PySem.W.Fast.tw10678218270012764671 := ()
def PySem.W.Fast.tw16220152953988443565 := ()
def PySem.W.Fast.tw10144344708299261200 := ()
def PySem.W.Fast.tw13802716516309385143 := ()
def PySem.W.Fast.tw7830840754936637703 := ()
def PySem.W.Fast.tw6265043679586020315 := ()
def PySem.W.Fast.tw16925479670625824948 := ()
def PySem.W.Fast.tw4950920002902600517 := ()
def PySem.W.Fast.tw13536814150001509795 := ()
def PySem.W.Fast.tw10288506181653518190 := ()
def PySem.W.Fast.tw11081902411736024271 := ()
def PySem.W.Fast.tw14479172337454324502 := ()
def PySem.W.Fast.tw8682456129226391006 := ()
def PySem.W.Fast.tw14502443875767178712 := ()
def PySem.W.Fast.tw1410232475597820286 := ()
def PySem.W.Fast.tw2815234903614766643 := ()
def PySem.W.Fast.tw1069506844013136104 := ()
def PySem.W.Fast.tw11930935678604040718 := ()
def PySem.W.Fast.tw1001356199995730713 := ()
def PySem.W.Fast.tw17268589755421534797 := ()
def PySem.W.Fast.tw9117757981614909654 := ()
def PySem.W.Fast.tw16315986790468510596 := ()
def PySem.W.Fast.tw12605565972903353275 := ()
def PySem.W.Fast.tw8646584401636039397 := ()
def PySem.W.Fast.tw9922671029746781006 := ()
def PySem.W.Fast.tw5454054566788591707 := ()
def PySem.W.Fast.tw12715119024088621910 := ()
def PySem.W.Fast.tw9192335279411129293 := ()
def PySem.W.Fast.tw12320767438879365385 := ()
def PySem.W.Fast.tw16126797330913670169 := ()
def PySem.W.Fast.tw585761172053222958 := ()
def PySem.W.Fast.tw17818203461024572156 := ()
def PySem.W.Fast.tw8010255376773886051 := ()
def PySem.W.Fast.tw5277899531851583580 := ()
def PySem.W.Fast.tw2270160567259561780 := ()
def PySem.W.Fast.tw11742240301818723291 := ()
def PySem.W.Fast.tw14511568896117626371 := ()
def PySem.W.Fast.tw15663472808806619443 := ()
def PySem.W.Fast.tw8430070611588031935 := ()
def PySem.W.Fast.tw5311009626421297363 := ()
def PySem.W.Fast.tw15359387942427040854 := ()
def PySem.W.Fast.tw14848541325743381702 := ()
def PySem.W.Fast.tw963816773578666707 := ()
def PySem.W.Fast.tw10738647804521470606 := ()
def PySem.W.Fast.tw9512233467556224633 := ()
def PySem.W.Fast.tw8845019178282340365 := ()
def PySem.W.Fast.tw3841661895578117918 := ()
def PySem.W.Fast.tw14489381843248022138 := ()
def PySem.W.Fast.tw7690884473732592829 := ()
def PySem.W.Fast.tw7329228230980173278 := ()
def PySem.W.Fast.tw2740864777239527043 := ()
def PySem.W.Fast.tw17627783972473395151 := ()
def PySem.W.Fast.tw17555429539574522008 := ()
def PySem.W.Fast.tw7794768607374721533 := ()
def PySem.W.Fast.tw13779808884159355194 := ()
def PySem.W.Fast.tw3122433930855988273 := ()
def PySem.W.Fast.tw3989176674425533318 := ()
def PySem.W.Fast.tw3434503908642550416 := ()
def PySem.W.Fast.tw8928157833013430826 := ()
def PySem.W.Fast.tw14109277342095410644 := ()
def PySem.W.Fast.tw13049356170609016713 := ()
def PySem.W.Fast.tw2469299894745675640 := ()
def PySem.W.Fast.tw3177494023934563557 := ()
def PySem.W.Fast.tw6422660641198130944 := ()
def PySem.W.Fast.tw4118081703326405820 := ()
def PySem.W.Fast.tw5189341402341288712 := ()
def PySem.W.Fast.tw14613602273660502290 := ()
def PySem.W.Fast.tw6042014836632886747 := ()
def PySem.W.Fast.tw1643952300206373408 := ()
def PySem.W.Fast.tw9456998643054022082 := ()
def PySem.W.Fast.tw5579628666125688649 := ()
def PySem.W.Fast.tw10128382308530306597 := ()
def PySem.W.Fast.tw11190519197531154985 := ()
def PySem.W.Fast.tw16586245582732889970 := ()
def PySem.W.Fast.tw1297611317558543522 := ()
def PySem.W.Fast.tw11220808851466158175 := ()
def PySem.W.Fast.tw12591729866965672865 := ()
def PySem.W.Fast.tw4875192381589830242 := ()
def PySem.W.Fast.tw15566926119908623791 := ()
def PySem.W.Fast.tw6125672224601283096 := ()
def PySem.W.Fast.tw1279517775411042124 := ()
def PySem.W.Fast.tw12319282859583723213 := ()
def PySem.W.Fast.tw13574080983183699021 := ()
def PySem.W.Fast.tw5198600903736447888 := ()
def PySem.W.Fast.tw10015915298853869483 := ()
def PySem.W.Fast.tw16788063866475425308 := ()
def PySem.W.Fast.tw13718535358436255128 := ()
def PySem.W.Fast.tw15525069864211790739 := ()
def PySem.W.Fast.tw8199308398783198976 := ()
def PySem.W.Fast.tw8213951716420598851 := ()
def PySem.W.Fast.tw3328210573381587330 := ()
def PySem.W.Fast.tw18359635844246376574 := ()
def PySem.W.Fast.tw7013068132026105986 := ()
def PySem.W.Fast.tw15566609311848949292 := ()
def PySem.W.Fast.tw4825996693159299748 := ()
def PySem.W.Fast.tw4099107107909433197 := ()
def PySem.W.Fast.tw3319158209729589925 := ()
def PySem.W.Fast.tw8122776772777896621 := ()
def PySem.W.Fast.tw12290625996972421040 := ()
def PySem.W.Fast.tw8787238006315347175 := ()
def PySem.W.Fast.tw6134232176749515182 := ()
def PySem.W.Fast.tw16851998263033539243 := ()
def PySem.W.Fast.tw4012351225485485226 := ()
def PySem.W.Fast.tw7021996092325448260 := ()
def PySem.W.Fast.tw3333130164501332696 := ()
def PySem.W.Fast.tw14173725801141401193 := ()
def PySem.W.Fast.tw10725859850720674465 := ()
def PySem.W.Fast.tw11978298703446948432 := ()
def PySem.W.Fast.tw18001181029314628230 := ()
def PySem.W.Fast.tw17301641334299143288 := ()
def PySem.W.Fast.tw9592031885660689812 := ()
def PySem.W.Fast.tw8738461569860090289 := ()
def PySem.W.Fast.tw3607310335387248942 := ()
def PySem.W.Fast.tw10016562257333666193 := ()
def PySem.W.Fast.tw491482828250318359 := ()
def PySem.W.Fast.tw14918880195468048897 := ()
def PySem.W.Fast.tw600122036377224802 := ()
def PySem.W.Fast.tw8714362955412401852 := ()
def PySem.W.Fast.tw1834163872785745300 := ()
def PySem.W.Fast.tw48191556015608315 := ()
def PySem.W.Fast.tw11942614942190057435 := ()
def PySem.W.Fast.tw15528862320441763181 := ()
def PySem.W.Fast.tw5174171858092265447 := ()
def PySem.W.Fast.tw17653173876667409596 := ()
def PySem.W.Fast.tw12106653621429492421 := ()
def PySem.W.Fast.tw4610466627659671900 := ()
def PySem.W.Fast.tw14164291425637032077 := ()
def PySem.W.Fast.tw9344612966537544914 := ()
def PySem.W.Fast.tw17428455941192622326 := ()
def PySem.W.Fast.tw15781831415663166038 := ()
def PySem.W.Fast.tw7331978790914693257 := ()
def PySem.W.Fast.tw11497922290772686047 := ()
def PySem.W.Fast.tw4106376506014254356 := ()
def PySem.W.Fast.tw14460468228803512356 := ()
def PySem.W.Fast.tw5486425649021033175 := ()
def PySem.W.Fast.tw7006526514665950719 := ()
def PySem.W.Fast.tw7641849808585964143 := ()
def PySem.W.Fast.tw7535989457166589257 := ()
def PySem.W.Fast.tw12459101662668046710 := ()
def PySem.W.Fast.tw6874011888400417265 := ()
def PySem.W.Fast.tw1019349649322574389 := ()
def PySem.W.Fast.tw10058181847784018143 := ()
def PySem.W.Fast.tw15491512404067923093 := ()
def PySem.W.Fast.tw3912392685013165133 := ()
def PySem.W.Fast.tw16869799164617385987 := ()
def PySem.W.Fast.tw9880862822552419094 := ()
def PySem.W.Fast.tw12211294460917238792 := ()
def PySem.W.Fast.tw17025548206766837698 := ()
def PySem.W.Fast.tw10931971471440941174 := ()
def PySem.W.Fast.tw13880014067487294873 := ()
def PySem.W.Fast.tw15921771239239855565 := ()
def PySem.W.Fast.tw14887486074524309398 := ()
def PySem.W.Fast.tw6234701824166730101 := ()
def PySem.W.Fast.tw9432396477976639745 := ()
def PySem.W.Fast.tw1984252201862928081 := ()
def PySem.W.Fast.tw6363071684550538486 := ()
def PySem.W.Fast.tw3281156740413091365 := ()
def PySem.W.Fast.tw18209250618867405108 := ()
def PySem.W.Fast.tw12572888305304891409 := ()
def PySem.W.Fast.tw14388742323523603071 := ()
def PySem.W.Fast.tw6782886882579214551 := ()
def PySem.W.Fast.tw9504558008835195179 := ()
def PySem.W.Fast.tw6574174952454459681 := ()
def PySem.W.Fast.tw6753936739844737903 := ()
def PySem.W.Fast.tw5281216446194175508 := ()
def PySem.W.Fast.tw7599411348135738671 := ()
def PySem.W.Fast.tw6901022125752623492 := ()
def PySem.W.Fast.tw13517287268971638294 := ()
def PySem.W.Fast.tw2855888768921559596 := ()
def PySem.W.Fast.tw840590709375265928 := ()
def PySem.W.Fast.tw12095411876199366799 := ()
def PySem.W.Fast.tw15845867503687694651 := ()
def PySem.W.Fast.tw7216548127017644258 := ()
def PySem.W.Fast.tw4424541060335693992 := ()
def PySem.W.Fast.tw11371847248305991847 := ()
def PySem.W.Fast.tw4795399687756348808 := ()
def PySem.W.Fast.tw1965088300336652708 := ()
def PySem.W.Fast.tw17931799031677510434 := ()
def PySem.W.Fast.tw12000182679340208567 := ()
def PySem.W.Fast.tw4276078480917774955 := ()
def PySem.W.Fast.tw14755877352599182173 := ()
def PySem.W.Fast.tw11928325107512701418 := ()
def PySem.W.Fast.tw14782011531411942784 := ()
def PySem.W.Fast.tw6347777805161485071 := ()
def PySem.W.Fast.tw6350032726757200982 := ()
def PySem.W.Fast.tw6359178169459297484 := ()
def PySem.W.Fast.tw6109647271462943520 := ()
def PySem.W.Fast.tw12044771275539186505 := ()
def PySem.W.Fast.tw16337126860235270177 := ()
def PySem.W.Fast.tw15237044392171630471 := ()
def PySem.W.Fast.tw14253012454571657457 := ()
def PySem.W.Fast.tw7318808728271974876 := ()
def PySem.W.Fast.tw14054504744946707483 := ()
def PySem.W.Fast.tw7809655783960834402 := ()
def PySem.W.Fast.tw7859183607940966149 := ()
def PySem.W.Fast.tw12317568506968845309 := ()
def PySem.W.Fast.tw17233975893544538259 := ()
def PySem.W.Fast.tw14367492922411178719 := ()
def PySem.W.Fast.tw6356806025504080910 := ()
def PySem.W.Fast.tw11026154510852521846 := ()
def PySem.W.Fast.tw7676339954421914742 := ()
def PySem.W.Fast.tw11421847570690420796 := ()
def PySem.W.Fast.tw7737528046426979904 := ()
def PySem.W.Fast.tw5709607869808630656 := ()
def PySem.W.Fast.tw83975464621008982 := ()
def PySem.W.Fast.tw12797162092543392298 := ()
def PySem.W.Fast.tw3591613182260757296 := ()
def PySem.W.Fast.tw7895225078087347147 := ()
def PySem.W.Fast.tw12480947820789786157 := ()
def PySem.W.Fast.tw13613421434882896223 := ()
def PySem.W.Fast.tw12730497849464479703 := ()
def PySem.W.Fast.tw6999177014000719927 := ()
def PySem.W.Fast.tw6064351714796327656 := ()
def PySem.W.Fast.tw11056324536085211527 := ()
def PySem.W.Fast.tw17133023124140130344 := ()
def PySem.W.Fast.tw898107760038965612 := ()
def PySem.W.Fast.tw8415853793416624455 := ()
def PySem.W.Fast.tw16832257207576604297 := ()
def PySem.W.Fast.tw11834557183447642398 := ()
def PySem.W.Fast.tw11560651400852019733 := ()
def PySem.W.Fast.tw1155597979009487611 := ()
def PySem.W.Fast.tw1482776683588669026 := ()
def PySem.W.Fast.tw10899180134390924708 := ()
def PySem.W.Fast.tw6968275620887782679 := ()
def PySem.W.Fast.tw9205447680438578829 := ()
def PySem.W.Fast.tw4820208256357919842 := ()
def PySem.W.Fast.tw14256449340895740676 := ()
def PySem.W.Fast.tw13986932151846515658 := ()
def PySem.W.Fast.tw6305803312280128075 := ()
def PySem.W.Fast.tw8837566485711942283 := ()
def PySem.W.Fast.tw9479943903328417318 := ()
def PySem.W.Fast.tw6983161328182595423 := ()
def PySem.W.Fast.tw7029614317901206196 := ()
def PySem.W.Fast.tw3744241925768345469 := ()
def PySem.W.Fast.tw519850685022704296 := ()
def PySem.W.Fast.tw17457580357079738895 := ()
def PySem.W.Fast.tw15546717672085444007 := ()
def PySem.W.Fast.tw18059126354368367842 := ()
def PySem.W.Fast.tw17957486278160194708 := ()
def PySem.W.Fast.tw17697071498593862695 := ()
def PySem.W.Fast.tw15855904125254957287 := ()
def PySem.W.Fast.tw16424753769199341928 := ()
def PySem.W.Fast.tw11552861924805886725 := ()
def PySem.W.Fast.tw9204802438926969628 := ()
def PySem.W.Fast.tw14936889331024499108 := ()
def PySem.W.Fast.tw4069612095881492686 := ()
def PySem.W.Fast.tw18282087943633746630 := ()
def PySem.W.Fast.tw3803437504601496911 := ()
def PySem.W.Fast.tw317727240286816662 := ()
def PySem.W.Fast.tw4130103858457744085 := ()
def PySem.W.Fast.tw3002581670289996135 := ()
def PySem.W.Fast.tw4778812439814578514 := ()
def PySem.W.Fast.tw13294058217765367872 := ()
def PySem.W.Fast.tw17458709823807709975 := ()
def PySem.W.Fast.tw931042013069616323 := ()
def PySem.W.Fast.tw14794025233722289141 := ()
def PySem.W.Fast.tw6474337203203069176 := ()
def PySem.W.Fast.tw11947027515386433254 := ()
def PySem.W.Fast.tw10004301796532590573 := ()
def PySem.W.Fast.tw7262958011459023838 := ()
def PySem.W.Fast.tw13870009648498678816 := ()
def PySem.W.Fast.tw4393898363848977183 := ()
def PySem.W.Fast.tw1614923052062462431 := ()
def PySem.W.Fast.tw11716460033095785646 := ()
def PySem.W.Fast.tw15833917115582610487 := ()
def PySem.W.Fast.tw18280404246980719505 := ()
def PySem.W.Fast.tw2331363745754366914 := ()
def PySem.W.Fast.tw12202690636105637556 := ()
def PySem.W.Fast.tw289906588250319281 := ()
def PySem.W.Fast.tw11465708383105956927 := ()
def PySem.W.Fast.tw2794370442503319114 := ()
def PySem.W.Fast.tw9762433343110707340 := ()
def PySem.W.Fast.tw15689262414774469696 := ()
def PySem.W.Fast.tw16216006603304949283 := ()
def PySem.W.Fast.tw11157280650909741555 := ()
def PySem.W.Fast.tw1504108656553051590 := ()
def PySem.W.Fast.tw7816185216169914674 := ()
def PySem.W.Fast.tw17442409454466511946 := ()
def PySem.W.Fast.tw7101263922506939384 := ()
def PySem.W.Fast.tw12914621222956461069 := ()
def PySem.W.Fast.tw12703076592623729512 := ()
def PySem.W.Fast.tw2922487619167864371 := ()
def PySem.W.Fast.tw9694269899907098266 := ()
def PySem.W.Fast.tw17419285615241193969 := ()
def PySem.W.Fast.tw16540015630650619927 := ()
def PySem.W.Fast.tw18210329989242084578 := ()
def PySem.W.Fast.tw9511454143790840432 := ()
def PySem.W.Fast.tw14963105006055382696 := ()
def PySem.W.Fast.tw4830194321966463098 := ()
def PySem.W.Fast.tw11115187456855792839 := ()
def PySem.W.Fast.tw8120398588171208523 := ()
def PySem.W.Fast.tw15419484263954562473 := ()
def PySem.W.Fast.tw3065440175479343961 := ()
def PySem.W.Fast.tw16935896634890276852 := ()
def PySem.W.Fast.tw16647933023662892798 := ()
def PySem.W.Fast.tw10165051548770069816 := ()
def PySem.W.Fast.tw12632487097843851266 := ()
def PySem.W.Fast.tw11062733119573430251 := ()
def PySem.W.Fast.tw18286962519284268990 := ()
def PySem.W.Fast.tw43116821641038134 := ()
def PySem.W.Fast.tw16625415036634450193 := ()
def PySem.W.Fast.tw10314208034431746317 := ()
def PySem.W.Fast.tw809727778633172636 := ()
def PySem.W.Fast.tw14822433488713590297 := ()
def PySem.W.Fast.tw4357162256051112318 := ()
def PySem.W.Fast.tw1907057768499217632 := ()
def PySem.W.Fast.tw14504238546977078582 := ()
def PySem.W.Fast.tw7079830058847203326 := ()
def PySem.W.Fast.tw1258273716649786347 := ()
def PySem.W.Fast.tw6355773879979671343 := ()
def PySem.W.Fast.tw1790513871806403875 := ()
def PySem.W.Fast.tw2181780575629077238 := ()
def PySem.W.Fast.tw13728324913754311294 := ()
def PySem.W.Fast.tw10674316953565977710 := ()
def PySem.W.Fast.tw14564256582999229670 := ()
def PySem.W.Fast.tw13449485268123975433 := ()
def PySem.W.Fast.tw10720640893911989493 := ()
def PySem.W.Fast.tw4181109880227667254 := ()
def PySem.W.Fast.tw1544999677638877571 := ()
def PySem.W.Fast.tw7855456424745760228 := ()
def PySem.W.Fast.tw13492294991074195339 := ()
def PySem.W.Fast.tw16073176782583886291 := ()
def PySem.W.Fast.tw14388160498488703385 := ()
def PySem.W.Fast.tw546352455286958201 := ()
def PySem.W.Fast.tw3735896953175979897 := ()
def PySem.W.Fast.tw11549151011314453416 := ()
def PySem.W.Fast.tw1743850118241129590 := ()
def PySem.W.Fast.tw8301656868313457362 := ()
def PySem.W.Fast.tw8527905132727207354 := ()
def PySem.W.Fast.tw16104254953643619574 := ()
def PySem.W.Fast.tw10129595107578385498 := ()
def PySem.W.Fast.tw5873524793670228212 := ()
def PySem.W.Fast.tw12571665568405236587 := ()
def PySem.W.Fast.tw3885129782847248693 := ()
def PySem.W.Fast.tw8551991676581830837 := ()
def PySem.W.Fast.tw6429252667713090345 := ()
def PySem.W.Fast.tw16119577731856274631 := ()
def PySem.W.Fast.tw10441009095281900135 := ()
def PySem.W.Fast.tw11408990715451477785 := ()
def PySem.W.Fast.tw1858662957828940472 := ()
def PySem.W.Fast.tw1314439010968635878 := ()
def PySem.W.Fast.tw14626754983337383961 := ()
def PySem.W.Fast.tw14901225105383006365 := ()
def PySem.W.Fast.tw8514259309665540785 := ()
def PySem.W.Fast.tw15692693854873129197 := ()
def PySem.W.Fast.tw8877688964165078114 := ()
def PySem.W.Fast.tw10643747375428291755 := ()
def PySem.W.Fast.tw12670570672061716377 := ()
def PySem.W.Fast.tw12736151655471447014 := ()
def PySem.W.Fast.tw16370455516344594607 := ()
def PySem.W.Fast.tw5381025065200921754 := ()
def PySem.W.Fast.tw15062370796199140288 := ()
def PySem.W.Fast.tw2619916879654802067 := ()
def PySem.W.Fast.tw2947367446595261670 := ()
def PySem.W.Fast.tw18284009212459309293 := ()
def PySem.W.Fast.tw1308812487512789848 := ()
def PySem.W.Fast.tw17909260777913634181 := ()
def PySem.W.Fast.tw14636507262379992944 := ()
def PySem.W.Fast.tw626242094570675468 := ()
def PySem.W.Fast.tw14927138569302648891 := ()
def PySem.W.Fast.tw2774408831808646331 := ()
def PySem.W.Fast.tw10795091898912543451 := ()
def PySem.W.Fast.tw16165229296964174803 := ()
def PySem.W.Fast.tw17029006018972425459 := ()
def PySem.W.Fast.tw2124785141866796486 := ()
def PySem.W.Fast.tw2574047200883595103 := ()
def PySem.W.Fast.tw440161376613809740 := ()
def PySem.W.Fast.tw7835622269918733814 := ()
def PySem.W.Fast.tw600433206265057262 := ()
def PySem.W.Fast.tw18279128408617921885 := ()
def PySem.W.Fast.tw5969877798462597850 := ()
def PySem.W.Fast.tw4636249074755183728 := ()
def PySem.W.Fast.tw9330894613450552721 := ()
def PySem.W.Fast.tw5528313350618850139 := ()
def PySem.W.Fast.tw11800070021999829105 := ()
def PySem.W.Fast.tw6636806474213996054 := ()
def PySem.W.Fast.tw4008152044812845232 := ()
def PySem.W.Fast.tw11505867693813139581 := ()
def PySem.W.Fast.tw11725816410685923711 := ()
def PySem.W.Fast.tw18211851032503576654 := ()
def PySem.W.Fast.tw8354288976088687908 := ()
def PySem.W.Fast.tw16352410917973611883 := ()
def PySem.W.Fast.tw11852760331446531783 := ()
def PySem.W.Fast.tw7519444869589325291 := ()
def PySem.W.Fast.tw3699085320663610427 := ()
def PySem.W.Fast.tw1916986130894192649 := ()
def PySem.W.Fast.tw16486730974501446965 := ()
def PySem.W.Fast.tw9234576149261731407 := ()
def PySem.W.Fast.tw14805800954788376457 := ()
def PySem.W.Fast.tw10810442115933541883 := ()
def PySem.W.Fast.tw7218165297207751726 := ()
def PySem.W.Fast.tw12316194893520610795 := ()
def PySem.W.Fast.tw9935184467330166767 := ()
def PySem.W.Fast.tw11991131506023237420 := ()
def PySem.W.Fast.tw1920294543630424925 := ()
def PySem.W.Fast.tw3258979509038734534 := ()
def PySem.W.Fast.tw5829565743916866059 := ()
def PySem.W.Fast.tw5253107716334724862 := ()
def PySem.W.Fast.tw4055003974195407943 := ()
def PySem.W.Fast.tw13703651684170258455 := ()
def PySem.W.Fast.tw10602588475041136853 := ()
def PySem.W.Fast.tw9949911886805770621 := ()
def PySem.W.Fast.tw14792040228855268522 := ()
def PySem.W.Fast.tw11270860740413783691 := ()
def PySem.W.Fast.tw1014528765612789271 := ()
def PySem.W.Fast.tw8361043867681318800 := ()
def PySem.W.Fast.tw6912952828398971000 := ()
def PySem.W.Fast.tw17831547902807778818 := ()
def PySem.W.Fast.tw14028913481215488190 := ()
def PySem.W.Fast.tw4532258216677268995 := ()
def PySem.W.Fast.tw6455702039025919118 := ()
def PySem.W.Fast.tw11043139998544562045 := ()
def PySem.W.Fast.tw13088082684360031233 := ()
def PySem.W.Fast.tw6717833986531756105 := ()
def PySem.W.Fast.tw2318858979042459488 := ()
def PySem.W.Fast.tw8376813959647513639 := ()
def PySem.W.Fast.tw12215553994631877329 := ()
def PySem.W.Fast.tw17619899652827508234 := ()
def PySem.W.Fast.tw243131824491898576 := ()
def PySem.W.Fast.tw4204283630341489801 := ()
def PySem.W.Fast.tw17732564201294983800 := ()
def PySem.W.Fast.tw11527019914559671674 := ()
def PySem.W.Fast.tw8668479322402142216 := ()
def PySem.W.Fast.tw17156612731885074606 := ()
def PySem.W.Fast.tw12471114868741060531 := ()
def PySem.W.Fast.tw11760178781540245154 := ()
def PySem.W.Fast.tw6797230525710865886 := ()
def PySem.W.Fast.tw15255391214382682900 := ()
def PySem.W.Fast.tw1553392652953384759 := ()
def PySem.W.Fast.tw2776327948727931224 := ()
def PySem.W.Fast.tw1519691325444399065 := ()
def PySem.W.Fast.tw5466316368849680248 := ()
def PySem.W.Fast.tw15131669045755380332 := ()
def PySem.W.Fast.tw17360137666449143330 := ()
def PySem.W.Fast.tw9315402913064646869 := ()
def PySem.W.Fast.tw8790627956620578257 := ()
def PySem.W.Fast.tw17459737942750267252 := ()
def PySem.W.Fast.tw9946125743363942098 := ()
def PySem.W.Fast.tw9497490115051408046 := ()
def PySem.W.Fast.tw11094342567501722094 := ()
def PySem.W.Fast.tw2884605661671080605 := ()
def PySem.W.Fast.tw7460107551138391767 := ()
def PySem.W.Fast.tw6791087245372251715 := ()
def PySem.W.Fast.tw1210721788178630805 := ()
def PySem.W.Fast.tw134725766521363467 := ()
def PySem.W.Fast.tw17453420162445382677 := ()
def PySem.W.Fast.tw17229194578592237057 := ()
def PySem.W.Fast.tw4423323648407127390 := ()
def PySem.W.Fast.tw16811471211748570431 := ()
def PySem.W.Fast.tw8596694521226144402 := ()
def PySem.W.Fast.tw13213196381476921959 := ()
def PySem.W.Fast.tw4624725290121073937 := ()
def PySem.W.Fast.tw14313528346772523956 := ()
def PySem.W.Fast.tw11568800015859690576 := ()
def PySem.W.Fast.tw6573954951112782269 := ()
def PySem.W.Fast.tw16368892471030283487 := ()
def PySem.W.Fast.tw15946670164250546842 := ()
def PySem.W.Fast.tw15967732212774188780 := ()
def PySem.W.Fast.tw14629885372295401726 := ()
def PySem.W.Fast.tw453230948324869482 := ()
def PySem.W.Fast.tw1131277497095582841 := ()
def PySem.W.Fast.tw10547833955161697155 := ()
def PySem.W.Fast.tw3232621405541970869 := ()
def PySem.W.Fast.tw18062689621386434297 := ()
def PySem.W.Fast.tw2045258434864345762 := ()
def PySem.W.Fast.tw880635643144963760 := ()
def PySem.W.Fast.tw1769003076037856853 := ()
def PySem.W.Fast.tw1138436786465123724 := ()
def PySem.W.Fast.tw6507411302517797659 := ()
def PySem.W.Fast.tw9492651523639018036 := ()
def PySem.W.Fast.tw8429053401402314424 := ()
def PySem.W.Fast.tw102712911169808869 := ()
def PySem.W.Fast.tw12235446824343300425 := ()
def PySem.W.Fast.tw14237157348852809729 := ()
def PySem.W.Fast.tw11740474160373997315 := ()
def PySem.W.Fast.tw11897055989685224474 := ()
def PySem.W.Fast.tw4231456210790900740 := ()
def PySem.W.Fast.tw384106718354542886 := ()
def PySem.W.Fast.tw4061617404730304852 := ()
def PySem.W.Fast.tw7326427137717628061 := ()
def PySem.W.Fast.tw3484806549793497219 := ()
def PySem.W.Fast.tw1665624905511252267 := ()
def PySem.W.Fast.tw12295653386505292791 := ()
def PySem.W.Fast.tw9086529963484779089 := ()
def PySem.W.Fast.tw3184413824455543865 := ()
def PySem.W.Fast.tw15432411279693625153 := ()
def PySem.W.Fast.tw10792810181624170512 := ()
def PySem.W.Fast.tw14681731309116124140 := ()
def PySem.W.Fast.tw312299807398362337 := ()
def PySem.W.Fast.tw6523600137177689824 := ()
def PySem.W.Fast.tw13774782357347667382 := ()
def PySem.W.Fast.tw17498275388814123904 := ()
def PySem.W.Fast.tw4469503173542845554 := ()
def PySem.W.Fast.tw13015778569133611962 := ()
def PySem.W.Fast.tw5301677752474325102 := ()
def PySem.W.Fast.tw426293528635939517 := ()
def PySem.W.Fast.tw8532368094401799645 := ()
def PySem.W.Fast.tw6306445939305495914 := ()
def PySem.W.Fast.tw8129569323640699130 := ()
def PySem.W.Fast.tw18330568283408584484 := ()
def PySem.W.Fast.tw17651751896992482460 := ()
def PySem.W.Fast.tw16549435312796472753 := ()
def PySem.W.Fast.tw2633077667067016567 := ()
def PySem.W.Fast.tw1543278499485948008 := ()
def PySem.W.Fast.tw13207743156710031015 := ()
def PySem.W.Fast.tw12535262076462961644 := ()
def PySem.W.Fast.tw3139225321767579928 := ()
def PySem.W.Fast.tw7258736164052844653 := ()
def PySem.W.Fast.tw16330237724623663513 := ()
def PySem.W.Fast.tw3547180688156319733 := ()
def PySem.W.Fast.tw5467461773896064651 := ()
def PySem.W.Fast.tw15052007442096431300 := ()
def PySem.W.Fast.tw12816609143375228315 := ()
def PySem.W.Fast.tw5396095098913864494 := ()
def PySem.W.Fast.tw13526222582952056050 := ()
def PySem.W.Fast.tw8226515031659224873 := ()
def PySem.W.Fast.tw13795948239542074641 := ()
def PySem.W.Fast.tw1585874274541461803 := ()
def PySem.W.Fast.tw9942305559784525203 := ()
def PySem.W.Fast.tw2879191871894852766 := ()
def PySem.W.Fast.tw11003348379371805683 := ()
def PySem.W.Fast.tw4049629921441267771 := ()
def PySem.W.Fast.tw13020062788052389242 := ()
def PySem.W.Fast.tw13687171170073966205 := ()
def PySem.W.Fast.tw11513727010891116441 := ()
def PySem.W.Fast.tw14192533686232856599 := ()
def PySem.W.Fast.tw5712173449943694699 := ()
def PySem.W.Fast.tw10330025245585372792 := ()
def PySem.W.Fast.tw12280664198022681058 := ()
def PySem.W.Fast.tw8607728547789213757 := ()
def PySem.W.Fast.tw4735057509330328662 := ()
def PySem.W.Fast.tw13732357855137365891 := ()
def PySem.W.Fast.tw7553492494085445716 := ()
def PySem.W.Fast.tw13188837791617146984 := ()
def PySem.W.Fast.tw4947837229349910805 := ()
def PySem.W.Fast.tw14633819039046419840 := ()
def PySem.W.Fast.tw1945332272132803800 := ()
def PySem.W.Fast.tw13670760925192108810 := ()
def PySem.W.Fast.tw17375404917387950251 := ()
def PySem.W.Fast.tw579739171984568489 := ()
def PySem.W.Fast.tw10088643906894244944 := ()
def PySem.W.Fast.tw11277538071987424636 := ()
def PySem.W.Fast.tw5554419507151609642 := ()
def PySem.W.Fast.tw3593566869237454223 := ()
def PySem.W.Fast.tw16607646300091319638 := ()
def PySem.W.Fast.tw4049388294124902107 := ()
def PySem.W.Fast.tw17544288379968610267 := ()
def PySem.W.Fast.tw3580648162868556626 := ()
def PySem.W.Fast.tw5670111588357856177 := ()
def PySem.W.Fast.tw3148150985198393317 := ()
def PySem.W.Fast.tw14437250894216775825 := ()
def PySem.W.Fast.tw15313203383996548581 := ()
def PySem.W.Fast.tw11981444099053748857 := ()
def PySem.W.Fast.tw4786135206732143385 := ()
def PySem.W.Fast.tw8981956782312972788 := ()
def PySem.W.Fast.tw13702686375840106748 := ()
def PySem.W.Fast.tw10079234360318024318 := ()
def PySem.W.Fast.tw11529614085540403093 := ()
def PySem.W.Fast.tw17019946055289079009 := ()
def PySem.W.Fast.tw120219433788007351 := ()
def PySem.W.Fast.tw15145894804020821212 := ()
def PySem.W.Fast.tw8412214246114452057 := ()
def PySem.W.Fast.tw6880773449622225533 := ()
def PySem.W.Fast.tw10884632603547235578 := ()
def PySem.W.Fast.tw9412020028564544284 := ()
def PySem.W.Fast.tw16544776360631341706 := ()
def PySem.W.Fast.tw11330924979983700031 := ()
def PySem.W.Fast.tw13653182680243299666 := ()
def PySem.W.Fast.tw7703116370924775826 := ()
def PySem.W.Fast.tw16602048924098140042 := ()
def PySem.W.Fast.tw1615282163199917368 := ()
def PySem.W.Fast.tw1645774057590104349 := ()
def PySem.W.Fast.tw14906846758145414201 := ()
def PySem.W.Fast.tw6374106309517499522 := ()
def PySem.W.Fast.tw12709497657177655240 := ()
def PySem.W.Fast.tw12126716041761603995 := ()
def PySem.W.Fast.tw1127102039975478890 := ()
def PySem.W.Fast.tw8725995934196234726 := ()
def PySem.W.Fast.tw5401046704788134331 := ()
def PySem.W.Fast.tw8305736503354845120 := ()
def PySem.W.Fast.tw3553601396091303219 := ()
def PySem.W.Fast.tw8358120217229570038 := ()
def PySem.W.Fast.tw16423883362201312841 := ()
def PySem.W.Fast.tw8256544124350065038 := ()
def PySem.W.Fast.tw2764123020736683981 := ()
def PySem.W.Fast.tw2850138295802829376 := ()
def PySem.W.Fast.tw5920715685896506282 := ()
def PySem.W.Fast.tw7020755034374902581 := ()
def PySem.W.Fast.tw9882896771230100650 := ()
def PySem.W.Fast.tw8415178757587526138 := ()
def PySem.W.Fast.tw8134360827080219430 := ()
def PySem.W.Fast.tw2432034677261907887 := ()
def PySem.W.Fast.tw9650540432086018139 := ()
def PySem.W.Fast.tw16278340281241696903 := ()
def PySem.W.Fast.tw7756906341347663773 := ()
def PySem.W.Fast.tw14489549969902777367 := ()
def PySem.W.Fast.tw4945732477749611334 := ()
def PySem.W.Fast.tw8040754270834253711 := ()
def PySem.W.Fast.tw6456266936526220780 := ()
def PySem.W.Fast.tw3241196955521925075 := ()
def PySem.W.Fast.tw15689738121167675529 := ()
def PySem.W.Fast.tw5646905624105501897 := ()
def PySem.W.Fast.tw17107981863432933755 := ()
def PySem.W.Fast.tw15173563615877358883 := ()
def PySem.W.Fast.tw10282655411965804501 := ()
def PySem.W.Fast.tw667217136511176489 := ()
def PySem.W.Fast.tw7612079203087086980 := ()
def PySem.W.Fast.tw16732278370174093911 := ()
def PySem.W.Fast.tw143819874829316286 := ()
def PySem.W.Fast.tw14289170562992435198 := ()
def PySem.W.Fast.tw6979708575419289135 := ()
def PySem.W.Fast.tw2601655222669552632 := ()
def PySem.W.Fast.tw12378958351454596511 := ()
def PySem.W.Fast.tw9378793297287520673 := ()
def PySem.W.Fast.tw15305443156671683332 := ()
def PySem.W.Fast.tw1419289581027618220 := ()
def PySem.W.Fast.tw15084744882915796177 := ()
def PySem.W.Fast.tw2360308472137777552 := ()
def PySem.W.Fast.tw4379327657176234636 := ()
def PySem.W.Fast.tw1225874571264247901 := ()
def PySem.W.Fast.tw12020877094809714998 := ()
def PySem.W.Fast.tw1759603513651840838 := ()
def PySem.W.Fast.tw8242051566553129974 := ()
def PySem.W.Fast.tw11330710970958609753 := ()
def PySem.W.Fast.tw5569796766317186818 := ()
def PySem.W.Fast.tw13990921467566934787 := ()
def PySem.W.Fast.tw10018737864549304103 := ()
def PySem.W.Fast.tw11593462277290466452 := ()
def PySem.W.Fast.tw15666723800794285918 := ()
def PySem.W.Fast.tw8114375566000275532 := ()
def PySem.W.Fast.tw15387954840878665677 := ()
def PySem.W.Fast.tw1203888601121569679 := ()
def PySem.W.Fast.tw8104808738898679449 := ()
def PySem.W.Fast.tw550429574544889738 := ()
def PySem.W.Fast.tw3575927561906605676 := ()
def PySem.W.Fast.tw1338123670871855451 := ()
def PySem.W.Fast.tw1103053341070531958 := ()
def PySem.W.Fast.tw13926927731015141076 := ()
def PySem.W.Fast.tw13516259917470241414 := ()
def PySem.W.Fast.tw2820607440853595364 := ()
def PySem.W.Fast.tw8783069457301289873 := ()
def PySem.W.Fast.tw11722495918809128235 := ()
def PySem.W.Fast.tw30979332398479393 := ()
def PySem.W.Fast.tw9066599367828996300 := ()
def PySem.W.Fast.tw17055547892316543468 := ()
def PySem.W.Fast.tw3350047250528457324 := ()
def PySem.W.Fast.tw64262157624071657 := ()
def PySem.W.Fast.tw15530076687137603470 := ()
def PySem.W.Fast.tw7536433762229860093 := ()
def PySem.W.Fast.tw2903670793864164469 := ()
def PySem.W.Fast.tw4379335455190541111 := ()
def PySem.W.Fast.tw11969746589873817901 := ()
def PySem.W.Fast.tw9998274267287398107 := ()
def PySem.W.Fast.tw452091732520568008 := ()
def PySem.W.Fast.tw12107290722324842060 := ()
def PySem.W.Fast.tw8706125332007223488 := ()
def PySem.W.Fast.tw6822107736643228101 := ()
def PySem.W.Fast.tw11662866635762950734 := ()
def PySem.W.Fast.tw15189150841863077816 := ()
def PySem.W.Fast.tw1955602515225541929 := ()
def PySem.W.Fast.tw9353301440856137176 := ()
def PySem.W.Fast.tw17082968214860109175 := ()
def PySem.W.Fast.tw5182661315072927729 := ()
def PySem.W.Fast.tw3089905241163202628 := ()
def PySem.W.Fast.tw16001911950062490311 := ()
def PySem.W.Fast.tw1281162383866915647 := ()
def PySem.W.Fast.tw11851499806650852789 := ()
def PySem.W.Fast.tw2649437834003073296 := ()
def PySem.W.Fast.tw8900248607818351668 := ()
def PySem.W.Fast.tw3822070240088156752 := ()
def PySem.W.Fast.tw9289285199754632576 := ()
def PySem.W.Fast.tw15088967996591287189 := ()
def PySem.W.Fast.tw18180409849271419126 := ()
def PySem.W.Fast.tw15059993393277836596 := ()
def PySem.W.Fast.tw11017638209691952904 := ()
def PySem.W.Fast.tw8730634933640849247 := ()
def PySem.W.Fast.tw17988599897091059655 := ()
def PySem.W.Fast.tw6708098684639235704 := ()
def PySem.W.Fast.tw13896412812348893002 := ()
def PySem.W.Fast.tw860461971419768991 := ()
def PySem.W.Fast.tw2735527817077734457 := ()
def PySem.W.Fast.tw10954431608462983362 := ()
def PySem.W.Fast.tw10162782277847182987 := ()
def PySem.W.Fast.tw9058577857733691027 := ()
def PySem.W.Fast.tw8609726998093337702 := ()
def PySem.W.Fast.tw17368271543000828747 := ()
def PySem.W.Fast.tw4789370158279903120 := ()
def PySem.W.Fast.tw8379283476530975481 := ()
def PySem.W.Fast.tw14476800147018709333 := ()
def PySem.W.Fast.tw964724521686611770 := ()
def PySem.W.Fast.tw7980027934982612644 := ()
def PySem.W.Fast.tw6644670139277431322 := ()
def PySem.W.Fast.tw8527007451131762632 := ()
def PySem.W.Fast.tw8579924336354443729 := ()
def PySem.W.Fast.tw7746772609212452042 := ()
def PySem.W.Fast.tw16885887395877781969 := ()
def PySem.W.Fast.tw2787861040643910518 := ()
def PySem.W.Fast.tw4034415146136077568 := ()
def PySem.W.Fast.tw13322988276191912605 := ()
def PySem.W.Fast.tw3152438274503063132 := ()
def PySem.W.Fast.tw12949671600507543911 := ()
def PySem.W.Fast.tw18398199512259620346 := ()
def PySem.W.Fast.tw7584663296851747092 := ()
def PySem.W.Fast.tw16684280988941992369 := ()
def PySem.W.Fast.tw7439929344829927439 := ()
def PySem.W.Fast.tw16261897712359877148 := ()
def PySem.W.Fast.tw5577663629429489782 := ()
def PySem.W.Fast.tw14856886836293013195 := ()
def PySem.W.Fast.tw6631291246930698936 := ()
def PySem.W.Fast.tw2594153027068832821 := ()
def PySem.W.Fast.tw11482564990987037180 := ()
def PySem.W.Fast.tw11329265661792885400 := ()
def PySem.W.Fast.tw8428630089784121632 := ()
def PySem.W.Fast.tw17176622444297843257 := ()
def PySem.W.Fast.tw2626488354021034601 := ()
def PySem.W.Fast.tw2430296181508073652 := ()
def PySem.W.Fast.tw1343331898307659916 := ()
def PySem.W.Fast.tw995610158060254858 := ()
def PySem.W.Fast.tw10221870453527639052 := ()
def PySem.W.Fast.tw9820185813741383043 := ()
def PySem.W.Fast.tw16317827868991531430 := ()
def PySem.W.Fast.tw3301235964813553324 := ()
def PySem.W.Fast.tw16552817294683830970 := ()
def PySem.W.Fast.tw14310531514937245545 := ()
def PySem.W.Fast.tw17383344381662272662 := ()
def PySem.W.Fast.tw5868615504615082875 := ()
def PySem.W.Fast.tw14627261073473809586 := ()
def PySem.W.Fast.tw4942697762239869871 := ()
def PySem.W.Fast.tw2419483717919248598 := ()
def PySem.W.Fast.tw4776664474273666128 := ()
def PySem.W.Fast.tw875317804234487664 := ()
def PySem.W.Fast.tw9223842677584795558 := ()
def PySem.W.Fast.tw7564104400377529485 := ()
def PySem.W.Fast.tw16649558954579053634 := ()
def PySem.W.Fast.tw10524860933038810668 := ()
def PySem.W.Fast.tw8985915384116035696 := ()
def PySem.W.Fast.tw17291318579147942378 := ()
def PySem.W.Fast.tw17420659512472776082 := ()
def PySem.W.Fast.tw6518274712370154501 := ()
def PySem.W.Fast.tw18377245944019222513 := ()
def PySem.W.Fast.tw6345111971929337643 := ()
def PySem.W.Fast.tw381406383929017867 := ()
def PySem.W.Fast.tw18075010104170627883 := ()
def PySem.W.Fast.tw13746701002565007552 := ()
def PySem.W.Fast.tw18392181899737541289 := ()
def PySem.W.Fast.tw9352097354806683032 := ()
def PySem.W.Fast.tw17363584175860711645 := ()
def PySem.W.Fast.tw1430606278681642616 := ()
def PySem.W.Fast.tw6797162337234662608 := ()
def PySem.W.Fast.tw7465912996343322198 := ()
def PySem.W.Fast.tw2893522799703369152 := ()
def PySem.W.Fast.tw16815480595800802914 := ()
def PySem.W.Fast.tw7290078886467304167 := ()
def PySem.W.Fast.tw6084634725285465982 := ()
def PySem.W.Fast.tw11875279565559304718 := ()
def PySem.W.Fast.tw9489470038246538244 := ()
def PySem.W.Fast.tw638427907926342455 := ()
def PySem.W.Fast.tw15438110727461401048 := ()
def PySem.W.Fast.tw5458918513825020374 := ()
def PySem.W.Fast.tw4024646803891269347 := ()
def PySem.W.Fast.tw2036399973195371329 := ()
def PySem.W.Fast.tw3617345213823286500 := ()
def PySem.W.Fast.tw8902418479299894698 := ()
def PySem.W.Fast.tw2273580074806942567 := ()
def PySem.W.Fast.tw14029652237883264503 := ()
def PySem.W.Fast.tw13846659566744223324 := ()
def PySem.W.Fast.tw17786281604138702482 := ()
def PySem.W.Fast.tw3309853055696285750 := ()
def PySem.W.Fast.tw9657984884476212331 := ()
def PySem.W.Fast.tw5177959879740641160 := ()
def PySem.W.Fast.tw11519702324307947641 := ()
def PySem.W.Fast.tw14296082208534850006 := ()
def PySem.W.Fast.tw1861374304168622821 := ()
def PySem.W.Fast.tw11221522155384782816 := ()
def PySem.W.Fast.tw15260713207474178178 := ()
def PySem.W.Fast.tw8185318065259555486 := ()
def PySem.W.Fast.tw1779724995139603479 := ()
def PySem.W.Fast.tw3924701755227957981 := ()
def PySem.W.Fast.tw17907903711396917139 := ()
def PySem.W.Fast.tw13157411426055277382 := ()
def PySem.W.Fast.tw4371940005157910883 := ()
def PySem.W.Fast.tw12897092048506952701 := ()
def PySem.W.Fast.tw5873760292415487209 := ()
def PySem.W.Fast.tw3780438035776556347 := ()
def PySem.W.Fast.tw14500071182430401793 := ()
def PySem.W.Fast.tw14395508959425718321 := ()
def PySem.W.Fast.tw270559197173497811 := ()
def PySem.W.Fast.tw2435601230577830868 := ()
def PySem.W.Fast.tw5705089803035056758 := ()
def PySem.W.Fast.tw12305201397348786325 := ()
def PySem.W.Fast.tw14173072616864544976 := ()
def PySem.W.Fast.tw11054324780706535065 := ()
def PySem.W.Fast.tw15585838764368706685 := ()
def PySem.W.Fast.tw10682809537009286961 := ()
def PySem.W.Fast.tw8625216012559061588 := ()
def PySem.W.Fast.tw289970688546092200 := ()
def PySem.W.Fast.tw6267059973034207972 := ()
def PySem.W.Fast.tw11564412051323751686 := ()
def PySem.W.Fast.tw8813292145086431980 := ()
def PySem.W.Fast.tw1888662806284592447 := ()
def PySem.W.Fast.tw167439049503486734 := ()
def PySem.W.Fast.tw8738581340839383009 := ()
def PySem.W.Fast.tw10258813213850853947 := ()
def PySem.W.Fast.tw4242778970852500704 := ()
def PySem.W.Fast.tw1405968663679771268 := ()
def PySem.W.Fast.tw12121442287896232620 := ()
def PySem.W.Fast.tw16541371911485576076 := ()
def PySem.W.Fast.tw6275264996297376436 := ()
def PySem.W.Fast.tw16316311899713469462 := ()
def PySem.W.Fast.tw11903040120198692491 := ()
def PySem.W.Fast.tw11437016103930201961 := ()
def PySem.W.Fast.tw4873978286678755504 := ()
def PySem.W.Fast.tw5577766760358789479 := ()
def PySem.W.Fast.tw6946796287997484470 := ()
def PySem.W.Fast.tw14287403417787862377 := ()
def PySem.W.Fast.tw5586757795392443117 := ()
def PySem.W.Fast.tw11437635361668397624 := ()
def PySem.W.Fast.tw11079983174666582527 := ()
def PySem.W.Fast.tw13441963361505768449 := ()
def PySem.W.Fast.tw14944558421393746946 := ()
def PySem.W.Fast.tw7023042966831369046 := ()
def PySem.W.Fast.tw14424339634480158927 := ()
def PySem.W.Fast.tw8985326715530431727 := ()
def PySem.W.Fast.tw4735302251833198027 := ()
def PySem.W.Fast.tw5576227767816611783 := ()
def PySem.W.Fast.tw6205397478347318350 := ()
def PySem.W.Fast.tw7382443784221800898 := ()
def PySem.W.Fast.tw12160137032742799117 := ()
def PySem.W.Fast.tw11677665959364453368 := ()
def PySem.W.Fast.tw13336858894034587080 := ()
def PySem.W.Fast.tw16323736147305719071 := ()
def PySem.W.Fast.tw6596123664480640577 := ()
def PySem.W.Fast.tw4695475895546934685 := ()
def PySem.W.Fast.tw10566092810073208199 := ()
def PySem.W.Fast.tw12126069347770827946 := ()
def PySem.W.Fast.tw2642976200490476713 := ()
def PySem.W.Fast.tw15819468258459565091 := ()
def PySem.W.Fast.tw16615431159519290105 := ()
def PySem.W.Fast.tw17458036182994715611 := ()
def PySem.W.Fast.tw1292769700780255015 := ()
def PySem.W.Fast.tw14751449382414861149 := ()
def PySem.W.Fast.tw9150891405270609072 := ()
def PySem.W.Fast.tw15058045206881911525 := ()
def PySem.W.Fast.tw3400697766799368910 := ()
def PySem.W.Fast.tw1565562224222480616 := ()
def PySem.W.Fast.tw10174453709332144769 := ()
def PySem.W.Fast.tw17012122408353140120 := ()
def PySem.W.Fast.tw13400100312964014921 := ()
def PySem.W.Fast.tw5373223693645827019 := ()
def PySem.W.Fast.tw7222957755649573795 := ()
def PySem.W.Fast.tw4690342328274555283 := ()
def PySem.W.Fast.tw10027042358233248108 := ()
def PySem.W.Fast.tw5745760882302318658 := ()
def PySem.W.Fast.tw2883413180816867649 := ()
def PySem.W.Fast.tw11951860154330482535 := ()
def PySem.W.Fast.tw2307614703582455348 := ()
def PySem.W.Fast.tw4948991702230435406 := ()
def PySem.W.Fast.tw13807468477156190378 := ()
def PySem.W.Fast.tw8397156549880757286 := ()
def PySem.W.Fast.tw8465559376044703865 := ()
def PySem.W.Fast.tw1513377581425283821 := ()
def PySem.W.Fast.tw12158510478646129476 := ()
def PySem.W.Fast.tw6255481529727070112 := ()
def PySem.W.Fast.tw16742102421533567660 := ()
def PySem.W.Fast.tw3008649341320120951 := ()
def PySem.W.Fast.tw3136098409447709698 := ()
def PySem.W.Fast.tw1608902218107040205 := ()
def PySem.W.Fast.tw3220755911967015484 := ()
def PySem.W.Fast.tw7294759009422630987 := ()
def PySem.W.Fast.tw2135183400062763838 := ()
def PySem.W.Fast.tw5513771557732798485 := ()
def PySem.W.Fast.tw4818000136204276651 := ()
def PySem.W.Fast.tw1076641273865274937 := ()
def PySem.W.Fast.tw1006375654050056322 := ()
def PySem.W.Fast.tw7211480656314421532 := ()
def PySem.W.Fast.tw16525659772334432184 := ()
def PySem.W.Fast.tw16938079474110073245 := ()
def PySem.W.Fast.tw6317376588999053149 := ()
def PySem.W.Fast.tw4176020074938084137 := ()
def PySem.W.Fast.tw12367500413146679328 := ()
def PySem.W.Fast.tw9070102171950338965 := ()
def PySem.W.Fast.tw9589260593836560532 := ()
def PySem.W.Fast.tw16930130706101973270 := ()
def PySem.W.Fast.tw453912322773322272 := ()
def PySem.W.Fast.tw7006734055215246881 := ()
def PySem.W.Fast.tw11589215666998597548 := ()
def PySem.W.Fast.tw6634155222656343718 := ()
def PySem.W.Fast.tw16954909648030326420 := ()
def PySem.W.Fast.tw6865782875394160586 := ()
def PySem.W.Fast.tw1510728653545479280 := ()
def PySem.W.Fast.tw10760156585867377484 := ()
def PySem.W.Fast.tw16930617892181121297 := ()
def PySem.W.Fast.tw12762373820713326719 := ()
def PySem.W.Fast.tw15516799277275599606 := ()
def PySem.W.Fast.tw6177448163085266146 := ()
def PySem.W.Fast.tw10711334361971900184 := ()
def PySem.W.Fast.tw7872831408774580450 := ()
def PySem.W.Fast.tw72418136721345288 := ()
def PySem.W.Fast.tw15461493879950609011 := ()
def PySem.W.Fast.tw11553063975562210936 := ()
def PySem.W.Fast.tw3862930372667302115 := ()
def PySem.W.Fast.tw2681710571213252601 := ()
def PySem.W.Fast.tw16942462700873013252 := ()
def PySem.W.Fast.tw2613464109950543278 := ()
def PySem.W.Fast.tw16421844275041322680 := ()
def PySem.W.Fast.tw7399034329215000369 := ()
def PySem.W.Fast.tw4171934746648564098 := ()
def PySem.W.Fast.tw4611910336126311268 := ()
def PySem.W.Fast.tw8465585466171748967 := ()
def PySem.W.Fast.tw5681588113894164868 := ()
def PySem.W.Fast.tw6388630785702304113 := ()
def PySem.W.Fast.tw7405722423540312889 := ()
def PySem.W.Fast.tw4921595648444406766 := ()
def PySem.W.Fast.tw12272919513908131185 := ()
def PySem.W.Fast.tw9973926402832523027 := ()
def PySem.W.Fast.tw761961174608032592 := ()
def PySem.W.Fast.tw2736260658534432202 := ()
def PySem.W.Fast.tw5845165170126016523 := ()
def PySem.W.Fast.tw5583953493541682047 := ()
def PySem.W.Fast.tw17949318531644924469 := ()
def PySem.W.Fast.tw10802368316829715703 := ()
def PySem.W.Fast.tw1367346911346633281 := ()
def PySem.W.Fast.tw2340416967343955103 := ()
def PySem.W.Fast.tw12609795032878062199 := ()
def PySem.W.Fast.tw3493454850621005729 := ()
def PySem.W.Fast.tw14626942282228950569 := ()
def PySem.W.Fast.tw2911069660804387819 := ()
def PySem.W.Fast.tw1213307803300928921 := ()
def PySem.W.Fast.tw11533469471098130284 := ()
def PySem.W.Fast.tw14939623211359341019 := ()
def PySem.W.Fast.tw8306617051173654071 := ()
def PySem.W.Fast.tw10337184540114575597 := ()
def PySem.W.Fast.tw5446101111842684614 := ()
def PySem.W.Fast.tw5504600487722049025 := ()
def PySem.W.Fast.tw16403862998151630325 := ()
def PySem.W.Fast.tw17736493602466833816 := ()
def PySem.W.Fast.tw7964643260007432294 := ()
def PySem.W.Fast.tw10797503260202661291 := ()
def PySem.W.Fast.tw11580146683540199882 := ()
def PySem.W.Fast.tw7479012498494281640 := ()
def PySem.W.Fast.tw2629726792761921432 := ()
def PySem.W.Fast.tw10567360918877251760 := ()
def PySem.W.Fast.tw18368507810165850827 := ()
def PySem.W.Fast.tw6423409319799047925 := ()
def PySem.W.Fast.tw17538270853234366048 := ()
def PySem.W.Fast.tw9000070986921867729 := ()
def PySem.W.Fast.tw5366221921240663374 := ()
def PySem.W.Fast.tw9362204510632665365 := ()
def PySem.W.Fast.tw17512724019361621526 := ()
def PySem.W.Fast.tw906312953143313620 := ()
def PySem.W.Fast.tw3716885813090017303 := ()
def PySem.W.Fast.tw4025464003796000311 := ()
def PySem.W.Fast.tw1991326994405613882 := ()
def PySem.W.Fast.tw12477188425374217034 := ()
def PySem.W.Fast.tw8114643456444809321 := ()
def PySem.W.Fast.tw288298459240124165 := ()
def PySem.W.Fast.tw11294752263598362969 := ()
def PySem.W.Fast.tw17381322061384337191 := ()
def PySem.W.Fast.tw16944004380214143261 := ()
def PySem.W.Fast.tw7727939303411630435 := ()
def PySem.W.Fast.tw11597496365248638484 := ()
def PySem.W.Fast.tw24424129328766101 := ()
def PySem.W.Fast.tw10859134237486708506 := ()
def PySem.W.Fast.tw9985187792671963632 := ()
def PySem.W.Fast.tw11830665605715196458 := ()
def PySem.W.Fast.tw9766710225978050811 := ()
def PySem.W.Fast.tw7521184759949747833 := ()
def PySem.W.Fast.tw9332315007915204559 := ()
def PySem.W.Fast.tw760007851894421524 := ()
def PySem.W.Fast.tw13894240517289557747 := ()
def PySem.W.Fast.tw7777027709836647112 := ()
def PySem.W.Fast.tw7466113741361092416 := ()
def PySem.W.Fast.tw17045792784149609534 := ()
def PySem.W.Fast.tw14966364942437068302 := ()
def PySem.W.Fast.tw13686460227354256997 := ()
def PySem.W.Fast.tw1987064665515566231 := ()
def PySem.W.Fast.tw11955427489996665835 := ()
def PySem.W.Fast.tw16532858192520395992 := ()
def PySem.W.Fast.tw7475198191299201908 := ()
def PySem.W.Fast.tw13689649483639813705 := ()
def PySem.W.Fast.tw3309378343583676223 := ()
def PySem.W.Fast.tw6575174838777042889 := ()
def PySem.W.Fast.tw3074462167549589340 := ()
def PySem.W.Fast.tw4126296206585813357 := ()
def PySem.W.Fast.tw9243983007823915303 := ()
def PySem.W.Fast.tw7697773265189852786 := ()
def PySem.W.Fast.tw12025384776467684149 := ()
def PySem.W.Fast.tw17680744198817980219 := ()
def PySem.W.Fast.tw2226499099271538680 := ()
def PySem.W.Fast.tw10140380880570346870 := ()
def PySem.W.Fast.tw6009755904380978701 := ()
def PySem.W.Fast.tw1419863515254404325 := ()
def PySem.W.Fast.tw2143392585829068954 := ()
def PySem.W.Fast.tw85885328915402617 := ()
def PySem.W.Fast.tw7276473039958167684 := ()
def PySem.W.Fast.tw1114072719540837101 := ()
def PySem.W.Fast.tw5113043735794618557 := ()
def PySem.W.Fast.tw18188554571423007098 := ()
def PySem.W.Fast.tw16061848398209653343 := ()
def PySem.W.Fast.tw9670218895661775261 := ()
def PySem.W.Fast.tw7695118173003806877 := ()
def PySem.W.Fast.tw16026714079814639324 := ()
def PySem.W.Fast.tw17991370978607819455 := ()
def PySem.W.Fast.tw2139032605397231560 := ()
def PySem.W.Fast.tw651459476941772439 := ()
def PySem.W.Fast.tw17800148832212855903 := ()
def PySem.W.Fast.tw1672506909483932792 := ()
def PySem.W.Fast.tw17925890392599156686 := ()
def PySem.W.Fast.tw13393932763527319255 := ()
def PySem.W.Fast.tw17800070043922442645 := ()
def PySem.W.Fast.tw9471103482390265704 := ()
def PySem.W.Fast.tw5812738887890549163 := ()
def PySem.W.Fast.tw16678436657621914478 := ()
def PySem.W.Fast.tw10056605476166532399 := ()
def PySem.W.Fast.tw17090952971285310402 := ()
def PySem.W.Fast.tw13121622892013049793 := ()
def PySem.W.Fast.tw2352482253837413259 := ()
def PySem.W.Fast.tw10281899590689469499 := ()
def PySem.W.Fast.tw9822012696097114031 := ()
def PySem.W.Fast.tw2822638065740631648 := ()
def PySem.W.Fast.tw17104388540758707663 := ()
def PySem.W.Fast.tw15282702064578993144 := ()
def PySem.W.Fast.tw10099626040958950756 := ()
def PySem.W.Fast.tw12310558595971273328 := ()
def PySem.W.Fast.tw11496647224735900040 := ()
def PySem.W.Fast.tw14959007594876131248 := ()
def PySem.W.Fast.tw17752382645870535788 := ()
def PySem.W.Fast.tw10052991984711445909 := ()
def PySem.W.Fast.tw958073124646199154 := ()
def PySem.W.Fast.tw2286457416423828659 := ()
def PySem.W.Fast.tw16727613808922739283 := ()
def PySem.W.Fast.tw17466335824146213155 := ()
def PySem.W.Fast.tw9514797553495428048 := ()
def PySem.W.Fast.tw10220818979184686313 := ()
def PySem.W.Fast.tw18123991884327798967 := ()
def PySem.W.Fast.tw18435573193786669137 := ()
def PySem.W.Fast.tw4045134194472115318 := ()
def PySem.W.Fast.tw13183634711378221418 := ()
def PySem.W.Fast.tw12073619587832869286 := ()
def PySem.W.Fast.tw2720020491490435718 := ()
def PySem.W.Fast.tw13493435113962488549 := ()
def PySem.W.Fast.tw9779006783809491761 := ()
def PySem.W.Fast.tw2803973923896198072 := ()
def PySem.W.Fast.tw11499289448894591219 := ()
def PySem.W.Fast.tw3547486359604166426 := ()
def PySem.W.Fast.tw1677148209815742991 := ()
def PySem.W.Fast.tw15473454701524407515 := ()
def PySem.W.Fast.tw6768895751293330666 := ()
def PySem.W.Fast.tw6662556644708111823 := ()
def PySem.W.Fast.tw13526136846339048331 := ()
def PySem.W.Fast.tw16788661120037542794 := ()
def PySem.W.Fast.tw14279166758429942482 := ()
def PySem.W.Fast.tw7518456184393177817 := ()
def PySem.W.Fast.tw5225095617831315970 := ()
def PySem.W.Fast.tw10695002875597446734 := ()
def PySem.W.Fast.tw9469688143857502021 := ()
def PySem.W.Fast.tw17276682708860829414 := ()
def PySem.W.Fast.tw6040049403855231519 := ()
def PySem.W.Fast.tw10578260361300317315 := ()
def PySem.W.Fast.tw9977653053898944508 := ()
def PySem.W.Fast.tw8909962687113914289 := ()
def PySem.W.Fast.tw12245944563892536047 := ()
def PySem.W.Fast.tw16578041948024444819 := ()
def PySem.W.Fast.tw912024096273062342 := ()
def PySem.W.Fast.tw7259276087796095040 := ()
def PySem.W.Fast.tw6226839181537274175 := ()
def PySem.W.Fast.tw8275742942217078407 := ()
def PySem.W.Fast.tw8929995309489839118 := ()
def PySem.W.Fast.tw3023489092115349019 := ()
def PySem.W.Fast.tw3339774000449794402 := ()
def PySem.W.Fast.tw9443261549707722294 := ()
def PySem.W.Fast.tw17160566199843799219 := ()
def PySem.W.Fast.tw982994829342619465 := ()
def PySem.W.Fast.tw11434869568264907157 := ()
def PySem.W.Fast.tw2191721160857251755 := ()
def PySem.W.Fast.tw15549401074766532543 := ()
def PySem.W.Fast.tw11197292091246427919 := ()
def PySem.W.Fast.tw10285088963611238731 := ()
def PySem.W.Fast.tw15990863361565394340 := ()
def PySem.W.Fast.tw7541443332706274727 := ()
def PySem.W.Fast.tw6403672137066613299 := ()
def PySem.W.Fast.tw8395962956168676244 := ()
def PySem.W.Fast.tw16263212827066594710 := ()
def PySem.W.Fast.tw14525352406388491256 := ()
def PySem.W.Fast.tw17315235541267797496 := ()
def PySem.W.Fast.tw3040273684411590814 := ()
def PySem.W.Fast.tw3012529874492749125 := ()
def PySem.W.Fast.tw5027473642949817895 := ()
def PySem.W.Fast.tw13103365375493603222 := ()
def PySem.W.Fast.tw17070803562343407953 := ()
def PySem.W.Fast.tw1409538056317671388 := ()
def PySem.W.Fast.tw14193844219556374525 := ()
def PySem.W.Fast.tw13086275663745411046 := ()
def PySem.W.Fast.tw9537298880423445215 := ()
def PySem.W.Fast.tw6155530886377773215 := ()
def PySem.W.Fast.tw2802855573544752149 := ()
def PySem.W.Fast.tw11085590471623647399 := ()
def PySem.W.Fast.tw8068264341149519543 := ()
def PySem.W.Fast.tw3872127408935286892 := ()
def PySem.W.Fast.tw622032269514722566 := ()
def PySem.W.Fast.tw4982716428285979350 := ()
def PySem.W.Fast.tw17014512605942322715 := ()
def PySem.W.Fast.tw1155520040600894874 := ()
def PySem.W.Fast.tw6607826950509911835 := ()
def PySem.W.Fast.tw16711018204716773696 := ()
def PySem.W.Fast.tw14614461859845422735 := ()
def PySem.W.Fast.tw7165141746495201530 := ()
def PySem.W.Fast.tw5205732544517544657 := ()
def PySem.W.Fast.tw9822958845974515042 := ()
def PySem.W.Fast.tw12195971033793656526 := ()
def PySem.W.Fast.tw8902743324448561496 := ()
def PySem.W.Fast.tw10732645152504553070 := ()
def PySem.W.Fast.tw10011089508795161904 := ()
def PySem.W.Fast.tw1534088736956164244 := ()
def PySem.W.Fast.tw16067567751757172543 := ()
def PySem.W.Fast.tw11897358127977222652 := ()
def PySem.W.Fast.tw10971336672735646936 := ()
def PySem.W.Fast.tw8903447927908085647 := ()
def PySem.W.Fast.tw4322880996753166161 := ()
def PySem.W.Fast.tw16165841636546063964 := ()
def PySem.W.Fast.tw14556413297086328879 := ()
def PySem.W.Fast.tw2738689868446766208 := ()
def PySem.W.Fast.tw16869823309902441052 := ()
def PySem.W.Fast.tw18314559403133996595 := ()
def PySem.W.Fast.tw9848222528337886811 := ()
def PySem.W.Fast.tw130516777176881762 := ()
def PySem.W.Fast.tw411455226752413565 := ()
def PySem.W.Fast.tw14797709241093469027 := ()
def PySem.W.Fast.tw11403393667955982498 := ()
def PySem.W.Fast.tw8490021245970117400 := ()
def PySem.W.Fast.tw12163457603655262605 := ()
def PySem.W.Fast.tw1964232655307831391 := ()
def PySem.W.Fast.tw15652309574752919306 := ()
def PySem.W.Fast.tw7646581616846690992 := ()
def PySem.W.Fast.tw11671268852077918895 := ()
def PySem.W.Fast.tw2661672033450786599 := ()
def PySem.W.Fast.tw15773166799744244416 := ()
def PySem.W.Fast.tw11389886603784655489 := ()
def PySem.W.Fast.tw7859050910860005476 := ()
def PySem.W.Fast.tw5085845035952515434 := ()
def PySem.W.Fast.tw15966388689082301000 := ()
def PySem.W.Fast.tw7170058777498855492 := ()
def PySem.W.Fast.tw7419418548576969350 := ()
def PySem.W.Fast.tw11597774200681132424 := ()
def PySem.W.Fast.tw1068345269382272598 := ()
def PySem.W.Fast.tw12982947447222733570 := ()
def PySem.W.Fast.tw12488809930070390689 := ()
def PySem.W.Fast.tw17770581674387122159 := ()
def PySem.W.Fast.tw11608913160714404893 := ()
def PySem.W.Fast.tw2608202020836232181 := ()
def PySem.W.Fast.tw3879895773699256666 := ()
def PySem.W.Fast.tw2705680853262881344 := ()
def PySem.W.Fast.tw16429540948804003813 := ()
def PySem.W.Fast.tw2907267530168601206 := ()
def PySem.W.Fast.tw15929198826211186944 := ()
def PySem.W.Fast.tw154944429162184097 := ()
def PySem.W.Fast.tw13648751583578673339 := ()
def PySem.W.Fast.tw2070512890662677063 := ()
def PySem.W.Fast.tw1718874500129880643 := ()
def PySem.W.Fast.tw1230985282989243583 := ()
def PySem.W.Fast.tw11550771519666841170 := ()
def PySem.W.Fast.tw14848570175672729886 := ()
def PySem.W.Fast.tw2545618321867718919 := ()
def PySem.W.Fast.tw13440078520642661036 := ()
def PySem.W.Fast.tw5491378346974167522 := ()
def PySem.W.Fast.tw2233391000838467752 := ()
def PySem.W.Fast.tw18256090483524040638 := ()
def PySem.W.Fast.tw10832165961018595578 := ()
def PySem.W.Fast.tw3153045245244517862 := ()
def PySem.W.Fast.tw11604397475103286921 := ()
def PySem.W.Fast.tw14070860917677045357 := ()
def PySem.W.Fast.tw9655996570214446306 := ()
def PySem.W.Fast.tw2929611426329084441 := ()
def PySem.W.Fast.tw5373622555167089710 := ()
def PySem.W.Fast.tw6098562638923578800 := ()
def PySem.W.Fast.tw8275598162425622407 := ()
def PySem.W.Fast.tw3669629160872330704 := ()
def PySem.W.Fast.tw15329182401685025623 := ()
def PySem.W.Fast.tw13351100035793456230 := ()
def PySem.W.Fast.tw6819553098965091155 := ()
def PySem.W.Fast.tw8053091674895589824 := ()
def PySem.W.Fast.tw13778164298581877989 := ()
def PySem.W.Fast.tw11162484566691942953 := ()
def PySem.W.Fast.tw12141751691396964425 := ()
def PySem.W.Fast.tw14169242961287801444 := ()
def PySem.W.Fast.tw7199920488378822281 := ()
def PySem.W.Fast.tw12883743836306213277 := ()
def PySem.W.Fast.tw16349005453596155521 := ()
def PySem.W.Fast.tw12224278694210177423 := ()
def PySem.W.Fast.tw17875333620725688610 := ()
def PySem.W.Fast.tw10032461218261639306 := ()
def PySem.W.Fast.tw17550695558001704261 := ()
def PySem.W.Fast.tw6173328479629388228 := ()
def PySem.W.Fast.tw11039241266695721565 := ()
def PySem.W.Fast.tw6337605367703758702 := ()
def PySem.W.Fast.tw12727002799114368356 := ()
def PySem.W.Fast.tw15722671829523668552 := ()
def PySem.W.Fast.tw8541468617288928842 := ()
def PySem.W.Fast.tw6841152179331840472 := ()
def PySem.W.Fast.tw3605589341194024246 := ()
def PySem.W.Fast.tw9827834421058040228 := ()
def PySem.W.Fast.tw10856428296017330162 := ()
def PySem.W.Fast.tw6950894391297697027 := ()
def PySem.W.Fast.tw11333219960743881775 := ()
def PySem.W.Fast.tw1852662916277829165 := ()
def PySem.W.Fast.tw697014408005577319 := ()
def PySem.W.Fast.tw16381254599016098298 := ()
def PySem.W.Fast.tw9281801597525439327 := ()
def PySem.W.Fast.tw13945816048984731739 := ()
def PySem.W.Fast.tw11962850798274929031 := ()
def PySem.W.Fast.tw11546747040221906058 := ()
def PySem.W.Fast.tw16070289848539531811 := ()
def PySem.W.Fast.tw8346164192490597728 := ()
def PySem.W.Fast.tw5577493559809546088 := ()
def PySem.W.Fast.tw3554334002968439329 := ()
def PySem.W.Fast.tw13425255404995025154 := ()
def PySem.W.Fast.tw14533142974207646551 := ()
def PySem.W.Fast.tw15390665479609882065 := ()
def PySem.W.Fast.tw1852837543514015277 := ()
def PySem.W.Fast.tw16911913665397880983 := ()
def PySem.W.Fast.tw16603674350531803134 := ()
def PySem.W.Fast.tw5461765900493370461 := ()
def PySem.W.Fast.tw3361255647596558874 := ()
def PySem.W.Fast.tw14555690007320670834 := ()
def PySem.W.Fast.tw7534495572949055394 := ()
def PySem.W.Fast.tw13388347273795335019 := ()
def PySem.W.Fast.tw14753860380659761796 := ()
def PySem.W.Fast.tw15245474344241742218 := ()
def PySem.W.Fast.tw14547539942405622816 := ()
def PySem.W.Fast.tw10278559741469425848 := ()
def PySem.W.Fast.tw16572344782161632785 := ()
def PySem.W.Fast.tw5610626488658939595 := ()
def PySem.W.Fast.tw917933654215153440 := ()
def PySem.W.Fast.tw139788845018773635 := ()
def PySem.W.Fast.tw4308003917904694000 := ()
def PySem.W.Fast.tw819531781964049910 := ()
def PySem.W.Fast.tw9215702465691429546 := ()
def PySem.W.Fast.tw5507110337834480542 := ()
def PySem.W.Fast.tw9543998801328768155 := ()
def PySem.W.Fast.tw16607364802234201586 := ()
def PySem.W.Fast.tw16722827802464056948 := ()
def PySem.W.Fast.tw404957504824103382 := ()
def PySem.W.Fast.tw16376354345727172133 := ()
def PySem.W.Fast.tw2863563238865229002 := ()
def PySem.W.Fast.tw16132690415347952059 := ()
def PySem.W.Fast.tw6614143116022104096 := ()
def PySem.W.Fast.tw4645122310181146124 := ()
def PySem.W.Fast.tw16066937088956666732 := ()
def PySem.W.Fast.tw7165514376819646824 := ()
def PySem.W.Fast.tw9114136466891662594 := ()
def PySem.W.Fast.tw12636068562874040559 := ()
def PySem.W.Fast.tw10023148890168138402 := ()
def PySem.W.Fast.tw16863221246263089042 := ()
def PySem.W.Fast.tw13095102918322985613 := ()
def PySem.W.Fast.tw13113329443887735299 := ()
def PySem.W.Fast.tw3124573570277000211 := ()
def PySem.W.Fast.tw3159086008395288957 := ()
def PySem.W.Fast.tw13626786559330406604 := ()
def PySem.W.Fast.tw7627153321286465078 := ()
def PySem.W.Fast.tw16765350846816615705 := ()
def PySem.W.Fast.tw4573405374210115107 := ()
def PySem.W.Fast.tw9396099320640242680 := ()
def PySem.W.Fast.tw16477044271459997335 := ()
def PySem.W.Fast.tw10652251337102056146 := ()
def PySem.W.Fast.tw14965228946459606897 := ()
def PySem.W.Fast.tw1502658379378054650 := ()
def PySem.W.Fast.tw11781559138307513658 := ()
def PySem.W.Fast.tw2820270496134123134 := ()
def PySem.W.Fast.tw10820973610351757143 := ()
def PySem.W.Fast.tw1546189784081752325 := ()
def PySem.W.Fast.tw6213170614351736756 := ()
def PySem.W.Fast.tw10531895124321470844 := ()
def PySem.W.Fast.tw8695399464334624708 := ()
def PySem.W.Fast.tw13309268489028322210 := ()
def PySem.W.Fast.tw18234705846906928755 := ()
def PySem.W.Fast.tw2813180044448366275 := ()
def PySem.W.Fast.tw12958017928137457487 := ()
def PySem.W.Fast.tw4456141031777770146 := ()
def PySem.W.Fast.tw13170482193913331481 := ()
def PySem.W.Fast.tw156607210752128922 := ()
def PySem.W.Fast.tw5374098109458483408 := ()
def PySem.W.Fast.tw10937206395442948864 := ()
def PySem.W.Fast.tw6415572554334342978 := ()
def PySem.W.Fast.tw4809285560316960774 := ()
def PySem.W.Fast.tw6847678777105171902 := ()
def PySem.W.Fast.tw2965058547967726373 := ()
def PySem.W.Fast.tw5428034739187788881 := ()
def PySem.W.Fast.tw5194568837055873426 := ()
def PySem.W.Fast.tw3055705927249541335 := ()
def PySem.W.Fast.tw661579183634382375 := ()
def PySem.W.Fast.tw8473120024521730226 := ()
def PySem.W.Fast.tw725664308254121572 := ()
def PySem.W.Fast.tw2769819420289079631 := ()
def PySem.W.Fast.tw3760898074891213390 := ()
def PySem.W.Fast.tw6003929706847866996 := ()
def PySem.W.Fast.tw17595399640231500521 := ()
def PySem.W.Fast.tw3131430347415850606 := ()
def PySem.W.Fast.tw15871445338354947549 := ()
def PySem.W.Fast.tw9764014955505238199 := ()
def PySem.W.Fast.tw2021875402838765770 := ()
def PySem.W.Fast.tw16920781350253293580 := ()
def PySem.W.Fast.tw8074320138114007431 := ()
def PySem.W.Fast.tw1244788682507112635 := ()
def PySem.W.Fast.tw9394743643330607849 := ()
def PySem.W.Fast.tw13212470376047702270 := ()
def PySem.W.Fast.tw6250283804838387476 := ()
def PySem.W.Fast.tw8416005090854799574 := ()
def PySem.W.Fast.tw10213401714221785723 := ()
def PySem.W.Fast.tw17976596340206587486 := ()
def PySem.W.Fast.tw18080421055197078728 := ()
def PySem.W.Fast.tw1808663444695698212 := ()
def PySem.W.Fast.tw16982981399831744188 := ()
def PySem.W.Fast.tw14091447168516036369 := ()
def PySem.W.Fast.tw5519505970627336736 := ()
def PySem.W.Fast.tw9213003452096905996 := ()
def PySem.W.Fast.tw10794640749524777581 := ()
def PySem.W.Fast.tw9793063961890316269 := ()
def PySem.W.Fast.tw4071293100707896324 := ()
def PySem.W.Fast.tw9342495645882379053 := ()
def PySem.W.Fast.tw7536380855562723038 := ()
def PySem.W.Fast.tw6614613297326893517 := ()
def PySem.W.Fast.tw7357178394618528422 := ()
def PySem.W.Fast.tw10552018084753163884 := ()
def PySem.W.Fast.tw11984531648715072143 := ()
def PySem.W.Fast.tw2154388697370321464 := ()
def PySem.W.Fast.tw11224359789727087986 := ()
def PySem.W.Fast.tw15975323293195923995 := ()
def PySem.W.Fast.tw10072250816522043471 := ()
def PySem.W.Fast.tw10255100888928771042 := ()
def PySem.W.Fast.tw9236205869994799946 := ()
def PySem.W.Fast.tw17092345507093956195 := ()
def PySem.W.Fast.tw15830336544168462311 := ()
def PySem.W.Fast.tw6394403900038685766 := ()
def PySem.W.Fast.tw9363097959908336194 := ()
def PySem.W.Fast.tw16764754373712560358 := ()
def PySem.W.Fast.tw12666273382939507838 := ()
def PySem.W.Fast.tw10872684619663602107 := ()
def PySem.W.Fast.tw16985259377226842039 := ()
def PySem.W.Fast.tw6513733794838447258 := ()
def PySem.W.Fast.tw2978814596061511322 := ()
def PySem.W.Fast.tw4995059606642917627 := ()
def PySem.W.Fast.tw5738746944806989951 := ()
def PySem.W.Fast.tw8323556426659296247 := ()
def PySem.W.Fast.tw11575791014838884404 := ()
def PySem.W.Fast.tw11169730479186008183 := ()
def PySem.W.Fast.tw10877505687000326736 := ()
def PySem.W.Fast.tw8539732869233679812 := ()
def PySem.W.Fast.tw11440360154527967193 := ()
def PySem.W.Fast.tw5967266425254618881 := ()
def PySem.W.Fast.tw4745427844427446234 := ()
def PySem.W.Fast.tw11125053214245146885 := ()
def PySem.W.Fast.tw16772740835883842279 := ()
def PySem.W.Fast.tw2416318502646326070 := ()
def PySem.W.Fast.tw3741835535458715506 := ()
def PySem.W.Fast.tw8124560934448982184 := ()
def PySem.W.Fast.tw3808608783179427189 := ()
def PySem.W.Fast.tw6466413119919348927 := ()
def PySem.W.Fast.tw590917413981059179 := ()
def PySem.W.Fast.tw134915595252624329 := ()
def PySem.W.Fast.tw8824237657652794046 := ()
def PySem.W.Fast.tw13150663774160273867 := ()
def PySem.W.Fast.tw517208858090749868 := ()
def PySem.W.Fast.tw3203189611463252595 := ()
def PySem.W.Fast.tw5698558667984488619 := ()
def PySem.W.Fast.tw4204625446267314592 := ()
def PySem.W.Fast.tw214163132280046612 := ()
def PySem.W.Fast.tw11386568473844683343 := ()
def PySem.W.Fast.tw9480403943666568488 := ()
def PySem.W.Fast.tw10216743076335512096 := ()
def PySem.W.Fast.tw2873769529853288314 := ()
def PySem.W.Fast.tw4836364039147337633 := ()
def PySem.W.Fast.tw8436912325738421678 := ()
def PySem.W.Fast.tw13803994203456425154 := ()
def PySem.W.Fast.tw6916911485703366566 := ()
def PySem.W.Fast.tw16978799100870890742 := ()
def PySem.W.Fast.tw11722870005204672459 := ()
def PySem.W.Fast.tw6427085189374889071 := ()
def PySem.W.Fast.tw590553544803286260 := ()
def PySem.W.Fast.tw14803061319381561523 := ()
def PySem.W.Fast.tw2426883812443597019 := ()
def PySem.W.Fast.tw16013014494456169828 := ()
def PySem.W.Fast.tw7162695088187717950 := ()
def PySem.W.Fast.tw6779855723854093446 := ()
def PySem.W.Fast.tw7830619373618915834 := ()
def PySem.W.Fast.tw7887688717050017394 := ()
def PySem.W.Fast.tw12798891155908700718 := ()
def PySem.W.Fast.tw11204989229004488972 := ()
def PySem.W.Fast.tw10531785250823557543 := ()
def PySem.W.Fast.tw2137813082401745808 := ()
def PySem.W.Fast.tw18224077119478524514 := ()
def PySem.W.Fast.tw146349708065923509 := ()
def PySem.W.Fast.tw17261929230587601294 := ()
def PySem.W.Fast.tw15649417688724504058 := ()
def PySem.W.Fast.tw2696741214569870807 := ()
def PySem.W.Fast.tw3016555823624710323 := ()
def PySem.W.Fast.tw16631582778193530647 := ()
def PySem.W.Fast.tw2243066222965344962 := ()
def PySem.W.Fast.tw17234336697132789541 := ()
def PySem.W.Fast.tw15940376769127103873 := ()
def PySem.W.Fast.tw12819708024812765323 := ()
def PySem.W.Fast.tw5220107067294166334 := ()
def PySem.W.Fast.tw14474458863685344201 := ()
def PySem.W.Fast.tw479705006096448944 := ()
def PySem.W.Fast.tw12631007303316872706 := ()
def PySem.W.Fast.tw9119771774653751529 := ()
def PySem.W.Fast.tw15624063458982546283 := ()
def PySem.W.Fast.tw12518071563693631802 := ()
def PySem.W.Fast.tw12754140581204914198 := ()
def PySem.W.Fast.tw12296806988207025204 := ()
def PySem.W.Fast.tw3381429622348126448 := ()
def PySem.W.Fast.tw6251847843005721491 := ()
def PySem.W.Fast.tw11976907885593784177 := ()
def PySem.W.Fast.tw16286257430981760466 := ()
def PySem.W.Fast.tw5899013148600195399 := ()
def PySem.W.Fast.tw11562255709742942015 := ()
def PySem.W.Fast.tw13137665091731803460 := ()
def PySem.W.Fast.tw4734381702634634435 := ()
def PySem.W.Fast.tw5444355730344193696 := ()
def PySem.W.Fast.tw2267432888331325805 := ()
def PySem.W.Fast.tw11511379507008951142 := ()
def PySem.W.Fast.tw5093016359998156814 := ()
def PySem.W.Fast.tw9131296221428585110 := ()
def PySem.W.Fast.tw18094815365531982455 := ()
def PySem.W.Fast.tw15260289338545042074 := ()
def PySem.W.Fast.tw8649811521791158927 := ()
def PySem.W.Fast.tw12806463905724249577 := ()
def PySem.W.Fast.tw16450914710981962334 := ()
def PySem.W.Fast.tw13537151094751294611 := ()
def PySem.W.Fast.tw9147124350333133687 := ()
def PySem.W.Fast.tw2809215454533903134 := ()
def PySem.W.Fast.tw12885796732544504203 := ()
def PySem.W.Fast.tw4008016186133883418 := ()
def PySem.W.Fast.tw12358454598314022791 := ()
def PySem.W.Fast.tw5119702227581987669 := ()
def PySem.W.Fast.tw6693150318264782080 := ()
def PySem.W.Fast.tw10450482870698574537 := ()
def PySem.W.Fast.tw5966236288140628785 := ()
def PySem.W.Fast.tw5522851238375515969 := ()
def PySem.W.Fast.tw148207663892198075 := ()
def PySem.W.Fast.tw18161595738675695455 := ()
def PySem.W.Fast.tw6302504444956503274 := ()
def PySem.W.Fast.tw15669985389019308879 := ()
def PySem.W.Fast.tw3864274367446477777 := ()
def PySem.W.Fast.tw6769776302252282704 := ()
def PySem.W.Fast.tw4586715950740879070 := ()
def PySem.W.Fast.tw16482682511697998248 := ()
def PySem.W.Fast.tw5631725540195836878 := ()
def PySem.W.Fast.tw18372952846571705961 := ()
def PySem.W.Fast.tw3492152062172275209 := ()
def PySem.W.Fast.tw8953818945176981218 := ()
def PySem.W.Fast.tw17521700359047101127 := ()
def PySem.W.Fast.tw447517591924263009 := ()
def PySem.W.Fast.tw14256497263634473967 := ()
def PySem.W.Fast.tw16811663983756209932 := ()
def PySem.W.Fast.tw9066393366261137121 := ()
def PySem.W.Fast.tw10239341297243583800 := ()
def PySem.W.Fast.tw11614386595835101244 := ()
def PySem.W.Fast.tw8690967106405450003 := ()
def PySem.W.Fast.tw12940941510910657661 := ()
def PySem.W.Fast.tw8373127265602211675 := ()
def PySem.W.Fast.tw1447483046889740119 := ()
def PySem.W.Fast.tw12367848412669854193 := ()
def PySem.W.Fast.tw10888338298422892748 := ()
def PySem.W.Fast.tw3071589454296286988 := ()
def PySem.W.Fast.tw3581936616077084605 := ()
def PySem.W.Fast.tw10668988937269732804 := ()
def PySem.W.Fast.tw13229429833924662373 := ()
def PySem.W.Fast.tw2461379109358297821 := ()
def PySem.W.Fast.tw13436767632144485218 := ()
def PySem.W.Fast.tw11707813775573288279 := ()
def PySem.W.Fast.tw14397797651309841714 := ()
def PySem.W.Fast.tw4890972750764543398 := ()
def PySem.W.Fast.tw6583002949402258108 := ()
def PySem.W.Fast.tw16652061898119085651 := ()
def PySem.W.Fast.tw1478282615890823273 := ()
def PySem.W.Fast.tw14943883871173654114 := ()
def PySem.W.Fast.tw1371761123631003859 := ()
def PySem.W.Fast.tw16683800406743695402 := ()
def PySem.W.Fast.tw10291427098649445823 := ()
def PySem.W.Fast.tw18288176805953705768 := ()
def PySem.W.Fast.tw14880782448658949807 := ()
def PySem.W.Fast.tw11735074456225108387 := ()
def PySem.W.Fast.tw13554617825317272857 := ()
def PySem.W.Fast.tw8345475765446340808 := ()
def PySem.W.Fast.tw16797199386084329610 := ()
def PySem.W.Fast.tw16922125770414736907 := ()
def PySem.W.Fast.tw9448117673721456591 := ()
def PySem.W.Fast.tw16544334541618213948 := ()
def PySem.W.Fast.tw11440072351164585017 := ()
def PySem.W.Fast.tw12841822378403983487 := ()
def PySem.W.Fast.tw2714690500843558609 := ()
def PySem.W.Fast.tw11125568898447669334 := ()
def PySem.W.Fast.tw8268657946793979188 := ()
def PySem.W.Fast.tw580263011841656727 := ()
def PySem.W.Fast.tw16306169482293018857 := ()
def PySem.W.Fast.tw16857450639710696743 := ()
def PySem.W.Fast.tw9501905991964945161 := ()
def PySem.W.Fast.tw13790223878475361140 := ()
def PySem.W.Fast.tw15988549788789114515 := ()
def PySem.W.Fast.tw16957675035755637042 := ()
def PySem.W.Fast.tw57124071167586789 := ()
def PySem.W.Fast.tw4253067181521873781 := ()
def PySem.W.Fast.tw17627540402059817117 := ()
def PySem.W.Fast.tw3290536915793864332 := ()
def PySem.W.Fast.tw16661100625375981026 := ()
def PySem.W.Fast.tw2316093422606965738 := ()
def PySem.W.Fast.tw15868944341345139857 := ()
def PySem.W.Fast.tw16614628338884896133 := ()
def PySem.W.Fast.tw6950435404894954319 := ()
def PySem.W.Fast.tw12097373793636624045 := ()
def PySem.W.Fast.tw8217198229605678907 := ()
def PySem.W.Fast.tw16807140796814289130 := ()
def PySem.W.Fast.tw15390833299151917358 := ()
def PySem.W.Fast.tw7972561863829554655 := ()
def PySem.W.Fast.tw17533091006056739788 := ()
def PySem.W.Fast.tw6503210395912615605 := ()
def PySem.W.Fast.tw1561551804474791033 := ()
def PySem.W.Fast.tw16325378692956128076 := ()
def PySem.W.Fast.tw3061975675707354801 := ()
def PySem.W.Fast.tw15445135531789349848 := ()
def PySem.W.Fast.tw16961523142368569595 := ()
def PySem.W.Fast.tw3497485416274427874 := ()
def PySem.W.Fast.tw17327825311714386163 := ()
def PySem.W.Fast.tw6633168222307768634 := ()
def PySem.W.Fast.tw7148481455079812582 := ()
def PySem.W.Fast.tw2661969716308568970 := ()
def PySem.W.Fast.tw14157212436218026074 := ()
def PySem.W.Fast.tw9069681995454630443 := ()
def PySem.W.Fast.tw10284179822700146205 := ()
def PySem.W.Fast.tw7595850322552235240 := ()
def PySem.W.Fast.tw1075442546510563887 := ()
def PySem.W.Fast.tw9571566509337665551 := ()
def PySem.W.Fast.tw11121942276801035545 := ()
def PySem.W.Fast.tw14477457898744285809 := ()
def PySem.W.Fast.tw8702659465442029792 := ()
def PySem.W.Fast.tw2616756414778058166 := ()
def PySem.W.Fast.tw4828990038252352887 := ()
def PySem.W.Fast.tw9040566836950902728 := ()
def PySem.W.Fast.tw10886495603896382796 := ()
def PySem.W.Fast.tw17508277504415400717 := ()
def PySem.W.Fast.tw6915646715739627531 := ()
def PySem.W.Fast.tw11716712689861894132 := ()
def PySem.W.Fast.tw20887681671330542 := ()
def PySem.W.Fast.tw8028880164314408045 := ()
def PySem.W.Fast.tw1306368907944878320 := ()
def PySem.W.Fast.tw6637588375659994075 := ()
def PySem.W.Fast.tw7193782280606650174 := ()
def PySem.W.Fast.tw16638871549502632837 := ()
def PySem.W.Fast.tw884460358541411055 := ()
def PySem.W.Fast.tw6557809100252134499 := ()
def PySem.W.Fast.tw2164832930904578770 := ()
def PySem.W.Fast.tw5126583143373099882 := ()
def PySem.W.Fast.tw14742837773370517922 := ()
def PySem.W.Fast.tw3451734197254621924 := ()
def PySem.W.Fast.tw12343941545998107232 := ()
def PySem.W.Fast.tw15097324812719870613 := ()
def PySem.W.Fast.tw10127212625546424707 := ()
def PySem.W.Fast.tw14264380607119710169 := ()
def PySem.W.Fast.tw9050643274216483937 := ()
def PySem.W.Fast.tw4563753851830168644 := ()
def PySem.W.Fast.tw10398951441185758243 := ()
def PySem.W.Fast.tw13762442331072469436 := ()
def PySem.W.Fast.tw451321421012521260 := ()
def PySem.W.Fast.tw12981379370052568930 := ()
def PySem.W.Fast.tw11635584009753332669 := ()
def PySem.W.Fast.tw10008891804706701893 := ()
def PySem.W.Fast.tw3214323997181448564 := ()
def PySem.W.Fast.tw3531751038527361791 := ()
def PySem.W.Fast.tw706006152398389416 := ()
def PySem.W.Fast.tw15384952030846644334 := ()
def PySem.W.Fast.tw10785430054741591077 := ()
def PySem.W.Fast.tw5830717785241279521 := ()
def PySem.W.Fast.tw7204952942970005622 := ()
def PySem.W.Fast.tw7350922925655696496 := ()
def PySem.W.Fast.tw7399116231203322972 := ()
def PySem.W.Fast.tw2843076066076871231 := ()
def PySem.W.Fast.tw10357939965191684148 := ()
def PySem.W.Fast.tw181482957041668559 := ()
def PySem.W.Fast.tw8315092210742750865 := ()
def PySem.W.Fast.tw7377420438505734992 := ()
def PySem.W.Fast.tw7277550465694432447 := ()
def PySem.W.Fast.tw13517108920449092998 := ()
def PySem.W.Fast.tw5580148764484412933 := ()
def PySem.W.Fast.tw7937932055016937885 := ()
def PySem.W.Fast.tw2113872908660141369 := ()
def PySem.W.Fast.tw6879813661819680308 := ()
def PySem.W.Fast.tw16195054632008624443 := ()
def PySem.W.Fast.tw2583771008496199735 := ()
def PySem.W.Fast.tw10747929303003561105 := ()
def PySem.W.Fast.tw6725518436730903917 := ()
def PySem.W.Fast.tw11760615107429645353 := ()
def PySem.W.Fast.tw12436579982328373305 := ()
def PySem.W.Fast.tw9905965911069474613 := ()
def PySem.W.Fast.tw16074524639323626738 := ()
def PySem.W.Fast.tw3620908540570916510 := ()
def PySem.W.Fast.tw9885060890685052839 := ()
def PySem.W.Fast.tw869367624499492540 := ()
def PySem.W.Fast.tw13596231410765185429 := ()
def PySem.W.Fast.tw5409021610657834657 := ()
def PySem.W.Fast.tw3433903912943757712 := ()
def PySem.W.Fast.tw13374759111364437927 := ()
def PySem.W.Fast.tw11629703394130635860 := ()
def PySem.W.Fast.tw2735329987677368941 := ()
def PySem.W.Fast.tw1176724262282077051 := ()
def PySem.W.Fast.tw15707936479155604392 := ()
def PySem.W.Fast.tw13385773164109985233 := ()
def PySem.W.Fast.tw7259159553891593557 := ()
def PySem.W.Fast.tw8370455909800612892 := ()
def PySem.W.Fast.tw17024464699266695094 := ()
def PySem.W.Fast.tw16882869194402580761 := ()
def PySem.W.Fast.tw14402725914231081419 := ()
def PySem.W.Fast.tw12048724409154941363 := ()
def PySem.W.Fast.tw6660568576042627691 := ()
def PySem.W.Fast.tw2816069440601738699 := ()
def PySem.W.Fast.tw18264902685953104576 := ()
def PySem.W.Fast.tw6482152139728712802 := ()
def PySem.W.Fast.tw6079545473610261220 := ()
def PySem.W.Fast.tw9759518542073235811 := ()
def PySem.W.Fast.tw15709625385971596025 := ()
def PySem.W.Fast.tw10289108466750124682 := ()
def PySem.W.Fast.tw2274224734063659880 := ()
def PySem.W.Fast.tw2612513771191600944 := ()
def PySem.W.Fast.tw3078989541814767673 := ()
def PySem.W.Fast.tw9425712189472984506 := ()
def PySem.W.Fast.tw3129178561499996546 := ()
def PySem.W.Fast.tw11411805261962597426 := ()
def PySem.W.Fast.tw5420511390314138885 := ()
def PySem.W.Fast.tw15964390010425667176 := ()
def PySem.W.Fast.tw7853033529246823216 := ()
def PySem.W.Fast.tw2324695245459908834 := ()
def PySem.W.Fast.tw16196181723071251446 := ()
def PySem.W.Fast.tw17021161325018428028 := ()
def PySem.W.Fast.tw9000180479287333003 := ()
def PySem.W.Fast.tw15836151276181563820 := ()
def PySem.W.Fast.tw14598130491690265711 := ()
def PySem.W.Fast.tw72098813999497967 := ()
def PySem.W.Fast.tw11767072678463016427 := ()
def PySem.W.Fast.tw2147706679792153772 := ()
def PySem.W.Fast.tw1969804820465165466 := ()
def PySem.W.Fast.tw7561765394996878086 := ()
def PySem.W.Fast.tw2867379675561924256 := ()
def PySem.W.Fast.tw12723523078233204340 := ()
def PySem.W.Fast.tw9419494178837333299 := ()
def PySem.W.Fast.tw7724452937814292329 := ()
def PySem.W.Fast.tw9695111716455713161 := ()
def PySem.W.Fast.tw11157643042272098903 := ()
def PySem.W.Fast.tw13499592097746265185 := ()
def PySem.W.Fast.tw9072709748037489053 := ()
def PySem.W.Fast.tw12154627741841684654 := ()
def PySem.W.Fast.tw1204795566825200193 := ()
def PySem.W.Fast.tw15129097310369316800 := ()
def PySem.W.Fast.tw5697150575169613768 := ()
def PySem.W.Fast.tw4909195967660006580 := ()
def PySem.W.Fast.tw7370648825266082497 := ()
def PySem.W.Fast.tw3672715891330463200 := ()
def PySem.W.Fast.tw2767895837756750752 := ()
def PySem.W.Fast.tw5008370411450998116 := ()
def PySem.W.Fast.tw740412957651800888 := ()
def PySem.W.Fast.tw12746437725747384662 := ()
def PySem.W.Fast.tw14610847787730598864 := ()
def PySem.W.Fast.tw18001755383642793522 := ()
def PySem.W.Fast.tw11653321741177261997 := ()
def PySem.W.Fast.tw8464905650812011535 := ()
def PySem.W.Fast.tw15355516077835758755 := ()
def PySem.W.Fast.tw2679371380338364672 := ()
def PySem.W.Fast.tw5578594863999107756 := ()
def PySem.W.Fast.tw5108809035671556308 := ()
def PySem.W.Fast.tw6735989832067423101 := ()
def PySem.W.Fast.tw14040313816434700118 := ()
def PySem.W.Fast.tw3072670293340937280 := ()
def PySem.W.Fast.tw16049147984981558056 := ()
def PySem.W.Fast.tw17157449611212360649 := ()
def PySem.W.Fast.tw8888287039223258986 := ()
def PySem.W.Fast.tw7227105212786972058 := ()
def PySem.W.Fast.tw11932517832454161753 := ()
def PySem.W.Fast.tw10235862882995559576 := ()
def PySem.W.Fast.tw12160286429151928538 := ()
def PySem.W.Fast.tw5937005310220642073 := ()
def PySem.W.Fast.tw13956274346048305166 := ()
def PySem.W.Fast.tw12963338556280714290 := ()
def PySem.W.Fast.tw12376883398894518581 := ()
def PySem.W.Fast.tw4084857497208190467 := ()
def PySem.W.Fast.tw4056151477251770033 := ()
def PySem.W.Fast.tw6270388174774700809 := ()
def PySem.W.Fast.tw14948874301931019548 := ()
def PySem.W.Fast.tw14416191612252795742 := ()
def PySem.W.Fast.tw7899804890687623980 := ()
def PySem.W.Fast.tw13726465543840102799 := ()
def PySem.W.Fast.tw11693732438268374591 := ()
def PySem.W.Fast.tw8209334009869700881 := ()
def PySem.W.Fast.tw16363457791382745599 := ()
def PySem.W.Fast.tw8908231050561069630 := ()
def PySem.W.Fast.tw2970445988725511290 := ()
def PySem.W.Fast.tw1401139094492387860 := ()
def PySem.W.Fast.tw16897899168392334039 := ()
def PySem.W.Fast.tw12998638453021131935 := ()
def PySem.W.Fast.tw1517671341096969478 := ()
def PySem.W.Fast.tw6515379558633998489 := ()
def PySem.W.Fast.tw13667070189951180909 := ()
def PySem.W.Fast.tw9263769272288913379 := ()
def PySem.W.Fast.tw14249857714113687887 := ()
def PySem.W.Fast.tw13162893996968697328 := ()
def PySem.W.Fast.tw9055994073439575672 := ()
def PySem.W.Fast.tw6594790923986731981 := ()
def PySem.W.Fast.tw7193463976172094664 := ()
def PySem.W.Fast.tw10472529492270349194 := ()
def PySem.W.Fast.tw7419179453500110431 := ()
def PySem.W.Fast.tw15919263195863197707 := ()
def PySem.W.Fast.tw9761678528142453698 := ()
def PySem.W.Fast.tw14036765116828793226 := ()
def PySem.W.Fast.tw12702297873638082903 := ()
def PySem.W.Fast.tw649945548512037166 := ()
def PySem.W.Fast.tw12848242481240250953 := ()
def PySem.W.Fast.tw17558491015113913619 := ()
def PySem.W.Fast.tw10507161311488198338 := ()
def PySem.W.Fast.tw18356595326648948508 := ()
def PySem.W.Fast.tw3779167540882513967 := ()
def PySem.W.Fast.tw10205447794281707683 := ()
def PySem.W.Fast.tw5991110256326843396 := ()
def PySem.W.Fast.tw9331523356654645866 := ()
def PySem.W.Fast.tw7119718967970560497 := ()
def PySem.W.Fast.tw5443982602401341905 := ()
def PySem.W.Fast.tw1052631172085690271 := ()
def PySem.W.Fast.tw11287524701286557868 := ()
def PySem.W.Fast.tw14137679921278514457 := ()
def PySem.W.Fast.tw57430487715750645 := ()
def PySem.W.Fast.tw13646106590121825487 := ()
def PySem.W.Fast.tw277784372980048473 := ()
def PySem.W.Fast.tw9495669915950331354 := ()
def PySem.W.Fast.tw11889327414340488920 := ()
def PySem.W.Fast.tw3844649886115410104 := ()
def PySem.W.Fast.tw2024836889876475943 := ()
def PySem.W.Fast.tw3025009976236949818 := ()
def PySem.W.Fast.tw14003100060920660598 := ()
def PySem.W.Fast.tw10450141190582671503 := ()
def PySem.W.Fast.tw10787200698809863329 := ()
def PySem.W.Fast.tw13910090335071022529 := ()
def PySem.W.Fast.tw13748278526816167219 := ()
def PySem.W.Fast.tw2996560378580872881 := ()
def PySem.W.Fast.tw15624535577128151572 := ()
def PySem.W.Fast.tw8234261697869370019 := ()
def PySem.W.Fast.tw1391945604477438574 := ()
def PySem.W.Fast.tw16985427993087950938 := ()
def PySem.W.Fast.tw5405541259028353926 := ()
def PySem.W.Fast.tw13161949017881938668 := ()
def PySem.W.Fast.tw11585292703716884399 := ()
def PySem.W.Fast.tw10738185421367968192 := ()
def PySem.W.Fast.tw8272311079032452888 := ()
def PySem.W.Fast.tw12925643983005173141 := ()
def PySem.W.Fast.tw16727866954757314563 := ()
def PySem.W.Fast.tw16378486729299291451 := ()
def PySem.W.Fast.tw15815468956885153020 := ()
def PySem.W.Fast.tw113101195377938238 := ()
def PySem.W.Fast.tw697133695479136903 := ()
def PySem.W.Fast.tw433538863549610532 := ()
def PySem.W.Fast.tw14266376339648933284 := ()
def PySem.W.Fast.tw11193663460116367187 := ()
def PySem.W.Fast.tw1353712296505392948 := ()
def PySem.W.Fast.tw8753704718532610574 := ()
def PySem.W.Fast.tw14677502172790260735 := ()
def PySem.W.Fast.tw6925430480141881936 := ()
def PySem.W.Fast.tw11634099153104556003 := ()
def PySem.W.Fast.tw2298492312056036123 := ()
def PySem.W.Fast.tw17324984635508970043 := ()
def PySem.W.Fast.tw1762792271218102279 := ()
def PySem.W.Fast.tw12620618797596606584 := ()
def PySem.W.Fast.tw5184259125344612630 := ()
def PySem.W.Fast.tw570912873813837986 := ()
def PySem.W.Fast.tw8787474306533018111 := ()
def PySem.W.Fast.tw1847719057868052123 := ()
def PySem.W.Fast.tw16093142966581028455 := ()
def PySem.W.Fast.tw11853665838297240903 := ()
def PySem.W.Fast.tw4416191397234637990 := ()
def PySem.W.Fast.tw306372665524311746 := ()
def PySem.W.Fast.tw11656981809273585206 := ()
def PySem.W.Fast.tw11284296208928302052 := ()
def PySem.W.Fast.tw14102540577072879642 := ()
def PySem.W.Fast.tw2166645173788722327 := ()
def PySem.W.Fast.tw7915552916060718064 := ()
def PySem.W.Fast.tw17467557484741804197 := ()
def PySem.W.Fast.tw13895817601521150320 := ()
def PySem.W.Fast.tw8516857299879136561 := ()
def PySem.W.Fast.tw1456523856278747222 := ()
def PySem.W.Fast.tw1139912790755278890 := ()
def PySem.W.Fast.tw7346682385937870140 := ()
def PySem.W.Fast.tw15427843617705141295 := ()
def PySem.W.Fast.tw8938954252736522618 := ()
def PySem.W.Fast.tw4897340205384667639 := ()
def PySem.W.Fast.tw4640100969579208100 := ()
def PySem.W.Fast.tw7479782189785860711 := ()
def PySem.W.Fast.tw704708470116741134 := ()
def PySem.W.Fast.tw17491871315618935239 := ()
def PySem.W.Fast.tw4000262562162602516 := ()
def PySem.W.Fast.tw6768568634155877757 := ()
def PySem.W.Fast.tw1286864454195765762 := ()
def PySem.W.Fast.tw18305299008478364191 := ()
def PySem.W.Fast.tw10851777156880523048 := ()
def PySem.W.Fast.tw6556868949562608678 := ()
def PySem.W.Fast.tw12278050411026962306 := ()
def PySem.W.Fast.tw10329295189673687478 := ()
def PySem.W.Fast.tw15949777016015518934 := ()
def PySem.W.Fast.tw6449388068032130551 := ()
def PySem.W.Fast.tw16100986265181959413 := ()
def PySem.W.Fast.tw4641007373753315752 := ()
def PySem.W.Fast.tw4709628315001010583 := ()
def PySem.W.Fast.tw13913882211994264468 := ()
def PySem.W.Fast.tw6071846654460892909 := ()
def PySem.W.Fast.tw11719779212486672912 := ()
def PySem.W.Fast.tw11028167405696149990 := ()
def PySem.W.Fast.tw966041647010602158 := ()
def PySem.W.Fast.tw8927006082624271248 := ()
def PySem.W.Fast.tw4346492639913808470 := ()
def PySem.W.Fast.tw12472555450018955183 := ()
def PySem.W.Fast.tw14971540282021615135 := ()
def PySem.W.Fast.tw18435937250583557074 := ()
def PySem.W.Fast.tw2627256045911678061 := ()
def PySem.W.Fast.tw3312306062794768780 := ()
def PySem.W.Fast.tw4335340687933327175 := ()
def PySem.W.Fast.tw13060119964004663290 := ()
def PySem.W.Fast.tw11984163056565110280 := ()
def PySem.W.Fast.tw15347796317450689487 := ()
def PySem.W.Fast.tw7468247376311404397 := ()
def PySem.W.Fast.tw12373594700420364241 := ()
def PySem.W.Fast.tw2685769675739780201 := ()
def PySem.W.Fast.tw6513432864230061100 := ()
def PySem.W.Fast.tw7964298483579745852 := ()
def PySem.W.Fast.tw17657238580445047667 := ()
def PySem.W.Fast.tw3647414063663397837 := ()
def PySem.W.Fast.tw12025050486142221119 := ()
def PySem.W.Fast.tw13022863626172496421 := ()
def PySem.W.Fast.tw439579185516871221 := ()
def PySem.W.Fast.tw14750176713008989636 := ()
def PySem.W.Fast.tw11786096558495027585 := ()
def PySem.W.Fast.tw10354123475902224878 := ()
def PySem.W.Fast.tw3856310843102111880 := ()
def PySem.W.Fast.tw16390678605173874281 := ()
def PySem.W.Fast.tw16267799190407938507 := ()
def PySem.W.Fast.tw15565777553956752162 := ()
def PySem.W.Fast.tw4814538807039804536 := ()
def PySem.W.Fast.tw1668907045542068127 := ()
def PySem.W.Fast.tw10219105172869568817 := ()
def PySem.W.Fast.tw9736412318572731170 := ()
def PySem.W.Fast.tw15678527413083386805 := ()
def PySem.W.Fast.tw8795455718439752822 := ()
def PySem.W.Fast.tw9854699617747826922 := ()
def PySem.W.Fast.tw4060954725091925260 := ()
def PySem.W.Fast.tw13958125149688071089 := ()
def PySem.W.Fast.tw395844694805452646 := ()
def PySem.W.Fast.tw9151835310891794711 := ()
def PySem.W.Fast.tw4558877862927955879 := ()
def PySem.W.Fast.tw15929769130511057869 := ()
def PySem.W.Fast.tw11005055699113406455 := ()
def PySem.W.Fast.tw18213281224891712413 := ()
def PySem.W.Fast.tw12552962056613406157 := ()
def PySem.W.Fast.tw15722200667426890082 := ()
def PySem.W.Fast.tw10191718245326118207 := ()
def PySem.W.Fast.tw9922491815389896071 := ()
def PySem.W.Fast.tw2195579338317048153 := ()
def PySem.W.Fast.tw8023450168234707752 := ()
def PySem.W.Fast.tw15185502062362896508 := ()
def PySem.W.Fast.tw1915654311391936645 := ()
def PySem.W.Fast.tw946872793017480028 := ()
def PySem.W.Fast.tw5550755567478805756 := ()
def PySem.W.Fast.tw11231632410360185334 := ()
def PySem.W.Fast.tw14157705955046306108 := ()
def PySem.W.Fast.tw2161523887223222346 := ()
def PySem.W.Fast.tw16488177377596112122 := ()
def PySem.W.Fast.tw5220593413311016403 := ()
def PySem.W.Fast.tw9291463660198481745 := ()
def PySem.W.Fast.tw12763388159888957518 := ()
def PySem.W.Fast.tw5695011085918022840 := ()
def PySem.W.Fast.tw12240186785243932157 := ()
def PySem.W.Fast.tw16289703237220768567 := ()
def PySem.W.Fast.tw3127761526741223961 := ()
def PySem.W.Fast.tw9204907862123080158 := ()
def PySem.W.Fast.tw4634119448961887429 := ()
def PySem.W.Fast.tw3694335002146503659 := ()
def PySem.W.Fast.tw1689755385387525474 := ()
def PySem.W.Fast.tw680621046661738066 := ()
def PySem.W.Fast.tw7963563460902277782 := ()
def PySem.W.Fast.tw794949560927743391 := ()
def PySem.W.Fast.tw15910549947322679006 := ()
def PySem.W.Fast.tw11519567341163296339 := ()
def PySem.W.Fast.tw16561940217567933075 := ()
def PySem.W.Fast.tw5258356579760551521 := ()
def PySem.W.Fast.tw9635158137148118954 := ()
def PySem.W.Fast.tw15753774898606337964 := ()
def PySem.W.Fast.tw18104081032901322268 := ()
def PySem.W.Fast.tw9775958152730385227 := ()
def PySem.W.Fast.tw9830956291757391165 := ()
def PySem.W.Fast.tw7060327067301162211 := ()
def PySem.W.Fast.tw15298299992339351052 := ()
def PySem.W.Fast.tw11092298262362611713 := ()
def PySem.W.Fast.tw6445204777295605656 := ()
def PySem.W.Fast.tw7002309856117182851 := ()
def PySem.W.Fast.tw5785750312754184143 := ()
def PySem.W.Fast.tw6359696710997675421 := ()
def PySem.W.Fast.tw3044181819935378898 := ()
def PySem.W.Fast.tw7367035747511001371 := ()
def PySem.W.Fast.tw1952106531568711085 := ()
def PySem.W.Fast.tw10298264351929096086 := ()
def PySem.W.Fast.tw11745633027860882279 := ()
def PySem.W.Fast.tw6734781408645910947 := ()
def PySem.W.Fast.tw16918560668176943727 := ()
def PySem.W.Fast.tw3819830557375223742 := ()
def PySem.W.Fast.tw4837798865262695894 := ()
def PySem.W.Fast.tw6157015007458824829 := ()
def PySem.W.Fast.tw1713893643074433080 := ()
def PySem.W.Fast.tw3353537413862447566 := ()
def PySem.W.Fast.tw1795909589732009063 := ()
def PySem.W.Fast.tw5209912189198900641 := ()
def PySem.W.Fast.tw5085710354365088831 := ()
def PySem.W.Fast.tw6175279420194197515 := ()
def PySem.W.Fast.tw723124254115889762 := ()
def PySem.W.Fast.tw13989847194472326547 := ()
def PySem.W.Fast.tw3499808717069790250 := ()
def PySem.W.Fast.tw8066266533682432620 := ()
def PySem.W.Fast.tw17032869068447394133 := ()
def PySem.W.Fast.tw15807151999869073286 := ()
def PySem.W.Fast.tw5559077182564917335 := ()
def PySem.W.Fast.tw3261430999334054716 := ()
def PySem.W.Fast.tw5119858327505181053 := ()
def PySem.W.Fast.tw4882562225414208922 := ()
def PySem.W.Fast.tw3754464216010590669 := ()
def PySem.W.Fast.tw10144538373220342082 := ()
def PySem.W.Fast.tw4894595126577992330 := ()
def PySem.W.Fast.tw17274523154529287370 := ()
def PySem.W.Fast.tw9056567280096951128 := ()
def PySem.W.Fast.tw1604241381847202190 := ()
def PySem.W.Fast.tw11641314117373665709 := ()
def PySem.W.Fast.tw652535931223847062 := ()
def PySem.W.Fast.tw3388871352392593005 := ()
def PySem.W.Fast.tw13513895661400165918 := ()
def PySem.W.Fast.tw12695217232545233152 := ()
def PySem.W.Fast.tw9316350976705428349 := ()
def PySem.W.Fast.tw11068708656577165279 := ()
def PySem.W.Fast.tw17370707258540485877 := ()
def PySem.W.Fast.tw15593189422160770071 := ()
def PySem.W.Fast.tw1421924816390041948 := ()
def PySem.W.Fast.tw3755909038755311631 := ()
def PySem.W.Fast.tw8679045742150653009 := ()
def PySem.W.Fast.tw11589274674954370342 := ()
def PySem.W.Fast.tw18000900536400166528 := ()
def PySem.W.Fast.tw1684122863524674271 := ()
def PySem.W.Fast.tw12215252459329217472 := ()
def PySem.W.Fast.tw2570676360131179285 := ()
def PySem.W.Fast.tw10737274010828680366 := ()
def PySem.W.Fast.tw15812326749067678724 := ()
def PySem.W.Fast.tw6785857355569415949 := ()
def PySem.W.Fast.tw16028858782740813178 := ()
def PySem.W.Fast.tw15743829687999859844 := ()
def PySem.W.Fast.tw11413726274491526303 := ()
def PySem.W.Fast.tw2343494670105842719 := ()
def PySem.W.Fast.tw5683659451033199849 := ()
def PySem.W.Fast.tw6476327199835911514 := ()
def PySem.W.Fast.tw213213827491974302 := ()
def PySem.W.Fast.tw6379503368586576638 := ()
def PySem.W.Fast.tw2932157639197460087 := ()
def PySem.W.Fast.tw14851036811105924150 := ()
def PySem.W.Fast.tw4942787542496388270 := ()
def PySem.W.Fast.tw4498695564064896711 := ()
def PySem.W.Fast.tw16143720510857748059 := ()
def PySem.W.Fast.tw932063344980444112 := ()
def PySem.W.Fast.tw9792478959080984812 := ()
def PySem.W.Fast.tw9338754338885992613 := ()
def PySem.W.Fast.tw12310676019630307823 := ()
def PySem.W.Fast.tw14411364893491503596 := ()
def PySem.W.Fast.tw2003538638353027435 := ()
def PySem.W.Fast.tw17695618906381124784 := ()
def PySem.W.Fast.tw3904087598243421464 := ()
def PySem.W.Fast.tw907490466152593478 := ()
def PySem.W.Fast.tw14576792748662700121 := ()
def PySem.W.Fast.tw5091630932603772759 := ()
def PySem.W.Fast.tw14224178440950926376 := ()
def PySem.W.Fast.tw13623659567425999628 := ()
def PySem.W.Fast.tw9046626733884537757 := ()
def PySem.W.Fast.tw12144625695671517475 := ()
def PySem.W.Fast.tw1077040517552741222 := ()
def PySem.W.Fast.tw4688155735826054664 := ()
def PySem.W.Fast.tw506670138183201172 := ()
def PySem.W.Fast.tw8508848821332576429 := ()
def PySem.W.Fast.tw15215320815025972213 := ()
def PySem.W.Fast.tw3502856240560975076 := ()
def PySem.W.Fast.tw6347842762236114994 := ()
def PySem.W.Fast.tw11195844307041771797 := ()
def PySem.W.Fast.tw7346287530798065683 := ()
def PySem.W.Fast.tw2701343627447477648 := ()
def PySem.W.Fast.tw8193340866448714473 := ()
def PySem.W.Fast.tw16634131424255005872 := ()
def PySem.W.Fast.tw13247748360443499933 := ()
def PySem.W.Fast.tw9503086058507520772 := ()
def PySem.W.Fast.tw470918594919396204 := ()
def PySem.W.Fast.tw16568683178486374617 := ()
def PySem.W.Fast.tw11976993322582889688 := ()
def PySem.W.Fast.tw14324856105060612783 := ()
def PySem.W.Fast.tw2142472855919189236 := ()
def PySem.W.Fast.tw11883964270806331016 := ()
def PySem.W.Fast.tw16845645468894461817 := ()
def PySem.W.Fast.tw7097457627439047799 := ()
def PySem.W.Fast.tw6599708124776592167 := ()
def PySem.W.Fast.tw6065951517113868561 := ()
def PySem.W.Fast.tw12216143076323208356 := ()
def PySem.W.Fast.tw3094059555640401208 := ()
def PySem.W.Fast.tw9463528538478553051 := ()
def PySem.W.Fast.tw16526876330807413063 := ()
def PySem.W.Fast.tw15455864976641515925 := ()
def PySem.W.Fast.tw7176242828062454118 := ()
def PySem.W.Fast.tw2337182540984512482 := ()
def PySem.W.Fast.tw16307161079234669498 := ()
def PySem.W.Fast.tw4050749793281991696 := ()
def PySem.W.Fast.tw14837637929254939673 := ()
def PySem.W.Fast.tw10102657700778886945 := ()
def PySem.W.Fast.tw5572275930161591703 := ()
def PySem.W.Fast.tw3033611246512528353 := ()
def PySem.W.Fast.tw4119397869673611261 := ()
def PySem.W.Fast.tw14635145160304533835 := ()
def PySem.W.Fast.tw1491565452748427282 := ()
def PySem.W.Fast.tw14519549506349371045 := ()
def PySem.W.Fast.tw12418183506424821935 := ()
def PySem.W.Fast.tw13190095469823426076 := ()
def PySem.W.Fast.tw5074106667519921703 := ()
def PySem.W.Fast.tw6201399370332908722 := ()
def PySem.W.Fast.tw4247792768266589200 := ()
def PySem.W.Fast.tw14326655289541770718 := ()
def PySem.W.Fast.tw10168974656013416602 := ()
def PySem.W.Fast.tw13865845472059791363 := ()
def PySem.W.Fast.tw4271686756429521794 := ()
def PySem.W.Fast.tw16823516702900131892 := ()
def PySem.W.Fast.tw13699533348043746889 := ()
def PySem.W.Fast.tw2940671382922913984 := ()
def PySem.W.Fast.tw10581722890709982420 := ()
def PySem.W.Fast.tw5118461362357041643 := ()
def PySem.W.Fast.tw15166577788095475917 := ()
def PySem.W.Fast.tw17184919146411943830 := ()
def PySem.W.Fast.tw3773299291475025558 := ()
def PySem.W.Fast.tw4859550241557775632 := ()
def PySem.W.Fast.tw57138616351616161 := ()
def PySem.W.Fast.tw1633915189356178144 := ()
def PySem.W.Fast.tw18302009004032813940 := ()
def PySem.W.Fast.tw5081650870209326277 := ()
def PySem.W.Fast.tw7403256101729234447 := ()
def PySem.W.Fast.tw3628352610336167064 := ()
def PySem.W.Fast.tw2812743628105118048 := ()
def PySem.W.Fast.tw17424889353031354610 := ()
def PySem.W.Fast.tw4728282997687108338 := ()
def PySem.W.Fast.tw1518032272045576080 := ()
def PySem.W.Fast.tw13365850177050544674 := ()
def PySem.W.Fast.tw7834446699413672987 := ()
def PySem.W.Fast.tw8745594210886495084 := ()
def PySem.W.Fast.tw13535044483664580631 := ()
def PySem.W.Fast.tw2744355066355898835 := ()
def PySem.W.Fast.tw568596982356229879 := ()
def PySem.W.Fast.tw16266291618607827004 := ()
def PySem.W.Fast.tw6567978579524567075 := ()
def PySem.W.Fast.tw7779412284666622840 := ()
def PySem.W.Fast.tw5514584093660232651 := ()
def PySem.W.Fast.tw9197755942057675309 := ()
def PySem.W.Fast.tw11585934786995843020 := ()
def PySem.W.Fast.tw9690261615645071446 := ()
def PySem.W.Fast.tw16724848320446681789 := ()
def PySem.W.Fast.tw4432826227441115616 := ()
def PySem.W.Fast.tw11732409938362453532 := ()
def PySem.W.Fast.tw17369825752188818736 := ()
def PySem.W.Fast.tw15655309890518632851 := ()
def PySem.W.Fast.tw1840222908763752121 := ()
def PySem.W.Fast.tw7010897794135439452 := ()
def PySem.W.Fast.tw10662214912222251541 := ()
def PySem.W.Fast.tw17820759878082448863 := ()
def PySem.W.Fast.tw12358703896406965841 := ()
def PySem.W.Fast.tw4876947834938353136 := ()
def PySem.W.Fast.tw17082036513584143752 := ()
def PySem.W.Fast.tw8119330570705711390 := ()
def PySem.W.Fast.tw11807332751090064541 := ()
def PySem.W.Fast.tw17511547557426442284 := ()
def PySem.W.Fast.tw11032564834896749467 := ()
def PySem.W.Fast.tw13727308591876813968 := ()
def PySem.W.Fast.tw18129686480816696827 := ()
def PySem.W.Fast.tw5423660051444342948 := ()
def PySem.W.Fast.tw9493618883718460741 := ()
def PySem.W.Fast.tw13544482202736318955 := ()
def PySem.W.Fast.tw10505412472718781286 := ()
def PySem.W.Fast.tw634072260546147731 := ()
def PySem.W.Fast.tw10894071731972975350 := ()
def PySem.W.Fast.tw17955581341510360586 := ()
def PySem.W.Fast.tw15213284227474904894 := ()
def PySem.W.Fast.tw18261336736966706335 := ()
def PySem.W.Fast.tw13076317514524154328 := ()
def PySem.W.Fast.tw12539167847804883114 := ()
def PySem.W.Fast.tw5058749542999025099 := ()
def PySem.W.Fast.tw7138580782222326350 := ()
def PySem.W.Fast.tw1854498902999082120 := ()
def PySem.W.Fast.tw14982367594840177851 := ()
def PySem.W.Fast.tw8131540535920785409 := ()
def PySem.W.Fast.tw16477786743410720214 := ()
def PySem.W.Fast.tw18059110937432382371 := ()
def PySem.W.Fast.tw17858830490460072197 := ()
def PySem.W.Fast.tw583416210104938276 := ()
def PySem.W.Fast.tw9513195431252336568 := ()
def PySem.W.Fast.tw9864263849936253769 := ()
def PySem.W.Fast.tw10319510294385160424 := ()
def PySem.W.Fast.tw13201345200775277802 := ()
def PySem.W.Fast.tw2425530180267882919 := ()
def PySem.W.Fast.tw12783545290558384372 := ()
def PySem.W.Fast.tw11912155847072716409 := ()
def PySem.W.Fast.tw12160344655670593799 := ()
def PySem.W.Fast.tw17753248842122383156 := ()
def PySem.W.Fast.tw11355315736034894702 := ()
def PySem.W.Fast.tw17337813908879520766 := ()
def PySem.W.Fast.tw18136582936976599936 := ()
def PySem.W.Fast.tw4814884486589040187 := ()
def PySem.W.Fast.tw16597764725897564447 := ()
def PySem.W.Fast.tw11669265216111799058 := ()
def PySem.W.Fast.tw12250864605887561323 := ()
def PySem.W.Fast.tw12606261509582026635 := ()
def PySem.W.Fast.tw15135680317745154391 := ()
def PySem.W.Fast.tw1832533014135625629 := ()
def PySem.W.Fast.tw1278756092911922903 := ()
def PySem.W.Fast.tw3813659775654729821 := ()
def PySem.W.Fast.tw9165530236224659143 := ()
def PySem.W.Fast.tw7018975387648497186 := ()
def PySem.W.Fast.tw13719647134321796647 := ()
def PySem.W.Fast.tw3977196058014434060 := ()
def PySem.W.Fast.tw17895858031747146223 := ()
def PySem.W.Fast.tw17128586908542023358 := ()
def PySem.W.Fast.tw5544375368728536521 := ()
def PySem.W.Fast.tw601657729411187480 := ()
def PySem.W.Fast.tw13900845610938739119 := ()
def PySem.W.Fast.tw7079268574484520135 := ()
def PySem.W.Fast.tw5145827704771757738 := ()
def PySem.W.Fast.tw11015937966960610145 := ()
def PySem.W.Fast.tw9999605258239420912 := ()
def PySem.W.Fast.tw6952916985326787688 := ()
def PySem.W.Fast.tw12696562435574775735 := ()
def PySem.W.Fast.tw262756036359945686 := ()
def PySem.W.Fast.tw8052993431549188216 := ()
def PySem.W.Fast.tw15247419934454267257 := ()
def PySem.W.Fast.tw13772254938572509467 := ()
def PySem.W.Fast.tw8037959445156542887 := ()
def PySem.W.Fast.tw8190648807467200813 := ()
def PySem.W.Fast.tw10804539192939660918 := ()
def PySem.W.Fast.tw4097991335796355473 := ()
def PySem.W.Fast.tw8945824162423779963 := ()
def PySem.W.Fast.tw12918344045388960948 := ()
def PySem.W.Fast.tw11800337872156366121 := ()
def PySem.W.Fast.tw5228993044319675691 := ()
def PySem.W.Fast.tw2139609833318900526 := ()
def PySem.W.Fast.tw16349284119759249816 := ()
def PySem.W.Fast.tw3756856930857422726 := ()
def PySem.W.Fast.tw17907573729876628795 := ()
def PySem.W.Fast.tw12000170095392197088 := ()
def PySem.W.Fast.tw15466248077799393516 := ()
def PySem.W.Fast.tw309844707096184212 := ()
def PySem.W.Fast.tw4557132216497662080 := ()
def PySem.W.Fast.tw17311457790689828701 := ()
def PySem.W.Fast.tw16012730444488487105 := ()
def PySem.W.Fast.tw9242240630202459757 := ()
def PySem.W.Fast.tw11079145965691422221 := ()
def PySem.W.Fast.tw1734682622987947698 := ()
def PySem.W.Fast.tw2597225915654006059 := ()
def PySem.W.Fast.tw13183463485100197628 := ()
def PySem.W.Fast.tw5457830389863733096 := ()
def PySem.W.Fast.tw522381110071744444 := ()
def PySem.W.Fast.tw10731046521855934870 := ()
def PySem.W.Fast.tw1123189783135977028 := ()
def PySem.W.Fast.tw14046393168697325773 := ()
def PySem.W.Fast.tw14560219129112485509 := ()
def PySem.W.Fast.tw10572696976895947442 := ()
def PySem.W.Fast.tw6553324250049326263 := ()
def PySem.W.Fast.tw9082041762729428553 := ()
def PySem.W.Fast.tw11609408552478768204 := ()
def PySem.W.Fast.tw18085216163116647693 := ()
def PySem.W.Fast.tw16330315768667918154 := ()
def PySem.W.Fast.tw5072385890298655639 := ()
def PySem.W.Fast.tw3782119323733253011 := ()
def PySem.W.Fast.tw6494207101090002145 := ()
def PySem.W.Fast.tw12445632448779807129 := ()
def PySem.W.Fast.tw702373514757041949 := ()
def PySem.W.Fast.tw1103364154153297515 := ()
def PySem.W.Fast.tw15131542212467353119 := ()
def PySem.W.Fast.tw6987153436740537725 := ()
def PySem.W.Fast.tw914217597369773262 := ()
def PySem.W.Fast.tw14217106726041901022 := ()
def PySem.W.Fast.tw12633660920839038452 := ()
def PySem.W.Fast.tw2488633022858985074 := ()
def PySem.W.Fast.tw17025268909548342787 := ()
def PySem.W.Fast.tw5879493833960476736 := ()
def PySem.W.Fast.tw8193738745597125833 := ()
def PySem.W.Fast.tw10214979413871119228 := ()
def PySem.W.Fast.tw9997342187503676619 := ()
def PySem.W.Fast.tw3564811267534249547 := ()
def PySem.W.Fast.tw12416913744134144799 := ()
def PySem.W.Fast.tw10799963199003585398 := ()
def PySem.W.Fast.tw16704804445534510703 := ()
def PySem.W.Fast.tw8010304601127714044 := ()
def PySem.W.Fast.tw2761400065798890208 := ()
def PySem.W.Fast.tw17653756908063696434 := ()
def PySem.W.Fast.tw1406547084874534067 := ()
def PySem.W.Fast.tw4655658307623050355 := ()
def PySem.W.Fast.tw10069355371756149321 := ()
def PySem.W.Fast.tw4734790572586820242 := ()
def PySem.W.Fast.tw15935548418250060792 := ()
def PySem.W.Fast.tw15706782030526944844 := ()
def PySem.W.Fast.tw2776720756024589006 := ()
def PySem.W.Fast.tw11836771702209080355 := ()
def PySem.W.Fast.tw16214346097942222531 := ()
def PySem.W.Fast.tw1463523196698324777 := ()
def PySem.W.Fast.tw7333940331109116986 := ()
def PySem.W.Fast.tw5583120858143837411 := ()
def PySem.W.Fast.tw6718834565520927261 := ()
def PySem.W.Fast.tw696271655157835567 := ()
def PySem.W.Fast.tw13283459580534653278 := ()
def PySem.W.Fast.tw16851384431473978225 := ()
def PySem.W.Fast.tw17583305484336781063 := ()
def PySem.W.Fast.tw7124698880631031369 := ()
def PySem.W.Fast.tw16971831122763653279 := ()
def PySem.W.Fast.tw16823347725803396040 := ()
def PySem.W.Fast.tw3305116030245423066 := ()
def PySem.W.Fast.tw7192632387895484296 := ()
def PySem.W.Fast.tw9542519775042311939 := ()
def PySem.W.Fast.tw17380967340625423589 := ()
def PySem.W.Fast.tw11258226618806985208 := ()
def PySem.W.Fast.tw13148450491105271642 := ()
def PySem.W.Fast.tw11669991259556322991 := ()
def PySem.W.Fast.tw1575785557276818391 := ()
def PySem.W.Fast.tw5984331485695550566 := ()
def PySem.W.Fast.tw10000198983334174520 := ()
def PySem.W.Fast.tw15780725350652050495 := ()
def PySem.W.Fast.tw309338627374384687 := ()
def PySem.W.Fast.tw1941587813421859152 := ()
def PySem.W.Fast.tw17150186788656517138 := ()
def PySem.W.Fast.tw8869685964169752928 := ()
def PySem.W.Fast.tw11298756016115973016 := ()
def PySem.W.Fast.tw4877562644245996474 := ()
def PySem.W.Fast.tw11020499983927702651 := ()
def PySem.W.Fast.tw185451230021523519 := ()
def PySem.W.Fast.tw9166266365002837560 := ()
def PySem.W.Fast.tw15198922674544983275 := ()
def PySem.W.Fast.tw14043460312460136451 := ()
def PySem.W.Fast.tw11364795869582726820 := ()
def PySem.W.Fast.tw14128680614448000866 := ()
def PySem.W.Fast.tw6607017311987595794 := ()
def PySem.W.Fast.tw7761026559088677922 := ()
def PySem.W.Fast.tw11476093056274958112 := ()
def PySem.W.Fast.tw4564917069519780567 := ()
def PySem.W.Fast.tw71862122357883522 := ()
def PySem.W.Fast.tw9395517509611738996 := ()
def PySem.W.Fast.tw8644252344546208320 := ()
def PySem.W.Fast.tw9078973922175553635 := ()
def PySem.W.Fast.tw7056314492880374162 := ()
def PySem.W.Fast.tw6560948122626098940 := ()
def PySem.W.Fast.tw15030028197263712353 := ()
def PySem.W.Fast.tw8485998031787489667 := ()
def PySem.W.Fast.tw18365564613431872634 := ()
def PySem.W.Fast.tw18425668622062427211 := ()
def PySem.W.Fast.tw1347226044421164656 := ()
def PySem.W.Fast.tw6674416505494532475 := ()
def PySem.W.Fast.tw7981648290154650880 := ()
def PySem.W.Fast.tw16779882799232472967 := ()
def PySem.W.Fast.tw13995270508930666778 := ()
def PySem.W.Fast.tw13795390477776778113 := ()
def PySem.W.Fast.tw9716467186100696147 := ()
def PySem.W.Fast.tw2108505864759430571 := ()
def PySem.W.Fast.tw8320671654808827190 := ()
def PySem.W.Fast.tw10431130396428311474 := ()
def PySem.W.Fast.tw12813558063452004084 := ()
def PySem.W.Fast.tw16523034421347320856 := ()
def PySem.W.Fast.tw11252654483996029544 := ()
def PySem.W.Fast.tw7018637355931957969 := ()
def PySem.W.Fast.tw12586401636639189239 := ()
def PySem.W.Fast.tw7430080124621786426 := ()
def PySem.W.Fast.tw12772976322901082848 := ()
def PySem.W.Fast.tw5564169941483243120 := ()
def PySem.W.Fast.tw6097397387832063 := ()
def PySem.W.Fast.tw2219340006753263234 := ()
def PySem.W.Fast.tw8292681767781599320 := ()
def PySem.W.Fast.tw5180743750785437284 := ()
def PySem.W.Fast.tw7751224401382056728 := ()
def PySem.W.Fast.tw9882077301090565358 := ()
def PySem.W.Fast.tw236075759345933705 := ()
def PySem.W.Fast.tw429580739545997126 := ()
def PySem.W.Fast.tw6739052911532862652 := ()
def PySem.W.Fast.tw15592936172641086317 := ()
def PySem.W.Fast.tw13444168434290716958 := ()
def PySem.W.Fast.tw3411472604296885600 := ()
def PySem.W.Fast.tw4435830425008216042 := ()
def PySem.W.Fast.tw18429339519706273424 := ()
def PySem.W.Fast.tw15542633184189222958 := ()
def PySem.W.Fast.tw5643661184558554881 := ()
def PySem.W.Fast.tw14353318641968679118 := ()
def PySem.W.Fast.tw9747102794385842465 := ()
def PySem.W.Fast.tw6939435301899992588 := ()
def PySem.W.Fast.tw1870432760199807089 := ()
def PySem.W.Fast.tw2480207299053783070 := ()
def PySem.W.Fast.tw2571451802215294813 := ()
def PySem.W.Fast.tw15353881493752783799 := ()
def PySem.W.Fast.tw10871522410935014785 := ()
def PySem.W.Fast.tw9029591083214210025 := ()
def PySem.W.Fast.tw710238261954750721 := ()
def PySem.W.Fast.tw11300843683470050818 := ()
def PySem.W.Fast.tw5877919234744122320 := ()
def PySem.W.Fast.tw8739504820760703994 := ()
def PySem.W.Fast.tw6173997311149082155 := ()
def PySem.W.Fast.tw6517425534423378840 := ()
def PySem.W.Fast.tw14503793929853690125 := ()
def PySem.W.Fast.tw12386456049466548261 := ()
def PySem.W.Fast.tw2904754491005947499 := ()
def PySem.W.Fast.tw18319482189278039124 := ()
def PySem.W.Fast.tw687478408816400735 := ()
def PySem.W.Fast.tw8460816768430357772 := ()
def PySem.W.Fast.tw9989262940157447287 := ()
def PySem.W.Fast.tw15706201965855508933 := ()
def PySem.W.Fast.tw12228891269893188848 := ()
def PySem.W.Fast.tw6119030701581722656 := ()
def PySem.W.Fast.tw8158728955995971699 := ()
def PySem.W.Fast.tw16910163652260166966 := ()
def PySem.W.Fast.tw8664531253093190952 := ()
def PySem.W.Fast.tw277197597135108308 := ()
def PySem.W.Fast.tw7328709807278581103 := ()
def PySem.W.Fast.tw5917199750167057436 := ()
def PySem.W.Fast.tw11419021357094177469 := ()
def PySem.W.Fast.tw14907175331476391466 := ()
def PySem.W.Fast.tw6130333195234032841 := ()
def PySem.W.Fast.tw12180707299677178334 := ()
def PySem.W.Fast.tw15031509044228766185 := ()
def PySem.W.Fast.tw14198720388771685681 := ()
def PySem.W.Fast.tw8793127688858576961 := ()
def PySem.W.Fast.tw15213982705823249482 := ()
def PySem.W.Fast.tw1735308620356587344 := ()
def PySem.W.Fast.tw14396254840188544686 := ()
def PySem.W.Fast.tw11913002262550326469 := ()
def PySem.W.Fast.tw1819203112247815947 := ()
def PySem.W.Fast.tw13256024837320458174 := ()
def PySem.W.Fast.tw7979132287279585891 := ()
def PySem.W.Fast.tw4249777245948861106 := ()
def PySem.W.Fast.tw3297162163917083609 := ()
def PySem.W.Fast.tw13124434164938451709 := ()
def PySem.W.Fast.tw14016345323792836432 := ()
def PySem.W.Fast.tw4067256822891272812 := ()
def PySem.W.Fast.tw2108474738974201235 := ()
def PySem.W.Fast.tw6737874143471957238 := ()
def PySem.W.Fast.tw13292631684204883732 := ()
def PySem.W.Fast.tw12640497241442214293 := ()
def PySem.W.Fast.tw10927498072042449979 := ()
def PySem.W.Fast.tw17777824453359393462 := ()
def PySem.W.Fast.tw3473425159922701787 := ()
def PySem.W.Fast.tw7463841357367237942 := ()
def PySem.W.Fast.tw10333254770377304573 := ()
def PySem.W.Fast.tw12814333112778914694 := ()
def PySem.W.Fast.tw7653380675152414709 := ()
def PySem.W.Fast.tw7058261422131211806 := ()
def PySem.W.Fast.tw3566879203691080072 := ()
def PySem.W.Fast.tw6550514586055745489 := ()
def PySem.W.Fast.tw2989338081655548472 := ()
def PySem.W.Fast.tw15234467858271426507 := ()
def PySem.W.Fast.tw15849503538666169244 := ()
def PySem.W.Fast.tw451454577173086471 := ()
def PySem.W.Fast.tw2990793566534609098 := ()
def PySem.W.Fast.tw13859649119888572867 := ()
def PySem.W.Fast.tw2958004716765029585 := ()
def PySem.W.Fast.tw3283289428862978830 := ()
def PySem.W.Fast.tw11310797948622219234 := ()
def PySem.W.Fast.tw17667593292753666849 := ()
def PySem.W.Fast.tw14797431459670841366 := ()
def PySem.W.Fast.tw1829923053632068836 := ()
def PySem.W.Fast.tw7941921672125611742 := ()
def PySem.W.Fast.tw1790555342884689113 := ()
def PySem.W.Fast.tw3994035397841930141 := ()
def PySem.W.Fast.tw783694779758047870 := ()
def PySem.W.Fast.tw16975092403788577861 := ()
def PySem.W.Fast.tw4660674769756947627 := ()
def PySem.W.Fast.tw11057260411002132281 := ()
def PySem.W.Fast.tw304713770083094746 := ()
def PySem.W.Fast.tw14949393813987152692 := ()
def PySem.W.Fast.tw4736974885063071732 := ()
def PySem.W.Fast.tw13086067258827447418 := ()
def PySem.W.Fast.tw15580087986122405309 := ()
def PySem.W.Fast.tw12419068216692005764 := ()
def PySem.W.Fast.tw7993777358433408328 := ()
def PySem.W.Fast.tw15158925882181502103 := ()
def PySem.W.Fast.tw4802859694511768853 := ()
def PySem.W.Fast.tw7024231906458510503 := ()
def PySem.W.Fast.tw10929061660578347189 := ()
def PySem.W.Fast.tw7760626540928389742 := ()
def PySem.W.Fast.tw9823092450555144269 := ()
def PySem.W.Fast.tw454851806879443730 := ()
def PySem.W.Fast.tw15586319542063647157 := ()
def PySem.W.Fast.tw1522309842667834289 := ()
def PySem.W.Fast.tw14450102358261993264 := ()
def PySem.W.Fast.tw5614487083802933369 := ()
def PySem.W.Fast.tw9320769935017916842 := ()
def PySem.W.Fast.tw5168546299142840874 := ()
def PySem.W.Fast.tw8986052800334212657 := ()
def PySem.W.Fast.tw14089730968282933238 := ()
def PySem.W.Fast.tw3168566754282492339 := ()
def PySem.W.Fast.tw787685388412573369 := ()
def PySem.W.Fast.tw3396431538516707673 := ()
def PySem.W.Fast.tw11995395615031065202 := ()
def PySem.W.Fast.tw12621542337129366224 := ()
def PySem.W.Fast.tw16340859749636997249 := ()
def PySem.W.Fast.tw17154661417046909965 := ()
def PySem.W.Fast.tw14771817433801155092 := ()
def PySem.W.Fast.tw15709889010518739500 := ()
def PySem.W.Fast.tw15110476772827035779 := ()
def PySem.W.Fast.tw16528078746691911035 := ()
def PySem.W.Fast.tw14393474672087843676 := ()
def PySem.W.Fast.tw9614212522291741385 := ()
def PySem.W.Fast.tw13645540686317099618 := ()
def PySem.W.Fast.tw13399748091462755023 := ()
def PySem.W.Fast.tw16372900968977284616 := ()
def PySem.W.Fast.tw7489713507292341516 := ()
def PySem.W.Fast.tw1120491919767554940 := ()
def PySem.W.Fast.tw13562608795528539562 := ()
def PySem.W.Fast.tw3547156836048194138 := ()
def PySem.W.Fast.tw13124313543194289817 := ()
def PySem.W.Fast.tw2057328833572710718 := ()
def PySem.W.Fast.tw17638728468195062782 := ()
def PySem.W.Fast.tw10984405675784905194 := ()
def PySem.W.Fast.tw17711453098535390531 := ()
def PySem.W.Fast.tw18112336634179304119 := ()
def PySem.W.Fast.tw156415977514507181 := ()
def PySem.W.Fast.tw18047415250938403920 := ()
def PySem.W.Fast.tw14054127247520578386 := ()
def PySem.W.Fast.tw1517740495620456592 := ()
def PySem.W.Fast.tw13991263177309467860 := ()
def PySem.W.Fast.tw1814757555576809165 := ()
def PySem.W.Fast.tw2765067250700963074 := ()
def PySem.W.Fast.tw16912324449224124339 := ()
def PySem.W.Fast.tw12319761183751147863 := ()
def PySem.W.Fast.tw59146034470884934 := ()
def PySem.W.Fast.tw9170239087633246358 := ()
def PySem.W.Fast.tw18272766467947612052 := ()
def PySem.W.Fast.tw2816873260250190871 := ()
def PySem.W.Fast.tw14920461314540376291 := ()
def PySem.W.Fast.tw2825486548158330764 := ()
def PySem.W.Fast.tw13484513598358740295 := ()
def PySem.W.Fast.tw15579595291756503882 := ()
def PySem.W.Fast.tw616501888157932669 := ()
def PySem.W.Fast.tw12373688993880248467 := ()
def PySem.W.Fast.tw10872719766490794373 := ()
def PySem.W.Fast.tw5286909362321243662 := ()
def PySem.W.Fast.tw2693263379075981126 := ()
def PySem.W.Fast.tw10158031711833658931 := ()
def PySem.W.Fast.tw10062702761604645656 := ()
def PySem.W.Fast.tw5763694582102953511 := ()
def PySem.W.Fast.tw8345315184754669796 := ()
def PySem.W.Fast.tw3553767114503089129 := ()
def PySem.W.Fast.tw152350937056961309 := ()
def PySem.W.Fast.tw7241043884103881476 := ()
def PySem.W.Fast.tw14451558022029554063 := ()
def PySem.W.Fast.tw6998462568618488606 := ()
def PySem.W.Fast.tw7926434039657025783 := ()
def PySem.W.Fast.tw14181537431133670564 := ()
def PySem.W.Fast.tw14335291056725776132 := ()
def PySem.W.Fast.tw11566076018850852142 := ()
def PySem.W.Fast.tw4238629431951905416 := ()
def PySem.W.Fast.tw7625889622799801174 := ()
def PySem.W.Fast.tw14857255726135801559 := ()
def PySem.W.Fast.tw4746623357841502393 := ()
def PySem.W.Fast.tw17693719096945941268 := ()
def PySem.W.Fast.tw13486662454106188000 := ()
def PySem.W.Fast.tw15514853304405591700 := ()
def PySem.W.Fast.tw24286818783663458 := ()
def PySem.W.Fast.tw13979042771116109612 := ()
def PySem.W.Fast.tw11599876423019786740 := ()
def PySem.W.Fast.tw2970755588295864632 := ()
def PySem.W.Fast.tw16659060658787171882 := ()
def PySem.W.Fast.tw5098255954339069370 := ()
def PySem.W.Fast.tw17731543211194597648 := ()
def PySem.W.Fast.tw7320092635062077880 := ()
def PySem.W.Fast.tw13594684921824865990 := ()
def PySem.W.Fast.tw3741629894276951091 := ()
def PySem.W.Fast.tw13817849210729002582 := ()
def PySem.W.Fast.tw5601700526997019849 := ()
def PySem.W.Fast.tw5666348123070225911 := ()
def PySem.W.Fast.tw6660253904572487278 := ()
def PySem.W.Fast.tw1242785589064486927 := ()
def PySem.W.Fast.tw16745814673810810923 := ()
def PySem.W.Fast.tw17077254354085916085 := ()
def PySem.W.Fast.tw9342790669947700105 := ()
def PySem.W.Fast.tw7044229862373225417 := ()
def PySem.W.Fast.tw1177453162354976382 := ()
def PySem.W.Fast.tw8554575555798670630 := ()
def PySem.W.Fast.tw12337317005145935798 := ()
def PySem.W.Fast.tw17184035451341479289 := ()
def PySem.W.Fast.tw12228986069697864672 := ()
def PySem.W.Fast.tw5953245211358943655 := ()
def PySem.W.Fast.tw15031050795455933929 := ()
def PySem.W.Fast.tw1508224495454845881 := ()
def PySem.W.Fast.tw2613839634430466784 := ()
def PySem.W.Fast.tw11781477113972772128 := ()
def PySem.W.Fast.tw17855929574975216413 := ()
def PySem.W.Fast.tw188825856305659591 := ()
def PySem.W.Fast.tw11071580761783470505 := ()
def PySem.W.Fast.tw17199753504311224309 := ()
def PySem.W.Fast.tw7720859808719213484 := ()
def PySem.W.Fast.tw5544092525006386528 := ()
def PySem.W.Fast.tw16963598823005180340 := ()
def PySem.W.Fast.tw11406010249106548775 := ()
def PySem.W.Fast.tw1219679989514369465 := ()
def PySem.W.Fast.tw15226408678552796479 := ()
def PySem.W.Fast.tw14989595016684153970 := ()
def PySem.W.Fast.tw4930388082323979525 := ()
def PySem.W.Fast.tw2725264876266478045 := ()
def PySem.W.Fast.tw5075020152222649569 := ()
def PySem.W.Fast.tw481342546649986902 := ()
def PySem.W.Fast.tw7795066048645049201 := ()
def PySem.W.Fast.tw4850987029792941150 := ()
def PySem.W.Fast.tw12105991852733666475 := ()
def PySem.W.Fast.tw16157942544265550443 := ()
def PySem.W.Fast.tw10108719942316082444 := ()
def PySem.W.Fast.tw14258736490077897387 := ()
def PySem.W.Fast.tw3298245688768341991 := ()
def PySem.W.Fast.tw11791852976947245705 := ()
def PySem.W.Fast.tw1545512053325615817 := ()
def PySem.W.Fast.tw2880123410059049534 := ()
def PySem.W.Fast.tw2769509235292828910 := ()
def PySem.W.Fast.tw1808380359387666326 := ()
def PySem.W.Fast.tw13570494188013841046 := ()
def PySem.W.Fast.tw18238784985580655769 := ()
def PySem.W.Fast.tw11574061387914898955 := ()
def PySem.W.Fast.tw11669876567481617889 := ()
def PySem.W.Fast.tw12641806923799716659 := ()
def PySem.W.Fast.tw9723874897029494486 := ()
def PySem.W.Fast.tw16573426871093405854 := ()
def PySem.W.Fast.tw13726602897110816313 := ()
def PySem.W.Fast.tw14731259373297116953 := ()
def PySem.W.Fast.tw13992819517343225811 := ()
def PySem.W.Fast.tw7931680963103290430 := ()
def PySem.W.Fast.tw7380654744608515852 := ()
def PySem.W.Fast.tw6838858703259444064 := ()
def PySem.W.Fast.tw7653704090827092906 := ()
def PySem.W.Fast.tw7581405165459702428 := ()
def PySem.W.Fast.tw1482692239958034101 := ()
def PySem.W.Fast.tw18212480625074541745 := ()
def PySem.W.Fast.tw5989269033597057571 := ()
def PySem.W.Fast.tw7515063912238113320 := ()
def PySem.W.Fast.tw6959291710305735685 := ()
def PySem.W.Fast.tw3527828813450895812 := ()
def PySem.W.Fast.tw11728943445360054914 := ()
def PySem.W.Fast.tw16568305896464225150 := ()
def PySem.W.Fast.tw14241435273282298967 := ()
def PySem.W.Fast.tw4494657066503710534 := ()
def PySem.W.Fast.tw1622191203002124678 := ()
def PySem.W.Fast.tw12866241871227324733 := ()
def PySem.W.Fast.tw18359871323257831966 := ()
def PySem.W.Fast.tw480240972545481143 := ()
def PySem.W.Fast.tw13170608949490953652 := ()
def PySem.W.Fast.tw13583595882461643167 := ()
def PySem.W.Fast.tw11556199234195048260 := ()
def PySem.W.Fast.tw1313538754727078199 := ()
def PySem.W.Fast.tw5516519102536986440 := ()
def PySem.W.Fast.tw3864300609708874607 := ()
def PySem.W.Fast.tw90709333249604173 := ()
def PySem.W.Fast.tw1598177266521062000 := ()
def PySem.W.Fast.tw17522101849512116779 := ()
def PySem.W.Fast.tw13973406005245053412 := ()
def PySem.W.Fast.tw6133341668053517253 := ()
def PySem.W.Fast.tw1190519229281502794 := ()
def PySem.W.Fast.tw3938925816743162938 := ()
def PySem.W.Fast.tw2840307189987504045 := ()
def PySem.W.Fast.tw8808422010393633542 := ()
def PySem.W.Fast.tw10999639054564088128 := ()
def PySem.W.Fast.tw6478185079704368730 := ()
def PySem.W.Fast.tw611189288984055550 := ()
def PySem.W.Fast.tw12863790202025930374 := ()
def PySem.W.Fast.tw16314576710012425614 := ()
def PySem.W.Fast.tw8452562786062391692 := ()
def PySem.W.Fast.tw5877728822839153453 := ()
def PySem.W.Fast.tw8681929806696323826 := ()
def PySem.W.Fast.tw2123031010925137498 := ()
def PySem.W.Fast.tw11892414447405449511 := ()
def PySem.W.Fast.tw3103830727398545033 := ()
def PySem.W.Fast.tw4437942154016108742 := ()
def PySem.W.Fast.tw7346641177025365806 := ()
def PySem.W.Fast.tw7300358236794312835 := ()
def PySem.W.Fast.tw10739083285092889563 := ()
def PySem.W.Fast.tw18348685302360558057 := ()
def PySem.W.Fast.tw15706231700602232094 := ()
def PySem.W.Fast.tw11506968592679378064 := ()
def PySem.W.Fast.tw3835439366258551469 := ()
def PySem.W.Fast.tw11469228093468337542 := ()
def PySem.W.Fast.tw16428178023326236282 := ()
def PySem.W.Fast.tw4025863974641285903 := ()
def PySem.W.Fast.tw16925868757197812287 := ()
def PySem.W.Fast.tw15736763083161914139 := ()
def PySem.W.Fast.tw5933270533258110693 := ()
def PySem.W.Fast.tw12939722999602929443 := ()
def PySem.W.Fast.tw5462350650492788486 := ()
def PySem.W.Fast.tw4660627399869667489 := ()
def PySem.W.Fast.tw12607264454762241486 := ()
def PySem.W.Fast.tw6927487877090591111 := ()
def PySem.W.Fast.tw11722861697139637547 := ()
def PySem.W.Fast.tw7496404234257215458 := ()
def PySem.W.Fast.tw14625084667661728883 := ()
def PySem.W.Fast.tw16885488156569836990 := ()
def PySem.W.Fast.tw5056055023042763660 := ()
def PySem.W.Fast.tw13805022178648846156 := ()
def PySem.W.Fast.tw8026248467312842471 := ()
def PySem.W.Fast.tw8392997966440542874 := ()
def PySem.W.Fast.tw2166291117482849389 := ()
def PySem.W.Fast.tw5241232431359666101 := ()
def PySem.W.Fast.tw9325837060862701417 := ()
def PySem.W.Fast.tw12691551931494898403 := ()
def PySem.W.Fast.tw17504012434394142109 := ()
def PySem.W.Fast.tw3329070179839356662 := ()
def PySem.W.Fast.tw16071034500009685823 := ()
def PySem.W.Fast.tw16915451331495841344 := ()
def PySem.W.Fast.tw15232177077778889085 := ()
def PySem.W.Fast.tw9361686895077780592 := ()
def PySem.W.Fast.tw7669950595362313770 := ()
def PySem.W.Fast.tw4534318899221402224 := ()
def PySem.W.Fast.tw11603662186873743065 := ()
def PySem.W.Fast.tw8663323111955294281 := ()
def PySem.W.Fast.tw10956917378886042574 := ()
def PySem.W.Fast.tw10103886717398158177 := ()
def PySem.W.Fast.tw14653436178948710359 := ()
def PySem.W.Fast.tw5619232986860134206 := ()
def PySem.W.Fast.tw18104696660152486415 := ()
def PySem.W.Fast.tw3869222235301273395 := ()
def PySem.W.Fast.tw4261244463817603417 := ()
def PySem.W.Fast.tw14894357344125168755 := ()
def PySem.W.Fast.tw9384188238545218124 := ()
def PySem.W.Fast.tw13504352505661883950 := ()
def PySem.W.Fast.tw1746911694207183863 := ()
def PySem.W.Fast.tw424518449060480978 := ()
def PySem.W.Fast.tw16318086837132284717 := ()
def PySem.W.Fast.tw11706503120126107972 := ()
def PySem.W.Fast.tw8399090741449996404 := ()
def PySem.W.Fast.tw4767064237644861246 := ()
def PySem.W.Fast.tw2126464561719184130 := ()
def PySem.W.Fast.tw3008273269249055398 := ()
def PySem.W.Fast.tw14764851623042003081 := ()
def PySem.W.Fast.tw5644397183990410071 := ()
def PySem.W.Fast.tw5882276774175349894 := ()
def PySem.W.Fast.tw3620476379384754888 := ()
def PySem.W.Fast.tw11540034652655612070 := ()
def PySem.W.Fast.tw9709514305517331495 := ()
def PySem.W.Fast.tw10170005482198795582 := ()
def PySem.W.Fast.tw146548034300438210 := ()
def PySem.W.Fast.tw5883791118529933516 := ()
def PySem.W.Fast.tw854077588829789468 := ()
def PySem.W.Fast.tw3437827710626718517 := ()
def PySem.W.Fast.tw7824910213207712791 := ()
def PySem.W.Fast.tw16408472275137607806 := ()
def PySem.W.Fast.tw12442393047263696216 := ()
def PySem.W.Fast.tw15994267090077258621 := ()
def PySem.W.Fast.tw15675645281238044421 := ()
def PySem.W.Fast.tw3704608430805348093 := ()
def PySem.W.Fast.tw8725641111479520587 := ()
def PySem.W.Fast.tw9159958966706992596 := ()
def PySem.W.Fast.tw13395509443461708369 := ()
def PySem.W.Fast.tw16561544683289685291 := ()
def PySem.W.Fast.tw5489677684685090504 := ()
def PySem.W.Fast.tw33416720692936250 := ()
def PySem.W.Fast.tw15376668541529689747 := ()
def PySem.W.Fast.tw16444383912234330860 := ()
def PySem.W.Fast.tw3818084417246005027 := ()
def PySem.W.Fast.tw5722825588249713829 := ()
def PySem.W.Fast.tw12355324004073225750 := ()
def PySem.W.Fast.tw10678694837054237347 := ()
def PySem.W.Fast.tw15822252785824290623 := ()
def PySem.W.Fast.tw10237349358077511714 := ()
def PySem.W.Fast.tw11969115115576629305 := ()
def PySem.W.Fast.tw6888148057041922245 := ()
def PySem.W.Fast.tw671413938323898064 := ()
def PySem.W.Fast.tw6324248754143082016 := ()
def PySem.W.Fast.tw11020492852765526815 := ()
def PySem.W.Fast.tw16209747174547728437 := ()
def PySem.W.Fast.tw2101641675778026904 := ()
def PySem.W.Fast.tw18173542372229540923 := ()
def PySem.W.Fast.tw1558080501077735785 := ()
def PySem.W.Fast.tw3839379790273507297 := ()
def PySem.W.Fast.tw9547954471777392838 := ()
def PySem.W.Fast.tw11305934893775535901 := ()
def PySem.W.Fast.tw2685807861037534831 := ()
def PySem.W.Fast.tw607930029806370705 := ()
def PySem.W.Fast.tw1977190476608888240 := ()
def PySem.W.Fast.tw2340475886272398143 := ()
def PySem.W.Fast.tw13059276389664411648 := ()
def PySem.W.Fast.tw2264704979840168772 := ()
def PySem.W.Fast.tw1034771677485860952 := ()
def PySem.W.Fast.tw5152338732411733419 := ()
def PySem.W.Fast.tw9194222754656300264 := ()
def PySem.W.Fast.tw8453932245871152721 := ()
def PySem.W.Fast.tw14546598283756645721 := ()
def PySem.W.Fast.tw10178644653666033730 := ()
def PySem.W.Fast.tw319074577551827007 := ()
def PySem.W.Fast.tw4742920465808169227 := ()
def PySem.W.Fast.tw2087054783424668631 := ()
def PySem.W.Fast.tw18154739544318852945 := ()
def PySem.W.Fast.tw16325829143051630083 := ()
def PySem.W.Fast.tw15517228330777395491 := ()
def PySem.W.Fast.tw10888888631019099454 := ()
def PySem.W.Fast.tw7088631292943479810 := ()
def PySem.W.Fast.tw2370914133727842251 := ()
def PySem.W.Fast.tw10976887428998201277 := ()
def PySem.W.Fast.tw8463285705875931858 := ()
def PySem.W.Fast.tw14311473652108184659 := ()
def PySem.W.Fast.tw8576655475880197145 := ()
def PySem.W.Fast.tw18357432512984190584 := ()
def PySem.W.Fast.tw7818571157823324623 := ()
def PySem.W.Fast.tw8593301118780499217 := ()
def PySem.W.Fast.tw5801063996651981053 := ()
def PySem.W.Fast.tw11588964212957967464 := ()
def PySem.W.Fast.tw11222365966963798409 := ()
def PySem.W.Fast.tw2335129433548957710 := ()
def PySem.W.Fast.tw7615253935018249191 := ()
def PySem.W.Fast.tw6435252939382197866 := ()
def PySem.W.Fast.tw5628038277961023942 := ()
def PySem.W.Fast.tw14625912025610025949 := ()
def PySem.W.Fast.tw4007522983242876506 := ()
def PySem.W.Fast.tw11114173006291369166 := ()
def PySem.W.Fast.tw13861759153531861002 := ()
def PySem.W.Fast.tw4206550801123208251 := ()
def PySem.W.Fast.tw14441129262308074361 := ()
def PySem.W.Fast.tw5638653790227034284 := ()
def PySem.W.Fast.tw18445189766641322832 := ()
def PySem.W.Fast.tw508616698021873435 := ()
def PySem.W.Fast.tw6274811628105505570 := ()
def PySem.W.Fast.tw2866812907814631600 := ()
def PySem.W.Fast.tw11452141827199940823 := ()
def PySem.W.Fast.tw5081861546905625576 := ()
def PySem.W.Fast.tw5424281711230450012 := ()
def PySem.W.Fast.tw15978988848708911754 := ()
def PySem.W.Fast.tw5600118004620083323 := ()
def PySem.W.Fast.tw8803053691750819028 := ()
def PySem.W.Fast.tw4405870186337625440 := ()
def PySem.W.Fast.tw8678514370691668573 := ()
def PySem.W.Fast.tw4873012024952645534 := ()
def PySem.W.Fast.tw4068704739408214862 := ()
def PySem.W.Fast.tw4089189271807737631 := ()
def PySem.W.Fast.tw7437022006339850566 := ()
def PySem.W.Fast.tw362394092544518564 := ()
def PySem.W.Fast.tw3378803382658087685 := ()
def PySem.W.Fast.tw18267111038942615563 := ()
def PySem.W.Fast.tw11255938328615683980 := ()
def PySem.W.Fast.tw15553534512062944963 := ()
def PySem.W.Fast.tw17304009840456566422 := ()
def PySem.W.Fast.tw15817395677808727783 := ()
def PySem.W.Fast.tw2500689093694533575 := ()
def PySem.W.Fast.tw13393563926089280557 := ()
def PySem.W.Fast.tw12505790961559211559 := ()
def PySem.W.Fast.tw16641384064302384635 := ()
def PySem.W.Fast.tw15182096801919386185 := ()
def PySem.W.Fast.tw17866443979121451627 := ()
def PySem.W.Fast.tw16597467929309026240 := ()
def PySem.W.Fast.tw15143403080811255010 := ()
def PySem.W.Fast.tw7193091806319389374 := ()
def PySem.W.Fast.tw13820516989902096200 := ()
def PySem.W.Fast.tw3781618817157820559 := ()
def PySem.W.Fast.tw8277249941822487108 := ()
def PySem.W.Fast.tw4290279659115092425 := ()
def PySem.W.Fast.tw10099076293363685286 := ()
def PySem.W.Fast.tw15251192401083965137 := ()
def PySem.W.Fast.tw4410338827523499502 := ()
def PySem.W.Fast.tw15196822110332877434 := ()
def PySem.W.Fast.tw1291187637464633142 := ()
def PySem.W.Fast.tw4922112242240710295 := ()
def PySem.W.Fast.tw9008326831575820061 := ()
def PySem.W.Fast.tw4534290750487879563 := ()
def PySem.W.Fast.tw13707951930646571090 := ()
def PySem.W.Fast.tw14093479086595531424 := ()
def PySem.W.Fast.tw18326137136181564842 := ()
def PySem.W.Fast.tw5624392425927493528 := ()
def PySem.W.Fast.tw6702944854023986491 := ()
def PySem.W.Fast.tw15585395785262751949 := ()
def PySem.W.Fast.tw62451441036606507 := ()
def PySem.W.Fast.tw8561272199452713035 := ()
def PySem.W.Fast.tw16104598274994874908 := ()
def PySem.W.Fast.tw9803374739010159255 := ()
def PySem.W.Fast.tw2755720765150988140 := ()
def PySem.W.Fast.tw11761826737878428149 := ()
def PySem.W.Fast.tw11624981023706612590 := ()
def PySem.W.Fast.tw1189336634261413974 := ()
def PySem.W.Fast.tw15883406383133790570 := ()
def PySem.W.Fast.tw5536381409764846936 := ()
def PySem.W.Fast.tw988128689059560748 := ()
def PySem.W.Fast.tw9960661318440128660 := ()
def PySem.W.Fast.tw11427114349598911079 := ()
def PySem.W.Fast.tw9005316061112201754 := ()
def PySem.W.Fast.tw9533984302169576714 := ()
def PySem.W.Fast.tw5956425252913899704 := ()
def PySem.W.Fast.tw16516316480851441192 := ()
def PySem.W.Fast.tw6378930903674224968 := ()
def PySem.W.Fast.tw9858275262487523869 := ()
def PySem.W.Fast.tw4810157630131918579 := ()
def PySem.W.Fast.tw4726800816963536264 := ()
def PySem.W.Fast.tw13813506889792335860 := ()
def PySem.W.Fast.tw13820987056821683947 := ()
def PySem.W.Fast.tw7119294215210271839 := ()
def PySem.W.Fast.tw1605089950700742290 := ()
def PySem.W.Fast.tw18221784401575468991 := ()
def PySem.W.Fast.tw13716070845278347589 := ()
def PySem.W.Fast.tw14415242695352868116 := ()
def PySem.W.Fast.tw12435316603867872305 := ()
def PySem.W.Fast.tw15800049025560501754 := ()
def PySem.W.Fast.tw535677854040981267 := ()
def PySem.W.Fast.tw4867065978552431096 := ()
def PySem.W.Fast.tw6505562294617671171 := ()
def PySem.W.Fast.tw1485628372830853595 := ()
def PySem.W.Fast.tw15546192415038765478 := ()
def PySem.W.Fast.tw15773664446055566284 := ()
def PySem.W.Fast.tw16474457259322675901 := ()
def PySem.W.Fast.tw11215556170086851478 := ()
def PySem.W.Fast.tw13302171902129199610 := ()
def PySem.W.Fast.tw9343018319488988557 := ()
def PySem.W.Fast.tw9384659278277020864 := ()
def PySem.W.Fast.tw964464861080393692 := ()
def PySem.W.Fast.tw9350294583091484724 := ()
def PySem.W.Fast.tw3356592050174495667 := ()
def PySem.W.Fast.tw7114164701601670205 := ()
def PySem.W.Fast.tw5277960516740436670 := ()
def PySem.W.Fast.tw2126132716516358847 := ()
def PySem.W.Fast.tw10972832101137504945 := ()
def PySem.W.Fast.tw2804171528171659626 := ()
def PySem.W.Fast.tw7189769123658635033 := ()
def PySem.W.Fast.tw5323299962924961969 := ()
def PySem.W.Fast.tw913641241736400913 := ()
def PySem.W.Fast.tw15442948244189527648 := ()
def PySem.W.Fast.tw16779918100918845828 := ()
def PySem.W.Fast.tw8805697723834450370 := ()
def PySem.W.Fast.tw4295410465308782341 := ()
def PySem.W.Fast.tw12676345386932841938 := ()
def PySem.W.Fast.tw10355776494570032624 := ()
def PySem.W.Fast.tw16015419316613199559 := ()
def PySem.W.Fast.tw17909816647041611771 := ()
def PySem.W.Fast.tw7769734069150996600 := ()
def PySem.W.Fast.tw14416964907255288215 := ()
def PySem.W.Fast.tw17041493878305797136 := ()
def PySem.W.Fast.tw9214780886928893305 := ()
def PySem.W.Fast.tw12700193275791535359 := ()
def PySem.W.Fast.tw6138335461303602282 := ()
def PySem.W.Fast.tw14940808431495956808 := ()
def PySem.W.Fast.tw12867966782934792445 := ()
def PySem.W.Fast.tw13303539864130246929 := ()
def PySem.W.Fast.tw8693918937695578000 := ()
def PySem.W.Fast.tw8663760026460935075 := ()
def PySem.W.Fast.tw12747941080523926009 := ()
def PySem.W.Fast.tw11793424012602046623 := ()
def PySem.W.Fast.tw17004724550755141199 := ()
def PySem.W.Fast.tw7788787216832963964 := ()
def PySem.W.Fast.tw4454215657010625821 := ()
def PySem.W.Fast.tw11221601592590721861 := ()
def PySem.W.Fast.tw552536300449832308 := ()
def PySem.W.Fast.tw3383981938658878652 := ()
def PySem.W.Fast.tw8418655727067870553 := ()
def PySem.W.Fast.tw7164189482371825270 := ()
def PySem.W.Fast.tw17921466539738028316 := ()
def PySem.W.Fast.tw14670816876020500482 := ()
def PySem.W.Fast.tw16371602622912596734 := ()
def PySem.W.Fast.tw10527506060199240063 := ()
def PySem.W.Fast.tw5614462849181540555 := ()
def PySem.W.Fast.tw11613178385618447750 := ()
def PySem.W.Fast.tw17753843062188414990 := ()
def PySem.W.Fast.tw13028405725766541079 := ()
def PySem.W.Fast.tw5950505376463816089 := ()
def PySem.W.Fast.tw3484644859553182369 := ()
def PySem.W.Fast.tw10643985402886446260 := ()
def PySem.W.Fast.tw16625526202491314118 := ()
def PySem.W.Fast.tw3089801292938617275 := ()
def PySem.W.Fast.tw6294250079439372651 := ()
def PySem.W.Fast.tw18269549136710401280 := ()
def PySem.W.Fast.tw8364781048451464680 := ()
def PySem.W.Fast.tw6566602847623369026 := ()
def PySem.W.Fast.tw1621207144260069767 := ()
def PySem.W.Fast.tw11699661646872577741 := ()
def PySem.W.Fast.tw11892046091543219079 := ()
def PySem.W.Fast.tw38997637337171657 := ()
def PySem.W.Fast.tw788545999227496545 := ()
def PySem.W.Fast.tw4590511905911713457 := ()
def PySem.W.Fast.tw4819879877100186496 := ()
def PySem.W.Fast.tw849335557864579277 := ()
def PySem.W.Fast.tw14041999663364273139 := ()
def PySem.W.Fast.tw4884985847207180943 := ()
def PySem.W.Fast.tw16923438025636488943 := ()
def PySem.W.Fast.tw13992548314227465551 := ()
def PySem.W.Fast.tw16538905673079368689 := ()
def PySem.W.Fast.tw3193352698826893308 := ()
def PySem.W.Fast.tw18274165698938904043 := ()
def PySem.W.Fast.tw6804082976858034005 := ()
def PySem.W.Fast.tw10749709517515740279 := ()
def PySem.W.Fast.tw7281491907314343753 := ()
def PySem.W.Fast.tw2556337796464863088 := ()
def PySem.W.Fast.tw2302572597594583544 := ()
def PySem.W.Fast.tw2445467515315014218 := ()
def PySem.W.Fast.tw1815041385838467061 := ()
def PySem.W.Fast.tw11915344600239295810 := ()
def PySem.W.Fast.tw3715907760086961726 := ()
def PySem.W.Fast.tw9131678482806476520 := ()
def PySem.W.Fast.tw16149472852998324000 := ()
def PySem.W.Fast.tw1378347116651064415 := ()
def PySem.W.Fast.tw6303277727240862762 := ()
def PySem.W.Fast.tw17048066095454856022 := ()
def PySem.W.Fast.tw13235976044861186010 := ()
def PySem.W.Fast.tw11017207555415407872 := ()
def PySem.W.Fast.tw8878240092037292665 := ()
def PySem.W.Fast.tw6994469632584283746 := ()
def PySem.W.Fast.tw7073578602659922292 := ()
def PySem.W.Fast.tw6543414371681327305 := ()
def PySem.W.Fast.tw5168815547715899009 := ()
def PySem.W.Fast.tw8828329129973910918 := ()
def PySem.W.Fast.tw7487253747290702224 := ()
def PySem.W.Fast.tw732028265641980959 := ()
def PySem.W.Fast.tw8735247189577869557 := ()
def PySem.W.Fast.tw7489500755697586007 := ()
def PySem.W.Fast.tw3508891460675245222 := ()
def PySem.W.Fast.tw14021446752482432076 := ()
def PySem.W.Fast.tw12053693627854163603 := ()
def PySem.W.Fast.tw8795304645294290567 := ()
def PySem.W.Fast.tw11995493711682306113 := ()
def PySem.W.Fast.tw16702227685879975669 := ()
def PySem.W.Fast.tw4556483696034284192 := ()
def PySem.W.Fast.tw849294607011762970 := ()
def PySem.W.Fast.tw10496999536441470809 := ()
def PySem.W.Fast.tw9669268534544744350 := ()
def PySem.W.Fast.tw17996832042678100655 := ()
def PySem.W.Fast.tw16970249387068981384 := ()
def PySem.W.Fast.tw11815050581243563459 := ()
def PySem.W.Fast.tw16175753929138381705 := ()
def PySem.W.Fast.tw3424462964131324645 := ()
def PySem.W.Fast.tw12851025710069257600 := ()
def PySem.W.Fast.tw6719236570311403370 := ()
def PySem.W.Fast.tw6979684700609245603 := ()
def PySem.W.Fast.tw9268239405127486282 := ()
def PySem.W.Fast.tw18180661851937651339 := ()
def PySem.W.Fast.tw15878657012407526115 := ()
def PySem.W.Fast.tw2118920622020526817 := ()
def PySem.W.Fast.tw7833420292802156787 := ()
def PySem.W.Fast.tw17522245828442428144 := ()
def PySem.W.Fast.tw10012869516354206731 := ()
def PySem.W.Fast.tw10930949061993912385 := ()
def PySem.W.Fast.tw9268497463633235658 := ()
def PySem.W.Fast.tw12934680030529131296 := ()
def PySem.W.Fast.tw10459478200364208110 := ()
def PySem.W.Fast.tw3760985265968622540 := ()
def PySem.W.Fast.tw13555758173567067571 := ()
def PySem.W.Fast.tw7084888307944695123 := ()
def PySem.W.Fast.tw13160065557172140768 := ()
def PySem.W.Fast.tw9690983781730140627 := ()
def PySem.W.Fast.tw12616203691502923165 := ()
def PySem.W.Fast.tw16844273224552912854 := ()
def PySem.W.Fast.tw14698564750238983884 := ()
def PySem.W.Fast.tw6576364739853641470 := ()
def PySem.W.Fast.tw5765436430353311448 := ()
def PySem.W.Fast.tw5867706434953752364 := ()
def PySem.W.Fast.tw5051867955388247164 := ()
def PySem.W.Fast.tw4161560260200031529 := ()
def PySem.W.Fast.tw9579622101662087621 := ()
def PySem.W.Fast.tw4549996170520657314 := ()
def PySem.W.Fast.tw10431915595475364632 := ()
def PySem.W.Fast.tw7241862997962626828 := ()
def PySem.W.Fast.tw12482668755631519788 := ()
def PySem.W.Fast.tw15095400454831091851 := ()
def PySem.W.Fast.tw18104069989968308488 := ()
def PySem.W.Fast.tw310513096082813918 := ()
def PySem.W.Fast.tw1469484092976945480 := ()
def PySem.W.Fast.tw1150192794581073898 := ()
def PySem.W.Fast.tw5109793901497863921 := ()
def PySem.W.Fast.tw18316393279433373451 := ()
def PySem.W.Fast.tw17941476394477499250 := ()
def PySem.W.Fast.tw10743263919108314154 := ()
def PySem.W.Fast.tw12510295214134317176 := ()
def PySem.W.Fast.tw5807062718638476984 := ()
def PySem.W.Fast.tw1211357556033133330 := ()
def PySem.W.Fast.tw4902190544346529927 := ()
def PySem.W.Fast.tw11207661736037826659 := ()
def PySem.W.Fast.tw15601628529091069159 := ()
def PySem.W.Fast.tw5188475418428940778 := ()
def PySem.W.Fast.tw7253764806454409200 := ()
def PySem.W.Fast.tw10618420219147729548 := ()
def PySem.W.Fast.tw13319555891552512098 := ()
def PySem.W.Fast.tw5988289219681377044 := ()
def PySem.W.Fast.tw13507432204531939499 := ()
def PySem.W.Fast.tw15458068964832113485 := ()
def PySem.W.Fast.tw13331758382847827702 := ()
def PySem.W.Fast.tw12772536850101202533 := ()
def PySem.W.Fast.tw17355164439492534147 := ()
def PySem.W.Fast.tw11131611125953880984 := ()
def PySem.W.Fast.tw2412326422044056706 := ()
def PySem.W.Fast.tw9650756962200354978 := ()
def PySem.W.Fast.tw2648998437720371079 := ()
def PySem.W.Fast.tw10247031649832791162 := ()
def PySem.W.Fast.tw17571115086244381629 := ()
def PySem.W.Fast.tw11008148332780146414 := ()
def PySem.W.Fast.tw18128369579040842955 := ()
def PySem.W.Fast.tw3175904483961504105 := ()
def PySem.W.Fast.tw2603039967058688217 := ()
def PySem.W.Fast.tw12274815569996164466 := ()
def PySem.W.Fast.tw14449745884809615656 := ()
def PySem.W.Fast.tw6956158774499151846 := ()
def PySem.W.Fast.tw17300332003547770440 := ()
def PySem.W.Fast.tw6235047406292988708 := ()
def PySem.W.Fast.tw501604969936440314 := ()
def PySem.W.Fast.tw3316390325708875568 := ()
def PySem.W.Fast.tw4198498628741701820 := ()
def PySem.W.Fast.tw10600903287813787976 := ()
def PySem.W.Fast.tw3672578245594548345 := ()
def PySem.W.Fast.tw17051482202974104421 := ()
def PySem.W.Fast.tw9674294124150857505 := ()
def PySem.W.Fast.tw6370900182220047921 := ()
def PySem.W.Fast.tw18241436986330790872 := ()
def PySem.W.Fast.tw18415270287449446253 := ()
def PySem.W.Fast.tw14760470222215870657 := ()
def PySem.W.Fast.tw5210463820606762689 := ()
def PySem.W.Fast.tw11566396581926127966 := ()
def PySem.W.Fast.tw13806048211534960064 := ()
def PySem.W.Fast.tw5034740975312766057 := ()
def PySem.W.Fast.tw8773948464181342297 := ()
def PySem.W.Fast.tw17790231327428645179 := ()
def PySem.W.Fast.tw15337726881293514085 := ()
def PySem.W.Fast.tw17288864498752052042 := ()
def PySem.W.Fast.tw14000222064885361490 := ()
def PySem.W.Fast.tw11188574944579735761 := ()
def PySem.W.Fast.tw7522982911894605654 := ()
def PySem.W.Fast.tw17305198683247341496 := ()
def PySem.W.Fast.tw4584017931234039404 := ()
def PySem.W.Fast.tw6395203846930553908 := ()
def PySem.W.Fast.tw7179254640919575162 := ()
def PySem.W.Fast.tw12768599864454560378 := ()
def PySem.W.Fast.tw11162300272822290949 := ()
def PySem.W.Fast.tw10675035740425560175 := ()
def PySem.W.Fast.tw3551482731732727315 := ()
def PySem.W.Fast.tw14255964554370906790 := ()
def PySem.W.Fast.tw15011667366488203487 := ()
def PySem.W.Fast.tw13790060811578841266 := ()
def PySem.W.Fast.tw6454688196292224101 := ()
def PySem.W.Fast.tw11391658330436020034 := ()
def PySem.W.Fast.tw2949485299711363230 := ()
def PySem.W.Fast.tw729255554206048497 := ()
def PySem.W.Fast.tw12789578608199963695 := ()
def PySem.W.Fast.tw2047948642059073520 := ()
def PySem.W.Fast.tw503074511572816724 := ()
def PySem.W.Fast.tw16482845837627479648 := ()
def PySem.W.Fast.tw17698501643842518594 := ()
def PySem.W.Fast.tw13382518387276548466 := ()
def PySem.W.Fast.tw4376271992550974970 := ()
def PySem.W.Fast.tw9551402111141984618 := ()
def PySem.W.Fast.tw16069187429712728575 := ()
def PySem.W.Fast.tw12970718783122400386 := ()
def PySem.W.Fast.tw15711813589647607285 := ()
def PySem.W.Fast.tw7324960336122239552 := ()
def PySem.W.Fast.tw1312457781467275785 := ()
def PySem.W.Fast.tw5800267673094081151 := ()
def PySem.W.Fast.tw10810500818206303012 := ()
def PySem.W.Fast.tw11413207063995819527 := ()
def PySem.W.Fast.tw18071811788926040766 := ()
def PySem.W.Fast.tw17422311861115877168 := ()
def PySem.W.Fast.tw16421481782707650947 := ()
def PySem.W.Fast.tw1111601644685574001 := ()
def PySem.W.Fast.tw15122863764459312581 := ()
def PySem.W.Fast.tw8555553973690866166 := ()
def PySem.W.Fast.tw2223700556837417201 := ()
def PySem.W.Fast.tw1495888392998380052 := ()
def PySem.W.Fast.tw4514984942914440937 := ()
def PySem.W.Fast.tw12278704682027616998 := ()
def PySem.W.Fast.tw15744753200216137199 := ()
def PySem.W.Fast.tw6549232027373125155 := ()
def PySem.W.Fast.tw6152652592557603691 := ()
def PySem.W.Fast.tw5349530705251579228 := ()
def PySem.W.Fast.tw3632980159345496469 := ()
def PySem.W.Fast.tw8963053156131876959 := ()
def PySem.W.Fast.tw18322842879951437980 := ()
def PySem.W.Fast.tw10018246909812962348 := ()
def PySem.W.Fast.tw12231775395260800296 := ()
def PySem.W.Fast.tw379689346677325492 := ()
def PySem.W.Fast.tw1838952323158511758 := ()
def PySem.W.Fast.tw5902949087593562233 := ()
def PySem.W.Fast.tw9589234298569742941 := ()
def PySem.W.Fast.tw11798068910347421148 := ()
def PySem.W.Fast.tw8647799260123477065 := ()
def PySem.W.Fast.tw11508552187805177144 := ()
def PySem.W.Fast.tw17799013059941286575 := ()
def PySem.W.Fast.tw390180825708848856 := ()
def PySem.W.Fast.tw11853984350479423928 := ()
def PySem.W.Fast.tw13233736247635303534 := ()
def PySem.W.Fast.tw1829225716608196109 := ()
def PySem.W.Fast.tw8578790697251921141 := ()
def PySem.W.Fast.tw9233418443867573704 := ()
def PySem.W.Fast.tw12821186136027375222 := ()
def PySem.W.Fast.tw5792593037283035163 := ()
def PySem.W.Fast.tw10958129942375838317 := ()
def PySem.W.Fast.tw15591921061765428287 := ()
def PySem.W.Fast.tw6463156701140080448 := ()
def PySem.W.Fast.tw11317130966974856441 := ()
def PySem.W.Fast.tw2236432486210008549 := ()
def PySem.W.Fast.tw6007002940743231686 := ()
def PySem.W.Fast.tw11593718112300788975 := ()
def PySem.W.Fast.tw10815026549487835726 := ()
def PySem.W.Fast.tw6408738402589585782 := ()
def PySem.W.Fast.tw11834471529948597622 := ()
def PySem.W.Fast.tw13591012442166091675 := ()
def PySem.W.Fast.tw10280833792676871187 := ()
def PySem.W.Fast.tw6851811075489232983 := ()
def PySem.W.Fast.tw4338363615880868888 := ()
def PySem.W.Fast.tw11649913381558629191 := ()
def PySem.W.Fast.tw12953492975647133547 := ()
def PySem.W.Fast.tw3478699686020873069 := ()
def PySem.W.Fast.tw14428450451227614636 := ()
def PySem.W.Fast.tw13800014779364300506 := ()
def PySem.W.Fast.tw9147367336157060691 := ()
def PySem.W.Fast.tw7276866316039811780 := ()
def PySem.W.Fast.tw272028947041006134 := ()
def PySem.W.Fast.tw15946691616049603394 := ()
def PySem.W.Fast.tw17484026358344119512 := ()
def PySem.W.Fast.tw5148199212048566777 := ()
def PySem.W.Fast.tw7972979667138765697 := ()
def PySem.W.Fast.tw14621420155408415337 := ()
def PySem.W.Fast.tw4144165515702825327 := ()
def PySem.W.Fast.tw9099680770578807107 := ()
def PySem.W.Fast.tw4072898863057859283 := ()
def PySem.W.Fast.tw7775290366092026498 := ()
def PySem.W.Fast.tw6795034832226847182 := ()
def PySem.W.Fast.tw3355972030751424224 := ()
def PySem.W.Fast.tw906453268018168980 := ()
def PySem.W.Fast.tw16636986962423583557 := ()
def PySem.W.Fast.tw10883193002119367864 := ()
def PySem.W.Fast.tw9078144650812886414 := ()
def PySem.W.Fast.tw1452110048747102502 := ()
def PySem.W.Fast.tw1018693375193488452 := ()
def PySem.W.Fast.tw12676122062036909792 := ()
def PySem.W.Fast.tw15590250304704578064 := ()
def PySem.W.Fast.tw16204160756932770749 := ()
def PySem.W.Fast.tw2530403350931068820 := ()
def PySem.W.Fast.tw12870677901206838507 := ()
def PySem.W.Fast.tw6252273912266868505 := ()
def PySem.W.Fast.tw15051426589392885396 := ()
def PySem.W.Fast.tw2485564547600515334 := ()
def PySem.W.Fast.tw16516570487342172623 := ()
def PySem.W.Fast.tw17780995385703297261 := ()
def PySem.W.Fast.tw14791604797202909990 := ()
def PySem.W.Fast.tw10429431939833133692 := ()
def PySem.W.Fast.tw6173728635597360079 := ()
def PySem.W.Fast.tw8373391019712902271 := ()
def PySem.W.Fast.tw11296138850560043769 := ()
def PySem.W.Fast.tw1718601661862868565 := ()
def PySem.W.Fast.tw11525564462831199611 := ()
def PySem.W.Fast.tw12725398615841621597 := ()
def PySem.W.Fast.tw7070240871881995789 := ()
def PySem.W.Fast.tw6275086480529019261 := ()
def PySem.W.Fast.tw1739305213697592497 := ()
def PySem.W.Fast.tw11818110951093155413 := ()
def PySem.W.Fast.tw13600260182011729619 := ()
def PySem.W.Fast.tw2702429597595630466 := ()
def PySem.W.Fast.tw5943812453151622933 := ()
def PySem.W.Fast.tw16590456291657789539 := ()
def PySem.W.Fast.tw16177364255105500676 := ()
def PySem.W.Fast.tw14977108957181165391 := ()
def PySem.W.Fast.tw12488748375874003383 := ()
def PySem.W.Fast.tw7624323876157100743 := ()
def PySem.W.Fast.tw11631348735812401907 := ()
def PySem.W.Fast.tw3359606821888141588 := ()
def PySem.W.Fast.tw11185624476701922502 := ()
def PySem.W.Fast.tw10725895509291589396 := ()
def PySem.W.Fast.tw11407109325438680224 := ()
def PySem.W.Fast.tw3380700610951298910 := ()
def PySem.W.Fast.tw1151682108047704983 := ()
def PySem.W.Fast.tw3192514020266861881 := ()
def PySem.W.Fast.tw1142766278858401549 := ()
def PySem.W.Fast.tw8584496516171454190 := ()
def PySem.W.Fast.tw37013866826763105 := ()
def PySem.W.Fast.tw10506385685212661455 := ()
def PySem.W.Fast.tw11430372187813775600 := ()
def PySem.W.Fast.tw17239423286380500488 := ()
def PySem.W.Fast.tw11676200702003522992 := ()
def PySem.W.Fast.tw4287722971736135679 := ()
def PySem.W.Fast.tw12756941238269337497 := ()
def PySem.W.Fast.tw13947860160221772998 := ()
def PySem.W.Fast.tw2607316261178753713 := ()
def PySem.W.Fast.tw2545307150922459335 := ()
def PySem.W.Fast.tw12681892445118156534 := ()
def PySem.W.Fast.tw12972018326946049833 := ()
def PySem.W.Fast.tw16523428998268925215 := ()
def PySem.W.Fast.tw10541552321009355724 := ()
def PySem.W.Fast.tw4387486738481933916 := ()
def PySem.W.Fast.tw14740563494620827058 := ()
def PySem.W.Fast.tw871211396500179909 := ()
def PySem.W.Fast.tw16618855339197778439 := ()
def PySem.W.Fast.tw14316394416680400332 := ()
def PySem.W.Fast.tw8274583578858043335 := ()
def PySem.W.Fast.tw9229862400873613370 := ()
def PySem.W.Fast.tw11521402631832516872 := ()
def PySem.W.Fast.tw11136343135096982308 := ()
def PySem.W.Fast.tw10183590544349444732 := ()
def PySem.W.Fast.tw17084481778249773286 := ()
def PySem.W.Fast.tw9272975768224322779 := ()
def PySem.W.Fast.tw6491693898367419149 := ()
def PySem.W.Fast.tw13872123645138972485 := ()
def PySem.W.Fast.tw15607086813878805693 := ()
def PySem.W.Fast.tw12414207293060139578 := ()
def PySem.W.Fast.tw7463386646443346175 := ()
def PySem.W.Fast.tw13338114275780604150 := ()
def PySem.W.Fast.tw8858168502976139087 := ()
def PySem.W.Fast.tw10943010043027605100 := ()
def PySem.W.Fast.tw5474686437248732405 := ()
def PySem.W.Fast.tw5928639628758251532 := ()
def PySem.W.Fast.tw4744360136407850262 := ()
def PySem.W.Fast.tw3992366889032374006 := ()
def PySem.W.Fast.tw10457680094240297515 := ()
def PySem.W.Fast.tw16904924239537994717 := ()
def PySem.W.Fast.tw17740224254643052889 := ()
def PySem.W.Fast.tw18233845284758767071 := ()
def PySem.W.Fast.tw3967079222949151290 := ()
def PySem.W.Fast.tw7830882083787087063 := ()
def PySem.W.Fast.tw18342764373677121189 := ()
def PySem.W.Fast.tw4716938921026505054 := ()
def PySem.W.Fast.tw10563231359017033224 := ()
def PySem.W.Fast.tw15053202193238525897 := ()
def PySem.W.Fast.tw5404485145536718555 := ()
def PySem.W.Fast.tw11347537320560332635 := ()
def PySem.W.Fast.tw467574368578759870 := ()
def PySem.W.Fast.tw3483583996042214293 := ()
def PySem.W.Fast.tw8792024266991595443 := ()
def PySem.W.Fast.tw362955713806318347 := ()
def PySem.W.Fast.tw12282205171825101125 := ()
def PySem.W.Fast.tw15256173150312094878 := ()
def PySem.W.Fast.tw1312531878442205901 := ()
def PySem.W.Fast.tw8265985884263637903 := ()
def PySem.W.Fast.tw13778989385557450237 := ()
def PySem.W.Fast.tw9100736823090168784 := ()
def PySem.W.Fast.tw12402014086711972583 := ()
def PySem.W.Fast.tw15352512967286881185 := ()
def PySem.W.Fast.tw11789108376043330981 := ()
def PySem.W.Fast.tw16825728343927581405 := ()
def PySem.W.Fast.tw7815828452800904001 := ()
def PySem.W.Fast.tw7495143204641126044 := ()
def PySem.W.Fast.tw9515072074259647936 := ()
def PySem.W.Fast.tw3461917787057409330 := ()
def PySem.W.Fast.tw9855941453378855804 := ()
def PySem.W.Fast.tw6112413006040257810 := ()
def PySem.W.Fast.tw18160264036042689466 := ()
def PySem.W.Fast.tw3028225487193125488 := ()
def PySem.W.Fast.tw9874605266408574772 := ()
def PySem.W.Fast.tw8553474807583297347 := ()
def PySem.W.Fast.tw13270974246027067834 := ()
def PySem.W.Fast.tw14356842927569302288 := ()
def PySem.W.Fast.tw18350276005697048021 := ()
def PySem.W.Fast.tw6809319782905221025 := ()
def PySem.W.Fast.tw16064598336417698943 := ()
def PySem.W.Fast.tw8534432779172859869 := ()
def PySem.W.Fast.tw1809225674778522276 := ()
def PySem.W.Fast.tw6578891104456677369 := ()
def PySem.W.Fast.tw35020514669662300 := ()
def PySem.W.Fast.tw7857615248085523332 := ()
def PySem.W.Fast.tw16418293708197220201 := ()
def PySem.W.Fast.tw13798527441078834499 := ()
def PySem.W.Fast.tw7334719573850402226 := ()
def PySem.W.Fast.tw1464728474737302213 := ()
def PySem.W.Fast.tw6520809542557422600 := ()
def PySem.W.Fast.tw13810117844158190476 := ()
def PySem.W.Fast.tw11889577250628491906 := ()
def PySem.W.Fast.tw2299496106756045259 := ()
def PySem.W.Fast.tw5879451871351574922 := ()
def PySem.W.Fast.tw8711939823644474640 := ()
def PySem.W.Fast.tw3639617371675743298 := ()
def PySem.W.Fast.tw7420719685166699367 := ()
def PySem.W.Fast.tw1170972624490591798 := ()
def PySem.W.Fast.tw4991630834267794281 := ()
def PySem.W.Fast.tw14565299163691374277 := ()
def PySem.W.Fast.tw14571021165823290449 := ()
def PySem.W.Fast.tw10465548048677638093 := ()
def PySem.W.Fast.tw5547767024197485874 := ()
def PySem.W.Fast.tw4736583460295057195 := ()
def PySem.W.Fast.tw2621557467240017287 := ()
def PySem.W.Fast.tw11063379012629193765 := ()
def PySem.W.Fast.tw11595442913519385759 := ()
def PySem.W.Fast.tw12547142942939740028 := ()
def PySem.W.Fast.tw15222754955073855167 := ()
def PySem.W.Fast.tw16938055967974885545 := ()
def PySem.W.Fast.tw11844779793441168480 := ()
def PySem.W.Fast.tw12353687104991889114 := ()
def PySem.W.Fast.tw5484612381219790666 := ()
def PySem.W.Fast.tw9117107276383556306 := ()
def PySem.W.Fast.tw5904303386158601717 := ()
def PySem.W.Fast.tw14276904327800605674 := ()
def PySem.W.Fast.tw9579517389211876451 := ()
def PySem.W.Fast.tw15120876039594030621 := ()
def PySem.W.Fast.tw13419948299933739191 := ()
def PySem.W.Fast.tw13468719937005384131 := ()
def PySem.W.Fast.tw812124663159796027 := ()
def PySem.W.Fast.tw4151056767249312083 := ()
def PySem.W.Fast.tw18101822537249026282 := ()
def PySem.W.Fast.tw5518158852402874965 := ()
def PySem.W.Fast.tw4472109600171025060 := ()
def PySem.W.Fast.tw10241369607990555071 := ()
def PySem.W.Fast.tw8022299385610249068 := ()
def PySem.W.Fast.tw2552299213189433843 := ()
def PySem.W.Fast.tw4183307728107894544 := ()
def PySem.W.Fast.tw13848539916595382416 := ()
def PySem.W.Fast.tw2278666090686417126 := ()
def PySem.W.Fast.tw9382851016191222780 := ()
def PySem.W.Fast.tw11727651059002320765 := ()
def PySem.W.Fast.tw16483647477576204381 := ()
def PySem.W.Fast.tw16526014548829078663 := ()
def PySem.W.Fast.tw1750367977144348933 := ()
def PySem.W.Fast.tw14557507877724414259 := ()
def PySem.W.Fast.tw7976549703812056471 := ()
def PySem.W.Fast.tw1949941558374275127 := ()
def PySem.W.Fast.tw6751391723497008935 := ()
def PySem.W.Fast.tw16945114241766335893 := ()
def PySem.W.Fast.tw3373535940417460252 := ()
def PySem.W.Fast.tw9167314877407986917 := ()
def PySem.W.Fast.tw3300194919841403907 := ()
def PySem.W.Fast.tw13263653985430969314 := ()
def PySem.W.Fast.tw4581314789250602698 := ()
def PySem.W.Fast.tw17081033481233615827 := ()
def PySem.W.Fast.tw5997456040026801515 := ()
def PySem.W.Fast.tw5228683315135710032 := ()
def PySem.W.Fast.tw13803140495217998983 := ()
def PySem.W.Fast.tw12777795249252110064 := ()
def PySem.W.Fast.tw11500802240373771237 := ()
def PySem.W.Fast.tw17047318477243927295 := ()
def PySem.W.Fast.tw16658745071838555539 := ()
def PySem.W.Fast.tw10789769480474866259 := ()
def PySem.W.Fast.tw17438834628601228316 := ()
def PySem.W.Fast.tw13074800006013827117 := ()
def PySem.W.Fast.tw10735243325681133104 := ()
def PySem.W.Fast.tw12394727755845629259 := ()
def PySem.W.Fast.tw10782586913521079378 := ()
def PySem.W.Fast.tw16309511863066783997 := ()
def PySem.W.Fast.tw17073606445789985568 := ()
def PySem.W.Fast.tw5713357202758331556 := ()
def PySem.W.Fast.tw9320552738831107021 := ()
def PySem.W.Fast.tw14255894362173207864 := ()
def PySem.W.Fast.tw16325416364494509609 := ()
def PySem.W.Fast.tw1997617990820444716 := ()
def PySem.W.Fast.tw5922164123823767931 := ()
def PySem.W.Fast.tw14472540168023449784 := ()
def PySem.W.Fast.tw7534603330060997559 := ()
def PySem.W.Fast.tw14372743268882282506 := ()
def PySem.W.Fast.tw9879323227405791132 := ()
def PySem.W.Fast.tw1457489611742068109 := ()
def PySem.W.Fast.tw11125559810274628485 := ()
def PySem.W.Fast.tw7182584067764120035 := ()
def PySem.W.Fast.tw14606214618086480182 := ()
def PySem.W.Fast.tw9555441450462624759 := ()
def PySem.W.Fast.tw10501681266105413057 := ()
def PySem.W.Fast.tw1274871392229057640 := ()
def PySem.W.Fast.tw14197347780077345404 := ()
def PySem.W.Fast.tw16341407054257540214 := ()
def PySem.W.Fast.tw1852386106648398899 := ()
def PySem.W.Fast.tw3704809744304678603 := ()
def PySem.W.Fast.tw5083291828192301576 := ()
def PySem.W.Fast.tw2926414766014711647 := ()
def PySem.W.Fast.tw298175149923200116 := ()
def PySem.W.Fast.tw918730939017751947 := ()
def PySem.W.Fast.tw17760283933080843492 := ()
def PySem.W.Fast.tw10270922622075964634 := ()
def PySem.W.Fast.tw2260512710875814773 := ()
def PySem.W.Fast.tw10127120915642606953 := ()
def PySem.W.Fast.tw8976346170173645452 := ()
def PySem.W.Fast.tw8278764196667655957 := ()
def PySem.W.Fast.tw13768018039701943414 := ()
def PySem.W.Fast.tw17126111581672817012 := ()
def PySem.W.Fast.tw4607206418563834262 := ()
def PySem.W.Fast.tw6887419624431476050 := ()
def PySem.W.Fast.tw10512150185432605804 := ()
def PySem.W.Fast.tw8797766090802424726 := ()
def PySem.W.Fast.tw18066542887178658252 := ()
def PySem.W.Fast.tw16283036166821468222 := ()
def PySem.W.Fast.tw5420442791707775047 := ()
def PySem.W.Fast.tw11460303111541370748 := ()
def PySem.W.Fast.tw1299541662453153255 := ()
def PySem.W.Fast.tw7909353054798615955 := ()
def PySem.W.Fast.tw16027842849307329746 := ()
def PySem.W.Fast.tw9156460828872512356 := ()
def PySem.W.Fast.tw5273299411308603690 := ()
def PySem.W.Fast.tw17564182749149434073 := ()
def PySem.W.Fast.tw4695524366712147137 := ()
def PySem.W.Fast.tw5301666522550487855 := ()
def PySem.W.Fast.tw7158512384076892944 := ()
def PySem.W.Fast.tw15295858125896323134 := ()
def PySem.W.Fast.tw1165401818094764703 := ()
def PySem.W.Fast.tw5559241300624162206 := ()
def PySem.W.Fast.tw12218804989179386792 := ()
def PySem.W.Fast.tw12219315231122764994 := ()
def PySem.W.Fast.tw10696314972170756724 := ()
def PySem.W.Fast.tw3619291760727707100 := ()
def PySem.W.Fast.tw7496517915804169417 := ()
def PySem.W.Fast.tw2082991526180642125 := ()
def PySem.W.Fast.tw2640709646527865730 := ()
def PySem.W.Fast.tw9577778090223579125 := ()
def PySem.W.Fast.tw12053422398875158035 := ()
def PySem.W.Fast.tw13064604914222440025 := ()
def PySem.W.Fast.tw4786278797832415631 := ()
def PySem.W.Fast.tw11142219555492955221 := ()
def PySem.W.Fast.tw5226095388745813135 := ()
def PySem.W.Fast.tw17183461686072343728 := ()
def PySem.W.Fast.tw751969444356453812 := ()
def PySem.W.Fast.tw12750230713489820970 := ()
def PySem.W.Fast.tw5970718205512153327 := ()
def PySem.W.Fast.tw901962076869989392 := ()
def PySem.W.Fast.tw6275667211063335234 := ()
def PySem.W.Fast.tw17286131101271390380 := ()
def PySem.W.Fast.tw16389212950646771528 := ()
def PySem.W.Fast.tw5538326053553652555 := ()
def PySem.W.Fast.tw14960194217208126845 := ()
def PySem.W.Fast.tw16284646050395642109 := ()
def PySem.W.Fast.tw5939363915924137897 := ()
def PySem.W.Fast.tw13110339456409585083 := ()
def PySem.W.Fast.tw8883358939761689853 := ()
def PySem.W.Fast.tw9239306202124269482 := ()
def PySem.W.Fast.tw9313684523568146748 := ()
def PySem.W.Fast.tw18443906642544888663 := ()
def PySem.W.Fast.tw7583642979346915964 := ()
def PySem.W.Fast.tw7609293651463912074 := ()
def PySem.W.Fast.tw2885713479800921107 := ()
def PySem.W.Fast.tw15940974935454398695 := ()
def PySem.W.Fast.tw2332535266623603761 := ()
def PySem.W.Fast.tw10831968145513014520 := ()
def PySem.W.Fast.tw16755494131269409929 := ()
def PySem.W.Fast.tw12833591421922774688 := ()
def PySem.W.Fast.tw5745753344676307903 := ()
def PySem.W.Fast.tw9105194385796841699 := ()
def PySem.W.Fast.tw2148961640161849241 := ()
def PySem.W.Fast.tw1173534605775333212 := ()
def PySem.W.Fast.tw10543266030022410854 := ()
def PySem.W.Fast.tw14362402705475882075 := ()
def PySem.W.Fast.tw1512910478189198489 := ()
def PySem.W.Fast.tw7526321911647530234 := ()
def PySem.W.Fast.tw18419905638592009250 := ()
def PySem.W.Fast.tw14939659249087163386 := ()
def PySem.W.Fast.tw2088090391528871863 := ()
def PySem.W.Fast.tw5686993065987684734 := ()
def PySem.W.Fast.tw7151432671220126062 := ()
def PySem.W.Fast.tw17332690343302511814 := ()
def PySem.W.Fast.tw950287069365762760 := ()
def PySem.W.Fast.tw1364943199265164272 := ()
def PySem.W.Fast.tw17577078798691244329 := ()
def PySem.W.Fast.tw5908746203025561332 := ()
def PySem.W.Fast.tw726964916189562297 := ()
def PySem.W.Fast.tw10212261835368815174 := ()
def PySem.W.Fast.tw2028022827018074167 := ()
def PySem.W.Fast.tw7456961048756169057 := ()
def PySem.W.Fast.tw331570235746170167 := ()
def PySem.W.Fast.tw10907802896909020488 := ()
def PySem.W.Fast.tw14225586094812719928 := ()
def PySem.W.Fast.tw14696913510156048971 := ()
def PySem.W.Fast.tw16598440409599745358 := ()
def PySem.W.Fast.tw7079819954828626643 := ()
def PySem.W.Fast.tw9057166976300984577 := ()
def PySem.W.Fast.tw1438588539182626380 := ()
def PySem.W.Fast.tw420062565206433244 := ()
def PySem.W.Fast.tw15474535134615961884 := ()
def PySem.W.Fast.tw15581235559554958424 := ()
def PySem.W.Fast.tw3222299380618352650 := ()
def PySem.W.Fast.tw152736208032689704 := ()
def PySem.W.Fast.tw9749005519235368775 := ()
def PySem.W.Fast.tw11330392627444647753 := ()
def PySem.W.Fast.tw8619755647303695185 := ()
def PySem.W.Fast.tw11064578431801811689 := ()
def PySem.W.Fast.tw1620207574338117672 := ()
def PySem.W.Fast.tw10405264898947433211 := ()
def PySem.W.Fast.tw1565353791794716530 := ()
def PySem.W.Fast.tw17888787551003521556 := ()
def PySem.W.Fast.tw18099689314698656303 := ()
def PySem.W.Fast.tw8159465435415984350 := ()
def PySem.W.Fast.tw9448082175847475084 := ()
def PySem.W.Fast.tw10575043697794606569 := ()
def PySem.W.Fast.tw2085956542775493270 := ()
def PySem.W.Fast.tw16023666795975280769 := ()
def PySem.W.Fast.tw16600332024563948354 := ()
def PySem.W.Fast.tw3023888140014890176 := ()
def PySem.W.Fast.tw10833298277128161039 := ()
def PySem.W.Fast.tw9573386158362475997 := ()
def PySem.W.Fast.tw3462960453084664361 := ()
def PySem.W.Fast.tw4438437601577254800 := ()
def PySem.W.Fast.tw4382715125275885990 := ()
def PySem.W.Fast.tw9761925228468048087 := ()
def PySem.W.Fast.tw3734388645985872395 := ()
def PySem.W.Fast.tw9043698465475765079 := ()
def PySem.W.Fast.tw8664794334026510380 := ()
def PySem.W.Fast.tw3002508645334345246 := ()
def PySem.W.Fast.tw5538551978135842505 := ()
def PySem.W.Fast.tw9306911933187981047 := ()
def PySem.W.Fast.tw10237431241374908087 := ()
def PySem.W.Fast.tw9207433677045642993 := ()
def PySem.W.Fast.tw9048503874688329964 := ()
def PySem.W.Fast.tw17865186032101828701 := ()
def PySem.W.Fast.tw7078027655670858346 := ()
def PySem.W.Fast.tw8857349766231142523 := ()
def PySem.W.Fast.tw12972328306130625018 := ()
def PySem.W.Fast.tw9329969525246956558 := ()
def PySem.W.Fast.tw1308879535330908029 := ()
def PySem.W.Fast.tw13106032331017620492 := ()
def PySem.W.Fast.tw16653838629328124844 := ()
def PySem.W.Fast.tw17124447518309338409 := ()
def PySem.W.Fast.tw17499593036308754104 := ()
def PySem.W.Fast.tw2952145213985488900 := ()
def PySem.W.Fast.tw16231421499174906264 := ()
def PySem.W.Fast.tw6089860744057479632 := ()
def PySem.W.Fast.tw16666742806641681277 := ()
def PySem.W.Fast.tw14405877740805930272 := ()
def PySem.W.Fast.tw8516170537937935112 := ()
def PySem.W.Fast.tw427398651241658374 := ()
def PySem.W.Fast.tw8638832051559776114 := ()
def PySem.W.Fast.tw8130641206150102662 := ()
def PySem.W.Fast.tw12423654180313514799 := ()
def PySem.W.Fast.tw14264932208114320331 := ()
def PySem.W.Fast.tw2048630833498521306 := ()
def PySem.W.Fast.tw17079631845320044141 := ()
def PySem.W.Fast.tw1905620458145464837 := ()
def PySem.W.Fast.tw6711057365112407484 := ()
def PySem.W.Fast.tw5395879334016622298 := ()
def PySem.W.Fast.tw17653154705344621220 := ()
def PySem.W.Fast.tw9543997429276477258 := ()
def PySem.W.Fast.tw3927535040009969523 := ()
def PySem.W.Fast.tw5329507475455570502 := ()
def PySem.W.Fast.tw13284420689595424142 := ()
def PySem.W.Fast.tw10691884669241013581 := ()
def PySem.W.Fast.tw680711951365947136 := ()
def PySem.W.Fast.tw5378106895113902785 := ()
def PySem.W.Fast.tw8477229540863290473 := ()
def PySem.W.Fast.tw3194932050634877426 := ()
def PySem.W.Fast.tw11664436603790171155 := ()
def PySem.W.Fast.tw12657469412184969039 := ()
def PySem.W.Fast.tw11158716604549208262 := ()
def PySem.W.Fast.tw17325516624435029562 := ()
def PySem.W.Fast.tw1831853943808840957 := ()
def PySem.W.Fast.tw7811555558854122824 := ()
def PySem.W.Fast.tw113570186023195550 := ()
def PySem.W.Fast.tw10118711082098139838 := ()
def PySem.W.Fast.tw8510359356456352776 := ()
def PySem.W.Fast.tw17976964007568242225 := ()
def PySem.W.Fast.tw1653722557987740453 := ()
def PySem.W.Fast.tw12465648913426753231 := ()
def PySem.W.Fast.tw6883797644121027799 := ()
def PySem.W.Fast.tw16832157520899212642 := ()
def PySem.W.Fast.tw3982070140426690343 := ()
def PySem.W.Fast.tw17520975416118159054 := ()
def PySem.W.Fast.tw17297454096605041812 := ()
def PySem.W.Fast.tw14119991830548347855 := ()
def PySem.W.Fast.tw1282255516032140719 := ()
def PySem.W.Fast.tw11645724639033017461 := ()
def PySem.W.Fast.tw14397044344935237485 := ()
def PySem.W.Fast.tw12383810918584342342 := ()
def PySem.W.Fast.tw3725963450889926218 := ()
def PySem.W.Fast.tw13940298608622868723 := ()
def PySem.W.Fast.tw12862223490894608195 := ()
def PySem.W.Fast.tw12885866920867631688 := ()
def PySem.W.Fast.tw4250705682722502919 := ()
def PySem.W.Fast.tw10021713556835439825 := ()
def PySem.W.Fast.tw2536555002509733111 := ()
def PySem.W.Fast.tw16488809729083463613 := ()
def PySem.W.Fast.tw6392474679377871682 := ()
def PySem.W.Fast.tw5451598732493058680 := ()
def PySem.W.Fast.tw15410027206906723424 := ()
def PySem.W.Fast.tw17979902357580814228 := ()
def PySem.W.Fast.tw10118866287057263521 := ()
def PySem.W.Fast.tw94168203087577364 := ()
def PySem.W.Fast.tw10845213643502487351 := ()
def PySem.W.Fast.tw14574264725762152065 := ()
def PySem.W.Fast.tw15713901876494170943 := ()
def PySem.W.Fast.tw16796362052357586188 := ()
def PySem.W.Fast.tw3072513992370291358 := ()
def PySem.W.Fast.tw5889206208462919305 := ()
def PySem.W.Fast.tw6833947339868823142 := ()
def PySem.W.Fast.tw3691468660592115739 := ()
def PySem.W.Fast.tw15701308330276696810 := ()
def PySem.W.Fast.tw8301793901270493639 := ()
def PySem.W.Fast.tw2279102995916236954 := ()
def PySem.W.Fast.tw9677506033995708591 := ()
def PySem.W.Fast.tw4477932996895722071 := ()
def PySem.W.Fast.tw17484018775503028818 := ()
def PySem.W.Fast.tw13053665202429018599 := ()
def PySem.W.Fast.tw1226570381778504280 := ()
def PySem.W.Fast.tw13473321962047379954 := ()
def PySem.W.Fast.tw1228330184738504958 := ()
def PySem.W.Fast.tw11182480677236924354 := ()
def PySem.W.Fast.tw16250976327626356045 := ()
def PySem.W.Fast.tw10361319419070707785 := ()
def PySem.W.Fast.tw4275329381372402344 := ()
def PySem.W.Fast.tw6765288731687496769 := ()
def PySem.W.Fast.tw3274623941110525332 := ()
def PySem.W.Fast.tw14978609851654872774 := ()
def PySem.W.Fast.tw3390668431343717039 := ()
def PySem.W.Fast.tw16343796494019633326 := ()
def PySem.W.Fast.tw14620001342099475080 := ()
def PySem.W.Fast.tw10885709317221283503 := ()
def PySem.W.Fast.tw12565612548475385297 := ()
def PySem.W.Fast.tw5934781053941839166 := ()
def PySem.W.Fast.tw13675182272376353439 := ()
def PySem.W.Fast.tw1156328381745811079 := ()
def PySem.W.Fast.tw16814338428249827920 := ()
def PySem.W.Fast.tw2336287547569294665 := ()
def PySem.W.Fast.tw2077858419057120895 := ()
def PySem.W.Fast.tw1332439571016343469 := ()
def PySem.W.Fast.tw5191592750477126546 := ()
def PySem.W.Fast.tw14115766764627047142 := ()
def PySem.W.Fast.tw16904699859720438001 := ()
def PySem.W.Fast.tw11206011519545512883 := ()
def PySem.W.Fast.tw1291214052832758774 := ()
def PySem.W.Fast.tw6746682925378096792 := ()
def PySem.W.Fast.tw15290515850613143717 := ()
def PySem.W.Fast.tw14171297509683829180 := ()
def PySem.W.Fast.tw18443855916471383550 := ()
def PySem.W.Fast.tw17095881156013446638 := ()
def PySem.W.Fast.tw17390651963524842936 := ()
def PySem.W.Fast.tw5791472606636273046 := ()
def PySem.W.Fast.tw15459142740674848166 := ()
def PySem.W.Fast.tw14754166168446916078 := ()
def PySem.W.Fast.tw11309998012097303254 := ()
def PySem.W.Fast.tw7970141854236126810 := ()
def PySem.W.Fast.tw16271402772637886030 := ()
def PySem.W.Fast.tw15292530706429352451 := ()
def PySem.W.Fast.tw9519497753582906468 := ()
def PySem.W.Fast.tw1504420839557380841 := ()
def PySem.W.Fast.tw9919600464469455680 := ()
def PySem.W.Fast.tw13977765953417359215 := ()
def PySem.W.Fast.tw1588252545836724965 := ()
def PySem.W.Fast.tw15602173713189804904 := ()
def PySem.W.Fast.tw1134049788094008084 := ()
def PySem.W.Fast.tw14238178646123861277 := ()
def PySem.W.Fast.tw8683919047664456651 := ()
def PySem.W.Fast.tw12423010623109646067 := ()
def PySem.W.Fast.tw11797122927894253876 := ()
def PySem.W.Fast.tw100761615675375724 := ()
def PySem.W.Fast.tw17315536437972691340 := ()
def PySem.W.Fast.tw16385311365567369384 := ()
def PySem.W.Fast.tw14986023325419971768 := ()
def PySem.W.Fast.tw7180332328897420815 := ()
def PySem.W.Fast.tw3154212928975681612 := ()
def PySem.W.Fast.tw11298385175402355198 := ()
def PySem.W.Fast.tw14575549104339418938 := ()
def PySem.W.Fast.tw14659967658122208418 := ()
def PySem.W.Fast.tw15998707590327566154 := ()
def PySem.W.Fast.tw6446967806427435772 := ()
def PySem.W.Fast.tw2036839296326108277 := ()
def PySem.W.Fast.tw8329357497241109626 := ()
def PySem.W.Fast.tw13455307432043699525 := ()
def PySem.W.Fast.tw10043693037207489308 := ()
def PySem.W.Fast.tw16896108065742761942 := ()
def PySem.W.Fast.tw10271952508230723165 := ()
def PySem.W.Fast.tw12770334079334925254 := ()
def PySem.W.Fast.tw12994125740582290959 := ()
def PySem.W.Fast.tw9007291209548135317 := ()
def PySem.W.Fast.tw10753342712654527281 := ()
def PySem.W.Fast.tw11130641384854629581 := ()
def PySem.W.Fast.tw16831987932536066218 := ()
def PySem.W.Fast.tw3059761005645391027 := ()
def PySem.W.Fast.tw10899275398078428086 := ()
def PySem.W.Fast.tw8704255400046280004 := ()
def PySem.W.Fast.tw10284721205145664535 := ()
def PySem.W.Fast.tw14027663366577485259 := ()
def PySem.W.Fast.tw16215633465615985609 := ()
def PySem.W.Fast.tw13837534081913729381 := ()
def PySem.W.Fast.tw7820416916430737749 := ()
def PySem.W.Fast.tw18034616398508962533 := ()
def PySem.W.Fast.tw6829681005478938468 := ()
def PySem.W.Fast.tw18362739897593654411 := ()
def PySem.W.Fast.tw16379313679886284948 := ()
def PySem.W.Fast.tw12766127959784194094 := ()
def PySem.W.Fast.tw14464277629816100953 := ()
def PySem.W.Fast.tw3042299630296368450 := ()
def PySem.W.Fast.tw16767783454221682765 := ()
def PySem.W.Fast.tw1674292391967867197 := ()
def PySem.W.Fast.tw13221971905366357730 := ()
def PySem.W.Fast.tw10125085263586512411 := ()
def PySem.W.Fast.tw12353705357879670263 := ()
def PySem.W.Fast.tw6195408965418039806 := ()
def PySem.W.Fast.tw7572368723533230944 := ()
def PySem.W.Fast.tw4654409017744959153 := ()
def PySem.W.Fast.tw17248757514311489546 := ()
def PySem.W.Fast.tw16302586058179639220 := ()
def PySem.W.Fast.tw7168294389114977722 := ()
def PySem.W.Fast.tw13132232222822842735 := ()
def PySem.W.Fast.tw16495948780949012304 := ()
def PySem.W.Fast.tw9031130898954870055 := ()
def PySem.W.Fast.tw8331373709077161126 := ()
def PySem.W.Fast.tw4675705857206633634 := ()
def PySem.W.Fast.tw632964542266711125 := ()
def PySem.W.Fast.tw8908973632767931778 := ()
def PySem.W.Fast.tw13881322054098559427 := ()
def PySem.W.Fast.tw7391223028589272740 := ()
def PySem.W.Fast.tw16941513141214966866 := ()
def PySem.W.Fast.tw4605051951456453620 := ()
def PySem.W.Fast.tw2479384170448718283 := ()
def PySem.W.Fast.tw8368259545238915072 := ()
def PySem.W.Fast.tw1671461634690314576 := ()
def PySem.W.Fast.tw3279558312924161178 := ()
def PySem.W.Fast.tw4092753971613355707 := ()
def PySem.W.Fast.tw8685112156796257631 := ()
def PySem.W.Fast.tw18121588058145258794 := ()
def PySem.W.Fast.tw11728602288565855269 := ()
def PySem.W.Fast.tw11318477762548105398 := ()
def PySem.W.Fast.tw14960845496821118257 := ()
def PySem.W.Fast.tw9299513243435709589 := ()
def PySem.W.Fast.tw10533142219692267516 := ()
def PySem.W.Fast.tw11003719497221542904 := ()
def PySem.W.Fast.tw4702090666799404580 := ()
def PySem.W.Fast.tw10695745629332845557 := ()
def PySem.W.Fast.tw5949515797644945902 := ()
def PySem.W.Fast.tw1462144975942448740 := ()
def PySem.W.Fast.tw3422616550337519393 := ()
def PySem.W.Fast.tw17011324630687960617 := ()
def PySem.W.Fast.tw7210844913117220902 := ()
def PySem.W.Fast.tw4115073931883256872 := ()
def PySem.W.Fast.tw5370126870665466788 := ()
def PySem.W.Fast.tw6045886721407082761 := ()
def PySem.W.Fast.tw6570828443281799791 := ()
def PySem.W.Fast.tw3974095891079106431 := ()
def PySem.W.Fast.tw14370247860335642961 := ()
def PySem.W.Fast.tw7237286939690345944 := ()
def PySem.W.Fast.tw16327290352753052856 := ()
def PySem.W.Fast.tw5746780023453111163 := ()
def PySem.W.Fast.tw2763717748189799477 := ()
def PySem.W.Fast.tw4939958161800817476 := ()
def PySem.W.Fast.tw8887234732111547060 := ()
def PySem.W.Fast.tw9451494311270445390 := ()
def PySem.W.Fast.tw6945611564758428046 := ()
def PySem.W.Fast.tw12218499135828696319 := ()
def PySem.W.Fast.tw9601907721579210822 := ()
def PySem.W.Fast.tw17668581766466282767 := ()
def PySem.W.Fast.tw15785737197336931682 := ()
def PySem.W.Fast.tw11643658846480765067 := ()
def PySem.W.Fast.tw16868177100271911786 := ()
def PySem.W.Fast.tw3030898905472711436 := ()
def PySem.W.Fast.tw11520918728408479019 := ()
def PySem.W.Fast.tw3750799434196643690 := ()
def PySem.W.Fast.tw7202452669995809266 := ()
def PySem.W.Fast.tw8512238866962225245 := ()
def PySem.W.Fast.tw16009858369844936273 := ()
def PySem.W.Fast.tw10467076022219188449 := ()
def PySem.W.Fast.tw6118724657256400777 := ()
def PySem.W.Fast.tw3940630389240519860 := ()
def PySem.W.Fast.tw11413925877073230695 := ()
def PySem.W.Fast.tw6818249995302293537 := ()
def PySem.W.Fast.tw13721549774792246333 := ()
def PySem.W.Fast.tw462101555337424149 := ()
def PySem.W.Fast.tw15495370694818395660 := ()
def PySem.W.Fast.tw10967328704341264039 := ()
def PySem.W.Fast.tw14910212730834093486 := ()
def PySem.W.Fast.tw8074581194905186091 := ()
def PySem.W.Fast.tw11718768560005991892 := ()
def PySem.W.Fast.tw12344358958949609920 := ()
def PySem.W.Fast.tw9808749410266692427 := ()
def PySem.W.Fast.tw3201374210595652665 := ()
def PySem.W.Fast.tw7171160059836379524 := ()
def PySem.W.Fast.tw15482285733626315322 := ()
def PySem.W.Fast.tw9886112210850168583 := ()
def PySem.W.Fast.tw15291829818722239983 := ()
def PySem.W.Fast.tw13866442864406897897 := ()
def PySem.W.Fast.tw14033412531312166483 := ()
def PySem.W.Fast.tw13367406512877438686 := ()
def PySem.W.Fast.tw13555088468830327953 := ()
def PySem.W.Fast.tw14789825767506501733 := ()
def PySem.W.Fast.tw10338041534749547346 := ()
def PySem.W.Fast.tw16434464602017152872 := ()
def PySem.W.Fast.tw10715700203219666109 := ()
def PySem.W.Fast.tw4016161335606497732 := ()
def PySem.W.Fast.tw14352686582226222975 := ()
def PySem.W.Fast.tw3885335967580731433 := ()
def PySem.W.Fast.tw5008386237965529188 := ()
def PySem.W.Fast.tw8107349879545132544 := ()
def PySem.W.Fast.tw1046834628368717320 := ()
def PySem.W.Fast.tw374043135764700482 := ()
def PySem.W.Fast.tw585786519227966281 := ()
def PySem.W.Fast.tw12669595264866536446 := ()
def PySem.W.Fast.tw3948719357196945127 := ()
def PySem.W.Fast.tw7714320990371271308 := ()
def PySem.W.Fast.tw12045146046823538163 := ()
def PySem.W.Fast.tw16886602278325599535 := ()
def PySem.W.Fast.tw9796349993305531692 := ()
def PySem.W.Fast.tw6392013499566768685 := ()
def PySem.W.Fast.tw9265617299763942880 := ()
def PySem.W.Fast.tw7428909991576582893 := ()
def PySem.W.Fast.tw16391795507074893704 := ()
def PySem.W.Fast.tw10616410052229596968 := ()
def PySem.W.Fast.tw14106813784614462732 := ()
def PySem.W.Fast.tw8553328259371916147 := ()
def PySem.W.Fast.tw1493556174558740318 := ()
def PySem.W.Fast.tw13145760701055457333 := ()
def PySem.W.Fast.tw7375829030884652465 := ()
def PySem.W.Fast.tw7254117558693972933 := ()
def PySem.W.Fast.tw16401462833414498773 := ()
def PySem.W.Fast.tw12469390953897580896 := ()
def PySem.W.Fast.tw12919933034453599942 := ()
def PySem.W.Fast.tw14694820886314218238 := ()
def PySem.W.Fast.tw16370100573909391249 := ()
def PySem.W.Fast.tw13565244023257481030 := ()
def PySem.W.Fast.tw7673877129864349602 := ()
def PySem.W.Fast.tw13899874949797891556 := ()
def PySem.W.Fast.tw14252122459306173732 := ()
def PySem.W.Fast.tw494246502604303844 := ()
def PySem.W.Fast.tw1051812236319517623 := ()
def PySem.W.Fast.tw6176006675358910456 := ()
def PySem.W.Fast.tw14057907795667222674 := ()
def PySem.W.Fast.tw305801894762704093 := ()
def PySem.W.Fast.tw15939514350376409900 := ()
def PySem.W.Fast.tw826050147584946882 := ()
def PySem.W.Fast.tw9716097232613235583 := ()
def PySem.W.Fast.tw8364722630692304626 := ()
def PySem.W.Fast.tw9407363306480579178 := ()
def PySem.W.Fast.tw2594066533011468910 := ()
def PySem.W.Fast.tw389902533921604625 := ()
def PySem.W.Fast.tw11553328356620267434 := ()
def PySem.W.Fast.tw14839675598837139404 := ()
def PySem.W.Fast.tw7346477064073469074 := ()
def PySem.W.Fast.tw18244234128155175886 := ()
def PySem.W.Fast.tw15654873279778996753 := ()
def PySem.W.Fast.tw12170700350482549761 := ()
def PySem.W.Fast.tw17220554426186149716 := ()
def PySem.W.Fast.tw4455179421062024328 := ()
def PySem.W.Fast.tw11730827145654390419 := ()
def PySem.W.Fast.tw1276489199716814894 := ()
def PySem.W.Fast.tw6637932017560144834 := ()
def PySem.W.Fast.tw5744491269130254326 := ()
def PySem.W.Fast.tw476092429655900625 := ()
def PySem.W.Fast.tw10386555506796480499 := ()
def PySem.W.Fast.tw7602653784384410609 := ()
def PySem.W.Fast.tw5424352590535263961 := ()
def PySem.W.Fast.tw13770067891677398166 := ()
def PySem.W.Fast.tw4364312260117086569 := ()
def PySem.W.Fast.tw7263962276674021806 := ()
def PySem.W.Fast.tw2637372965488923333 := ()
def PySem.W.Fast.tw16713935031528399799 := ()
def PySem.W.Fast.tw3929067996688330741 := ()
def PySem.W.Fast.tw11295739201636098028 := ()
def PySem.W.Fast.tw8683744632559380795 := ()
def PySem.W.Fast.tw12270351584365738130 := ()
def PySem.W.Fast.tw13922564668820824528 := ()
def PySem.W.Fast.tw17365020926050320228 := ()
def PySem.W.Fast.tw2556136700328663456 := ()
def PySem.W.Fast.tw12578357613320816050 := ()
def PySem.W.Fast.tw15056592185873946940 := ()
def PySem.W.Fast.tw3858846405533810610 := ()
def PySem.W.Fast.tw1933283037698103854 := ()
def PySem.W.Fast.tw6672141492087832059 := ()
def PySem.W.Fast.tw17189000690816637886 := ()
def PySem.W.Fast.tw2360782690905403479 := ()
def PySem.W.Fast.tw5445476710867099485 := ()
def PySem.W.Fast.tw16982922423411255724 := ()
def PySem.W.Fast.tw6986098758012258278 := ()
def PySem.W.Fast.tw3418357158885256683 := ()
def PySem.W.Fast.tw11280292275190330854 := ()
def PySem.W.Fast.tw4003626912023695471 := ()
def PySem.W.Fast.tw10918872559776015779 := ()
def PySem.W.Fast.tw12436554127751555241 := ()
def PySem.W.Fast.tw15568478774447513883 := ()
def PySem.W.Fast.tw4831998171213261284 := ()
def PySem.W.Fast.tw8279377174577075966 := ()
def PySem.W.Fast.tw15989648928208175022 := ()
def PySem.W.Fast.tw8512452456573471756 := ()
def PySem.W.Fast.tw7543528161418295196 := ()
def PySem.W.Fast.tw6625530199145940908 := ()
def PySem.W.Fast.tw14153236246104876540 := ()
def PySem.W.Fast.tw11673187932422186281 := ()
def PySem.W.Fast.tw1339873059741407311 := ()
def PySem.W.Fast.tw13250900429124307531 := ()
def PySem.W.Fast.tw1001158715496019136 := ()
def PySem.W.Fast.tw1416354396201904621 := ()
def PySem.W.Fast.tw14141406921866506651 := ()
def PySem.W.Fast.tw12693229930796117028 := ()
def PySem.W.Fast.tw2035050020021571946 := ()
def PySem.W.Fast.tw10968445157971832320 := ()
def PySem.W.Fast.tw14865176645503841660 := ()
def PySem.W.Fast.tw11106658667410148406 := ()
def PySem.W.Fast.tw11230621381365945833 := ()
def PySem.W.Fast.tw5670531393259643752 := ()
def PySem.W.Fast.tw7385078765943024927 := ()
def PySem.W.Fast.tw8653941287274036547 := ()
def PySem.W.Fast.tw3234499502873079160 := ()
def PySem.W.Fast.tw8597089563977043336 := ()
def PySem.W.Fast.tw8381217679035523663 := ()
def PySem.W.Fast.tw3116863394353420297 := ()
def PySem.W.Fast.tw16924563992053011641 := ()
def PySem.W.Fast.tw11370937749083144845 := ()
def PySem.W.Fast.tw16047154017791870269 := ()
def PySem.W.Fast.tw2531646663303841504 := ()
def PySem.W.Fast.tw12930932893351025517 := ()
def PySem.W.Fast.tw16293313151323622944 := ()
def PySem.W.Fast.tw16536559970061144356 := ()
def PySem.W.Fast.tw2456479004389926127 := ()
def PySem.W.Fast.tw10120783155515204342 := ()
def PySem.W.Fast.tw10000110834166282238 := ()
def PySem.W.Fast.tw6500821618143430631 := ()
def PySem.W.Fast.tw16867987924573775942 := ()
def PySem.W.Fast.tw16498065940647037081 := ()
def PySem.W.Fast.tw6252821059730620112 := ()
def PySem.W.Fast.tw8651608316043211516 := ()
def PySem.W.Fast.tw16089474020145708642 := ()
def PySem.W.Fast.tw18140977214422818042 := ()
def PySem.W.Fast.tw1706106515707918729 := ()
def PySem.W.Fast.tw2598272910034340781 := ()
def PySem.W.Fast.tw4174468643396515799 := ()
def PySem.W.Fast.tw3092694749374322286 := ()
def PySem.W.Fast.tw10154089297030787362 := ()
def PySem.W.Fast.tw17579429299363282548 := ()
def PySem.W.Fast.tw17328288605545792406 := ()
def PySem.W.Fast.tw7895333449356290289 := ()
def PySem.W.Fast.tw13834801582409083877 := ()
def PySem.W.Fast.tw1975850320166040646 := ()
def PySem.W.Fast.tw6412797736860565184 := ()
def PySem.W.Fast.tw6883364664100263515 := ()
def PySem.W.Fast.tw17146761497891350289 := ()
def PySem.W.Fast.tw1249030321132692306 := ()
def PySem.W.Fast.tw17930070100937223199 := ()
def PySem.W.Fast.tw118185646311746771 := ()
def PySem.W.Fast.tw4929726685724964698 := ()
def PySem.W.Fast.tw17134010469231046230 := ()
def PySem.W.Fast.tw14914813656566555618 := ()
def PySem.W.Fast.tw16026793001480315039 := ()
def PySem.W.Fast.tw4643871355232004056 := ()
def PySem.W.Fast.tw17546443937647569374 := ()
def PySem.W.Fast.tw1269259334285022569 := ()
def PySem.W.Fast.tw16843641401198969075 := ()
def PySem.W.Fast.tw16290827726506497502 := ()
def PySem.W.Fast.tw1934841545604881165 := ()
def PySem.W.Fast.tw158320095667115852 := ()
def PySem.W.Fast.tw16256741983279480788 := ()
def PySem.W.Fast.tw15683060690403240248 := ()
def PySem.W.Fast.tw8981791773367956363 := ()
def PySem.W.Fast.tw18363618499082209065 := ()
def PySem.W.Fast.tw11428560725831809220 := ()
def PySem.W.Fast.tw12276041238252777312 := ()
def PySem.W.Fast.tw9034529675831449682 := ()
def PySem.W.Fast.tw18066864168717668022 := ()
def PySem.W.Fast.tw16142640509239488142 := ()
def PySem.W.Fast.tw12250034325316302212 := ()
def PySem.W.Fast.tw7621243757376306844 := ()
def PySem.W.Fast.tw1071176467629171360 := ()
def PySem.W.Fast.tw11536475493641438298 := ()
def PySem.W.Fast.tw13812193358538898458 := ()
def PySem.W.Fast.tw5536569088177360545 := ()
def PySem.W.Fast.tw12924085913720262783 := ()
def PySem.W.Fast.tw2689032494699704229 := ()
def PySem.W.Fast.tw8734138023180973116 := ()
def PySem.W.Fast.tw1752395263478686593 := ()
def PySem.W.Fast.tw97605673829652902 := ()
def PySem.W.Fast.tw10286228580845949852 := ()
def PySem.W.Fast.tw10698754219542004582 := ()
def PySem.W.Fast.tw15926128247489868216 := ()
def PySem.W.Fast.tw8687163510960062008 := ()
def PySem.W.Fast.tw12917977706852821432 := ()
def PySem.W.Fast.tw16905155156220815221 := ()
def PySem.W.Fast.tw17781546447032032252 := ()
def PySem.W.Fast.tw5532759322429394001 := ()
def PySem.W.Fast.tw18233268538676629475 := ()
def PySem.W.Fast.tw6432406266401240465 := ()
def PySem.W.Fast.tw10393836680266133387 := ()
def PySem.W.Fast.tw151877612588178811 := ()
def PySem.W.Fast.tw2953787751103477071 := ()
def PySem.W.Fast.tw1003425790654547082 := ()
def PySem.W.Fast.tw956168111543501599 := ()
def PySem.W.Fast.tw17919783671714152178 := ()
def PySem.W.Fast.tw17259746709163159835 := ()
def PySem.W.Fast.tw3495422061015808247 := ()
def PySem.W.Fast.tw14307519223101940278 := ()
def PySem.W.Fast.tw1735758094186658864 := ()
def PySem.W.Fast.tw14432321864799164035 := ()
def PySem.W.Fast.tw16103181326568387007 := ()
def PySem.W.Fast.tw14681509924744641017 := ()
def PySem.W.Fast.tw330721633699184408 := ()
def PySem.W.Fast.tw16391792346333501769 := ()
def PySem.W.Fast.tw8491652849446259744 := ()
def PySem.W.Fast.tw11197033153869951397 := ()
def PySem.W.Fast.tw6613024774849267253 := ()
def PySem.W.Fast.tw4028821086413734119 := ()
def PySem.W.Fast.tw11522298259374384735 := ()
def PySem.W.Fast.tw7254710908276581442 := ()
def PySem.W.Fast.tw11784122414234016829 := ()
def PySem.W.Fast.tw4307695173403206440 := ()
def PySem.W.Fast.tw18394807644006728980 := ()
def PySem.W.Fast.tw9355529591890005404 := ()
def PySem.W.Fast.tw3147370622995384319 := ()
def PySem.W.Fast.tw76287334330369110 := ()
def PySem.W.Fast.tw15331013646910017677 := ()
def PySem.W.Fast.tw5398290295421721850 := ()
def PySem.W.Fast.tw15081048389808069055 := ()
def PySem.W.Fast.tw5263541326334375508 := ()
def PySem.W.Fast.tw8557585827188207505 := ()
def PySem.W.Fast.tw14960510081144969666 := ()
def PySem.W.Fast.tw8292343884658298477 := ()
def PySem.W.Fast.tw17895915250921586802 := ()
def PySem.W.Fast.tw562433880569121547 := ()
def PySem.W.Fast.tw18177344523616162926 := ()
def PySem.W.Fast.tw16786088845880653494 := ()
def PySem.W.Fast.tw14799022162401358116 := ()
def PySem.W.Fast.tw1168583035444657180 := ()
def PySem.W.Fast.tw525971890412833368 := ()
def PySem.W.Fast.tw6214586853617726080 := ()
def PySem.W.Fast.tw17359272141973863347 := ()
def PySem.W.Fast.tw6771655377940244008 := ()
def PySem.W.Fast.tw5365958418093142265 := ()
def PySem.W.Fast.tw5391312593571895840 := ()
def PySem.W.Fast.tw12074044522375822979 := ()
def PySem.W.Fast.tw17871917339811609533 := ()
def PySem.W.Fast.tw6583569990630796304 := ()
def PySem.W.Fast.tw6624693115960920317 := ()
def PySem.W.Fast.tw8454309375184253654 := ()
def PySem.W.Fast.tw3143410294772423347 := ()
def PySem.W.Fast.tw10588596398361935970 := ()
def PySem.W.Fast.tw18293387169301133050 := ()
def PySem.W.Fast.tw12597136696415065247 := ()
def PySem.W.Fast.tw17172194902662865959 := ()
def PySem.W.Fast.tw10320101756955194332 := ()
def PySem.W.Fast.tw11556782128522018748 := ()
def PySem.W.Fast.tw3799682190940800303 := ()
def PySem.W.Fast.tw2976480923718182190 := ()
def PySem.W.Fast.tw916174584253752008 := ()
def PySem.W.Fast.tw2329251086672627980 := ()
def PySem.W.Fast.tw8970784434670729542 := ()
def PySem.W.Fast.tw5388351382017431206 := ()
def PySem.W.Fast.tw18082394277123473374 := ()
def PySem.W.Fast.tw1764162736334371898 := ()
def PySem.W.Fast.tw4956952026106727107 := ()
def PySem.W.Fast.tw240643868272430716 := ()
def PySem.W.Fast.tw7483035904569225956 := ()
def PySem.W.Fast.tw18267379231862201805 := ()
def PySem.W.Fast.tw5145686911981053014 := ()
def PySem.W.Fast.tw6516669034510531533 := ()
def PySem.W.Fast.tw4204849221740553103 := ()
def PySem.W.Fast.tw15670228940706022198 := ()
def PySem.W.Fast.tw3837739474784811663 := ()
def PySem.W.Fast.tw8375127430542057377 := ()
def PySem.W.Fast.tw5256033881534246421 := ()
def PySem.W.Fast.tw811598703073297514 := ()
def PySem.W.Fast.tw9198557973071422858 := ()
def PySem.W.Fast.tw14397996100253764156 := ()
def PySem.W.Fast.tw1666137379653283344 := ()
def PySem.W.Fast.tw10848796847175946293 := ()
def PySem.W.Fast.tw12668627170978151701 := ()
def PySem.W.Fast.tw4335523517789024107 := ()
def PySem.W.Fast.tw6381236411976867845 := ()
def PySem.W.Fast.tw9976740603452696885 := ()
def PySem.W.Fast.tw11733190605093284202 := ()
def PySem.W.Fast.tw12955426564976821548 := ()
def PySem.W.Fast.tw12326762194556004285 := ()
def PySem.W.Fast.tw8791353203554674867 := ()
def PySem.W.Fast.tw13533449552401489967 := ()
def PySem.W.Fast.tw5695304215767909264 := ()
def PySem.W.Fast.tw699983233099533569 := ()
def PySem.W.Fast.tw6536281723646734803 := ()
def PySem.W.Fast.tw9317083568003778985 := ()
def PySem.W.Fast.tw15411998160187553002 := ()
def PySem.W.Fast.tw2819574432656138453 := ()
def PySem.W.Fast.tw11177516670632044920 := ()
def PySem.W.Fast.tw2654241879673310209 := ()
def PySem.W.Fast.tw5290235075041242911 := ()
def PySem.W.Fast.tw2372125598019814935 := ()
def PySem.W.Fast.tw15368009499767935648 := ()
def PySem.W.Fast.tw18326578047013222181 := ()
def PySem.W.Fast.tw2988977549628038826 := ()
def PySem.W.Fast.tw4469057356704136134 := ()
def PySem.W.Fast.tw13715328186019417285 := ()
def PySem.W.Fast.tw1633116040850364550 := ()
def PySem.W.Fast.tw6329315058944578643 := ()
def PySem.W.Fast.tw6304043317906394802 := ()
def PySem.W.Fast.tw3079558436720774900 := ()
def PySem.W.Fast.tw7284363390688053301 := ()
def PySem.W.Fast.tw6373783906445050636 := ()
def PySem.W.Fast.tw3749785008035329403 := ()
def PySem.W.Fast.tw10797086916724916014 := ()
def PySem.W.Fast.tw12992499278762490524 := ()
def PySem.W.Fast.tw11621377213385941347 := ()
def PySem.W.Fast.tw8936740229579739187 := ()
def PySem.W.Fast.tw10278276164708977948 := ()
def PySem.W.Fast.tw1559394860754162842 := ()
def PySem.W.Fast.tw4746348499484628388 := ()
def PySem.W.Fast.tw6412367590645128615 := ()
def PySem.W.Fast.tw12805818717491155183 := ()
def PySem.W.Fast.tw14971442183255892096 := ()
def PySem.W.Fast.tw9116407616549778306 := ()
def PySem.W.Fast.tw16828374845508734344 := ()
def PySem.W.Fast.tw7029710978533483846 := ()
def PySem.W.Fast.tw10088885460896334978 := ()
def PySem.W.Fast.tw4543862264886649520 := ()
def PySem.W.Fast.tw8872424348579650481 := ()
def PySem.W.Fast.tw5495966832980350900 := ()
def PySem.W.Fast.tw7942335900860123847 := ()
def PySem.W.Fast.tw7960239390081119278 := ()
def PySem.W.Fast.tw7886365899890399600 := ()
def PySem.W.Fast.tw6690039835745612550 := ()
def PySem.W.Fast.tw4590944112532336881 := ()
def PySem.W.Fast.tw15218082753105002893 := ()
def PySem.W.Fast.tw17228341342128783933 := ()
def PySem.W.Fast.tw16300842477540186650 := ()
def PySem.W.Fast.tw17676893758640787286 := ()
def PySem.W.Fast.tw8143073152113607479 := ()
def PySem.W.Fast.tw16459341077086567585 := ()
def PySem.W.Fast.tw5856535442251151140 := ()
def PySem.W.Fast.tw10244790371430084323 := ()
def PySem.W.Fast.tw442714007128492087 := ()
def PySem.W.Fast.tw13684550232073234278 := ()
def PySem.W.Fast.tw6143834646622619082 := ()
def PySem.W.Fast.tw6201219514102406774 := ()
def PySem.W.Fast.tw7061937873762661700 := ()
def PySem.W.Fast.tw3913688647907075233 := ()
def PySem.W.Fast.tw5017587135797883045 := ()
def PySem.W.Fast.tw10629939957572037136 := ()
def PySem.W.Fast.tw10000238034465153827 := ()
def PySem.W.Fast.tw16449074946143199689 := ()
def PySem.W.Fast.tw7055556614454735505 := ()
def PySem.W.Fast.tw7725488300966346345 := ()
def PySem.W.Fast.tw5904649913508052175 := ()
def PySem.W.Fast.tw7593893905282566696 := ()
def PySem.W.Fast.tw9535889407711151252 := ()
def PySem.W.Fast.tw16021154624337172253 := ()
def PySem.W.Fast.tw14521878354091283589 := ()
def PySem.W.Fast.tw17262333908650749366 := ()
def PySem.W.Fast.tw17394722878001523207 := ()
def PySem.W.Fast.tw6440628912788728963 := ()
def PySem.W.Fast.tw8392628692586140791 := ()
def PySem.W.Fast.tw1769874280905961876 := ()
def PySem.W.Fast.tw14347067725777447176 := ()
def PySem.W.Fast.tw11450664337163202425 := ()
def PySem.W.Fast.tw1164822478379238994 := ()
def PySem.W.Fast.tw12045395902191236987 := ()
def PySem.W.Fast.tw16764534045688517092 := ()
def PySem.W.Fast.tw15837674669664500531 := ()
def PySem.W.Fast.tw3310250131123139206 := ()
def PySem.W.Fast.tw10453942095013012022 := ()
def PySem.W.Fast.tw1051161986698544166 := ()
def PySem.W.Fast.tw14728990594584755473 := ()
def PySem.W.Fast.tw3139382783054453432 := ()
def PySem.W.Fast.tw17369954002104624963 := ()
def PySem.W.Fast.tw13812141045895860673 := ()
def PySem.W.Fast.tw18198501515940422456 := ()
def PySem.W.Fast.tw5537190390190837575 := ()
def PySem.W.Fast.tw3010270142669582522 := ()
def PySem.W.Fast.tw2598559356835018673 := ()
def PySem.W.Fast.tw3414728413744612603 := ()
def PySem.W.Fast.tw16129008603909181155 := ()
def PySem.W.Fast.tw12165271380336313579 := ()
def PySem.W.Fast.tw7203418135081285281 := ()
def PySem.W.Fast.tw8653044752966469256 := ()
def PySem.W.Fast.tw6367672484968521906 := ()
def PySem.W.Fast.tw9751381377828701108 := ()
def PySem.W.Fast.tw3701145428368704398 := ()
def PySem.W.Fast.tw18133016336624234723 := ()
def PySem.W.Fast.tw9408729380523153918 := ()
def PySem.W.Fast.tw6680524609020092259 := ()
def PySem.W.Fast.tw11753584649619917735 := ()
def PySem.W.Fast.tw16555277197787353229 := ()
def PySem.W.Fast.tw4391387231655755754 := ()
def PySem.W.Fast.tw9266690511838793001 := ()
def PySem.W.Fast.tw10647470469912562670 := ()
def PySem.W.Fast.tw13127248482935128173 := ()
def PySem.W.Fast.tw1131058488836780538 := ()
def PySem.W.Fast.tw9931682174960826659 := ()
def PySem.W.Fast.tw17655014837689435120 := ()
def PySem.W.Fast.tw207475888272924817 := ()
def PySem.W.Fast.tw16402157349505537333 := ()
def PySem.W.Fast.tw2347979091868888168 := ()
def PySem.W.Fast.tw13701095771527981507 := ()
def PySem.W.Fast.tw9691914553546865442 := ()
def PySem.W.Fast.tw7478467729709712817 := ()
def PySem.W.Fast.tw9498512272527782362 := ()
def PySem.W.Fast.tw1046795124126713946 := ()
def PySem.W.Fast.tw4675990337119635741 := ()
def PySem.W.Fast.tw16006151127018150873 := ()
def PySem.W.Fast.tw11611082369935515180 := ()
def PySem.W.Fast.tw3040814021471576422 := ()
def PySem.W.Fast.tw7823639798242476208 := ()
def PySem.W.Fast.tw18077335278976140281 := ()
def PySem.W.Fast.tw8152893556384559925 := ()
def PySem.W.Fast.tw10621672969434319197 := ()
def PySem.W.Fast.tw7137065345099801117 := ()
def PySem.W.Fast.tw15175646766306688200 := ()
def PySem.W.Fast.tw11756260487781267813 := ()
def PySem.W.Fast.tw16557813982594551707 := ()
def PySem.W.Fast.tw5538243292766072810 := ()
def PySem.W.Fast.tw3170194286392034051 := ()
def PySem.W.Fast.tw1832305226373153503 := ()
def PySem.W.Fast.tw3323092625085147333 := ()
def PySem.W.Fast.tw2856869501180596292 := ()
def PySem.W.Fast.tw16287930942031875436 := ()
def PySem.W.Fast.tw14378799967131733294 := ()
def PySem.W.Fast.tw2727110058224956874 := ()
def PySem.W.Fast.tw6139420933337130945 := ()
def PySem.W.Fast.tw14934842453651301101 := ()
def PySem.W.Fast.tw12906801631330145908 := ()
def PySem.W.Fast.tw15221012415568403800 := ()
def PySem.W.Fast.tw16121655191461512679 := ()
def PySem.W.Fast.tw9288630944121712886 := ()
def PySem.W.Fast.tw15726483774325679759 := ()
def PySem.W.Fast.tw12693816989462809389 := ()
def PySem.W.Fast.tw17886078461749874808 := ()
def PySem.W.Fast.tw6182063670004326489 := ()
def PySem.W.Fast.tw13752684085862969635 := ()
def PySem.W.Fast.tw17584363387207967964 := ()
def PySem.W.Fast.tw16709738912592591664 := ()
def PySem.W.Fast.tw3427889789911702415 := ()
def PySem.W.Fast.tw8166450375955187042 := ()
def PySem.W.Fast.tw148016256885268824 := ()
def PySem.W.Fast.tw1592196551394007541 := ()
def PySem.W.Fast.tw3631383951922275030 := ()
def PySem.W.Fast.tw15328018163120504104 := ()
def PySem.W.Fast.tw12855522295254010285 := ()
def PySem.W.Fast.tw10883282604286881495 := ()
def PySem.W.Fast.tw4932014915839803545 := ()
def PySem.W.Fast.tw1417267865766913270 := ()
def PySem.W.Fast.tw14236990176732155125 := ()
def PySem.W.Fast.tw13754119913833007284 := ()
def PySem.W.Fast.tw6481239112745769829 := ()
def PySem.W.Fast.tw6064470252738812520 := ()
def PySem.W.Fast.tw1679833989265961855 := ()
def PySem.W.Fast.tw1240161796752198605 := ()
def PySem.W.Fast.tw15011665485577094884 := ()
def PySem.W.Fast.tw2214115606172989002 := ()
def PySem.W.Fast.tw13987971553844183936 := ()
def PySem.W.Fast.tw9976756210757846572 := ()
def PySem.W.Fast.tw12223927527911700314 := ()
def PySem.W.Fast.tw3553588382067274256 := ()
def PySem.W.Fast.tw11216690433693713307 := ()
def PySem.W.Fast.tw11330006680227584537 := ()
def PySem.W.Fast.tw4892073133884349850 := ()
def PySem.W.Fast.tw17415822492269689572 := ()
def PySem.W.Fast.tw11028732015757573024 := ()
def PySem.W.Fast.tw11004315837650710843 := ()
def PySem.W.Fast.tw12902807110968978128 := ()
def PySem.W.Fast.tw15906666146169957288 := ()
def PySem.W.Fast.tw18428445014577448959 := ()
def PySem.W.Fast.tw12080129296062839802 := ()
def PySem.W.Fast.tw1033518068030632222 := ()
def PySem.W.Fast.tw13000284736467484041 := ()
def PySem.W.Fast.tw17162040074993876275 := ()
def PySem.W.Fast.tw13921671609799115615 := ()
def PySem.W.Fast.tw4816354756237752001 := ()
def PySem.W.Fast.tw17993877521246615184 := ()
def PySem.W.Fast.tw8287011873832072569 := ()
def PySem.W.Fast.tw1643834274210970207 := ()
def PySem.W.Fast.tw5383876869167197197 := ()
def PySem.W.Fast.tw1230148849783617716 := ()
def PySem.W.Fast.tw51704984976947779 := ()
def PySem.W.Fast.tw3577336188993893064 := ()
def PySem.W.Fast.tw7097289900023832439 := ()
def PySem.W.Fast.tw1288435933896132735 := ()
def PySem.W.Fast.tw2127386560088027269 := ()
def PySem.W.Fast.tw11935013928073119513 := ()
def PySem.W.Fast.tw17540539194130869300 := ()
def PySem.W.Fast.tw5456402520197720175 := ()
def PySem.W.Fast.tw18167437583045865184 := ()
def PySem.W.Fast.tw8590002871284199591 := ()
def PySem.W.Fast.tw9981037535553686391 := ()
def PySem.W.Fast.tw14256049151964119334 := ()
def PySem.W.Fast.tw15986422015097113528 := ()
def PySem.W.Fast.tw3287450537452312246 := ()
def PySem.W.Fast.tw10961815849531784479 := ()
def PySem.W.Fast.tw11073081901365415280 := ()
def PySem.W.Fast.tw5114536106606784217 := ()
def PySem.W.Fast.tw4652151206057609498 := ()
def PySem.W.Fast.tw14241808963167129106 := ()
def PySem.W.Fast.tw10019484435316616217 := ()
def PySem.W.Fast.tw596145096941495018 := ()
def PySem.W.Fast.tw5078937471664864510 := ()
def PySem.W.Fast.tw14978872160410082800 := ()
def PySem.W.Fast.tw9160190462601821808 := ()
def PySem.W.Fast.tw10236386441229697096 := ()
def PySem.W.Fast.tw9895760824171016798 := ()
def PySem.W.Fast.tw7449544605205121460 := ()
def PySem.W.Fast.tw2269234196165878898 := ()
def PySem.W.Fast.tw1925579754118189812 := ()
def PySem.W.Fast.tw8712021672824239479 := ()
def PySem.W.Fast.tw5171241798823065534 := ()
def PySem.W.Fast.tw3169945564161042060 := ()
def PySem.W.Fast.tw14236355424294765277 := ()
def PySem.W.Fast.tw8382184055708986615 := ()
def PySem.W.Fast.tw4768705950608812819 := ()
def PySem.W.Fast.tw6323360654103312038 := ()
def PySem.W.Fast.tw14594022183068772991 := ()
def PySem.W.Fast.tw16954763423670875229 := ()
def PySem.W.Fast.tw6285260073267670136 := ()
def PySem.W.Fast.tw13373443434999790138 := ()
def PySem.W.Fast.tw4195052883035850307 := ()
def PySem.W.Fast.tw1975839468565563936 := ()
def PySem.W.Fast.tw17435411018065388275 := ()
def PySem.W.Fast.tw16943499342412296639 := ()
def PySem.W.Fast.tw16173406498118784896 := ()
def PySem.W.Fast.tw16873967768489515914 := ()
def PySem.W.Fast.tw7681091917726396199 := ()
def PySem.W.Fast.tw650633008843381011 := ()
def PySem.W.Fast.tw2269559807043221119 := ()
def PySem.W.Fast.tw16244275243656464212 := ()
def PySem.W.Fast.tw6399235354509669400 := ()
def PySem.W.Fast.tw18350157207149703057 := ()
def PySem.W.Fast.tw9776217917798927991 := ()
def PySem.W.Fast.tw1866602782484288125 := ()
def PySem.W.Fast.tw8971447036981883417 := ()
def PySem.W.Fast.tw8496530823756252672 := ()
def PySem.W.Fast.tw7159697373269255233 := ()
def PySem.W.Fast.tw16198641459644125817 := ()
def PySem.W.Fast.tw16015108889573375650 := ()
def PySem.W.Fast.tw3075866607676219675 := ()
def PySem.W.Fast.tw18129127261707926000 := ()
def PySem.W.Fast.tw1517260361748850212 := ()
def PySem.W.Fast.tw17662399695330752599 := ()
def PySem.W.Fast.tw12129843179988396124 := ()
def PySem.W.Fast.tw15178230347798432714 := ()
def PySem.W.Fast.tw17899925769406046353 := ()
def PySem.W.Fast.tw4855410501185282424 := ()
def PySem.W.Fast.tw6943428871620411391 := ()
def PySem.W.Fast.tw17232174053021138101 := ()
def PySem.W.Fast.tw3326757687935774747 := ()
def PySem.W.Fast.tw266414199364741453 := ()
def PySem.W.Fast.tw9978894678291943858 := ()
def PySem.W.Fast.tw3124499312011960506 := ()
def PySem.W.Fast.tw3832245803741833417 := ()
def PySem.W.Fast.tw8974007893635476438 := ()
def PySem.W.Fast.tw3707846588797516555 := ()
def PySem.W.Fast.tw15252627548554094414 := ()
def PySem.W.Fast.tw651113026807907116 := ()
def PySem.W.Fast.tw7505055193405779701 := ()
def PySem.W.Fast.tw18272419350263430587 := ()
def PySem.W.Fast.tw7997015069412195048 := ()
def PySem.W.Fast.tw8578684552683856789 := ()
def PySem.W.Fast.tw6365178320250562144 := ()
def PySem.W.Fast.tw10640439578127372033 := ()
def PySem.W.Fast.tw14306962661140528320 := ()
def PySem.W.Fast.tw6029484072157100687 := ()
def PySem.W.Fast.tw11128155890729916514 := ()
def PySem.W.Fast.tw11972312602168233653 := ()
def PySem.W.Fast.tw10416164770369330416 := ()
def PySem.W.Fast.tw4593862940627513191 := ()
def PySem.W.Fast.tw2623044002536383230 := ()
def PySem.W.Fast.tw7030423024764255718 := ()
def PySem.W.Fast.tw8864921269684702280 := ()
def PySem.W.Fast.tw4063706246288814935 := ()
def PySem.W.Fast.tw557489076429201095 := ()
def PySem.W.Fast.tw12059723213396550649 := ()
def PySem.W.Fast.tw13721687845456885156 := ()
def PySem.W.Fast.tw13010796618190460388 := ()
def PySem.W.Fast.tw1347803674968400459 := ()
def PySem.W.Fast.tw210797203689366870 := ()
def PySem.W.Fast.tw14815770724969682062 := ()
def PySem.W.Fast.tw13056751287393604647 := ()
def PySem.W.Fast.tw7677720680325501164 := ()
def PySem.W.Fast.tw13396277832624105457 := ()
def PySem.W.Fast.tw3982549840964781534 := ()
def PySem.W.Fast.tw7756981839877620583 := ()
def PySem.W.Fast.tw12462446542383247348 := ()
def PySem.W.Fast.tw16188192501261382991 := ()
def PySem.W.Fast.tw16755194566836763470 := ()
def PySem.W.Fast.tw3077585977356321772 := ()
def PySem.W.Fast.tw243274768505021652 := ()
def PySem.W.Fast.tw5998407590551751015 := ()
def PySem.W.Fast.tw14649330116135791685 := ()
def PySem.W.Fast.tw1918310569295013770 := ()
def PySem.W.Fast.tw14951141054248421155 := ()
def PySem.W.Fast.tw4379564722734577272 := ()
def PySem.W.Fast.tw9139015898193622586 := ()
def PySem.W.Fast.tw17570731848568860798 := ()
def PySem.W.Fast.tw10197165203861024407 := ()
def PySem.W.Fast.tw2508801022464850398 := ()
def PySem.W.Fast.tw12691227386708316425 := ()
def PySem.W.Fast.tw10016824823951340592 := ()
def PySem.W.Fast.tw4853344389893517659 := ()
def PySem.W.Fast.tw17989116536204952411 := ()
def PySem.W.Fast.tw4269591280273073490 := ()
def PySem.W.Fast.tw5416772377342052545 := ()
def PySem.W.Fast.tw7931864639292455427 := ()
def PySem.W.Fast.tw17252572655503972812 := ()
def PySem.W.Fast.tw3138243079177079079 := ()
def PySem.W.Fast.tw16199455375652037944 := ()
def PySem.W.Fast.tw7564845616951413097 := ()
def PySem.W.Fast.tw7402733062778077046 := ()
def PySem.W.Fast.tw13953771050679628453 := ()
def PySem.W.Fast.tw6105712610403836221 := ()
def PySem.W.Fast.tw12976001273754648260 := ()
def PySem.W.Fast.tw4341922173354030406 := ()
def PySem.W.Fast.tw1068242005229050773 := ()
def PySem.W.Fast.tw7393276800935982805 := ()
def PySem.W.Fast.tw8580507787236200343 := ()
def PySem.W.Fast.tw2404644704738025620 := ()
def PySem.W.Fast.tw8153184897031971378 := ()
def PySem.W.Fast.tw3344174691846036093 := ()
def PySem.W.Fast.tw10370144916640817580 := ()
def PySem.W.Fast.tw17422049891621437790 := ()
def PySem.W.Fast.tw6653740589126335488 := ()
def PySem.W.Fast.tw16786584186384964140 := ()
def PySem.W.Fast.tw17833090413106985559 := ()
def PySem.W.Fast.tw5725802257206166729 := ()
def PySem.W.Fast.tw397317413902358007 := ()
def PySem.W.Fast.tw16797202081804815676 := ()
def PySem.W.Fast.tw7216021950612533234 := ()
def PySem.W.Fast.tw5498992149870961375 := ()
def PySem.W.Fast.tw16317578318420103960 := ()
def PySem.W.Fast.tw2055407678731004446 := ()
def PySem.W.Fast.tw14262375282566290275 := ()
def PySem.W.Fast.tw14266466145555211956 := ()
def PySem.W.Fast.tw11409066735844784525 := ()
def PySem.W.Fast.tw16305613189160753633 := ()
def PySem.W.Fast.tw1436539424801408947 := ()
def PySem.W.Fast.tw13758680475861617395 := ()
def PySem.W.Fast.tw16009140923090124424 := ()
def PySem.W.Fast.tw15716010944347127618 := ()
def PySem.W.Fast.tw17345990315141308919 := ()
def PySem.W.Fast.tw12000193819529429306 := ()
def PySem.W.Fast.tw8160833079876136975 := ()
def PySem.W.Fast.tw12829008278754391759 := ()
def PySem.W.Fast.tw12176124870028857804 := ()
open PySem PySem.W PyProof.Rows in
set_option maxRecDepth 100000 in
set_option maxHeartbeats 0 in
theorem PySem.Challenge.cw_hangwheels_k35_joined_clocks_holds : PySem.Challenge.rw_hangwheels_k35_joined_clocks.Holds := by
  w_on; o_law; k_head; (case hw => w_witness2)
  k_fill
  refine RL.walk_law (l := PySem.Challenge.rw_hangwheels_k35_joined_clocks) (k := 12) (x := "_law_script") rfl rfl ⟨rfl, by decide, by decide⟩ (fun w h Y => PySem.W.km_in_of Y) (fun w h Y => PySem.W.km_tabs_of Y) ?F
  case F =>
    intro w mg fa h hE KX G hmg
    refine' K35.all_mk KX G hmg ?aC ?pg ?hd ?po ?sa ?mk ?kc ?n_head_tables ?n_cycle_tables ?n_levels ?ha ?hn ?htk ?hmo ?isC ?tyC ?ne_ ?su_NoneType ?su_int ?su_str ?su_tuple ?a0 ?l0 ?c0 ?k0 ?a1 ?l1 ?c1 ?k1 ?a2 ?l2 ?c2 ?k2 ?a3 ?l3 ?c3 ?k3 ?a4 ?i4 ?l4 ?c4 ?k4 ?a5 ?i5 ?l5 ?c5 ?k5 ?a6 ?i6 ?l6 ?c6 ?k6 ?a7 ?l7 ?c7 ?k7 ?a8 ?l8 ?c8 ?k8 ?a9 ?l9 ?c9 ?k9 ?a10 ?l10 ?c10 ?k10 ?a11 ?l11 ?c11 ?k11 ?a12 ?l12 ?c12 ?k12 ?a13 ?l13 ?c13 ?k13 ?a14 ?l14 ?c14 ?k14 ?a15 ?l15 ?c15 ?k15 ?a16 ?i16 ?l16 ?c16 ?k16 ?a17 ?i17 ?l17 ?c17 ?k17 ?a18 ?i18 ?l18 ?c18 ?k18 ?a19 ?i19 ?l19 ?c19 ?k19 ?a20 ?i20 ?l20 ?c20 ?k20 ?a21 ?l21 ?c21 ?k21 ?a22 ?l22 ?c22 ?k22 ?a23 ?l23 ?c23 ?k23 ?a24 ?l24 ?c24 ?k24 ?a25 ?l25 ?c25 ?k25 ?aH ?aA ?aft ?lft ?cft ?kft ?aff ?lff ?cff ?kff ?hg1 ?hg2 ?hg3 ?lcL ?v11L ?v18L ?v7L ?v9L ?v10L ?neL ?nL ?hL ?lcF ?v11F ?v18F ?v7F ?v9F ?v10F ?neF ?nF ?hF ?neP ?eLimitExceeded ?elLimitExceeded ?evLimitExceeded ?esLimitExceeded ?eeLimitExceeded ?etLimitExceeded ?ekLimitExceeded ?egLimitExceeded ?eaLimitExceeded ?edLimitExceeded ?ehLimitExceeded ?ewLimitExceeded ?efLimitExceeded ?eiLimitExceeded ?ejLimitExceeded ?lxiLimitExceeded ?cxiLimitExceeded ?kxiLimitExceeded ?eInvalidCount ?elInvalidCount ?evInvalidCount ?esInvalidCount ?eeInvalidCount ?etInvalidCount ?ekInvalidCount ?egInvalidCount ?eaInvalidCount ?edInvalidCount ?ehInvalidCount ?ewInvalidCount ?efInvalidCount ?eiInvalidCount ?ejInvalidCount ?lxiInvalidCount ?cxiInvalidCount ?kxiInvalidCount ?z_abs ?z_all ?z_any ?z_bool ?z_enumerate ?z_int ?z_isinstance ?z_len ?z_list ?z_max ?z_min ?z_range ?z_repr ?z_set ?z_sorted ?z_str ?z_sum ?z_tuple ?z_zip ?z_MAX_DOORS ?z_MAX_ROOMS ?z_MAX_TABLES ?z_MOST_JOINED
    (case aC => k_is)
    (case pg => k_is)
    (case hd => k_is)
    (case po => k_is)
    (case sa => k_is)
    (case mk => k_is)
    (case kc => k_is)
    (case n_head_tables => k_is)
    (case n_cycle_tables => k_is)
    (case n_levels => k_is)
    (case ha => k_is)
    (case hn => k_is)
    (case htk => k_is)
    (case hmo => k_is)
    (case isC => k_is)
    (case tyC => k_is)
    (case ne_ => k_is)
    (case su_NoneType => k_is)
    (case su_int => k_is)
    (case su_str => k_is)
    (case su_tuple => k_is)
    (case a0 => k_is)
    (case l0 => k_is)
    (case c0 => k_is)
    (case k0 => k_is)
    (case a1 => k_is)
    (case l1 => k_is)
    (case c1 => k_is)
    (case k1 => k_is)
    (case a2 => k_is)
    (case l2 => k_is)
    (case c2 => k_is)
    (case k2 => k_is)
    (case a3 => k_is)
    (case l3 => k_is)
    (case c3 => k_is)
    (case k3 => k_is)
    (case a4 => k_is)
    (case i4 => k_is)
    (case l4 => k_is)
    (case c4 => k_is)
    (case k4 => k_is)
    (case a5 => k_is)
    (case i5 => k_is)
    (case l5 => k_is)
    (case c5 => k_is)
    (case k5 => k_is)
    (case a6 => k_is)
    (case i6 => k_is)
    (case l6 => k_is)
    (case c6 => k_is)
    (case k6 => k_is)
    (case a7 => k_is)
    (case l7 => k_is)
    (case c7 => k_is)
    (case k7 => k_is)
    (case a8 => k_is)
    (case l8 => k_is)
    (case c8 => k_is)
    (case k8 => k_is)
    (case a9 => k_is)
    (case l9 => k_is)
    (case c9 => k_is)
    (case k9 => k_is)
    (case a10 => k_is)
    (case l10 => k_is)
    (case c10 => k_is)
    (case k10 => k_is)
    (case a11 => k_is)
    (case l11 => k_is)
    (case c11 => k_is)
    (case k11 => k_is)
    (case a12 => k_is)
    (case l12 => k_is)
    (case c12 => k_is)
    (case k12 => k_is)
    (case a13 => k_is)
    (case l13 => k_is)
    (case c13 => k_is)
    (case k13 => k_is)
    (case a14 => k_is)
    (case l14 => k_is)
    (case c14 => k_is)
    (case k14 => k_is)
    (case a15 => k_is)
    (case l15 => k_is)
    (case c15 => k_is)
    (case k15 => k_is)
    (case a16 => k_is)
    (case i16 => k_is)
    (case l16 => k_is)
    (case c16 => k_is)
    (case k16 => k_is)
    (case a17 => k_is)
    (case i17 => k_is)
    (case l17 => k_is)
    (case c17 => k_is)
    (case k17 => k_is)
    (case a18 => k_is)
    (case i18 => k_is)
    (case l18 => k_is)
    (case c18 => k_is)
    (case k18 => k_is)
    (case a19 => k_is)
    (case i19 => k_is)
    (case l19 => k_is)
    (case c19 => k_is)
    (case k19 => k_is)
    (case a20 => k_is)
    (case i20 => k_is)
    (case l20 => k_is)
    (case c20 => k_is)
    (case k20 => k_is)
    (case a21 => k_is)
    (case l21 => k_is)
    (case c21 => k_is)
    (case k21 => k_is)
    (case a22 => k_is)
    (case l22 => k_is)
    (case c22 => k_is)
    (case k22 => k_is)
    (case a23 => k_is)
    (case l23 => k_is)
    (case c23 => k_is)
    (case k23 => k_is)
    (case a24 => k_is)
    (case l24 => k_is)
    (case c24 => k_is)
    (case k24 => k_is)
    (case a25 => k_is)
    (case l25 => k_is)
    (case c25 => k_is)
    (case k25 => k_is)
    (case aH => k_is)
    (case aA => k_is)
    (case aft => k_is)
    (case lft => k_is)
    (case cft => k_is)
    (case kft => k_is)
    (case aff => k_is)
    (case lff => k_is)
    (case cff => k_is)
    (case kff => k_is)
    (case hg1 => k_is)
    (case hg2 => k_is)
    (case hg3 => k_is)
    (case lcL => k_is)
    (case v11L => exact rfl)
    (case v18L => exact ⟨_, _, rfl⟩)
    (case v7L => exact ⟨_, _, rfl⟩)
    (case v9L => exact ⟨_, rfl⟩)
    (case v10L => exact ⟨_, _, rfl⟩)
    (case neL => decide)
    (case nL => first | rfl | decide +kernel | k_is)
    (case hL => exact hE _ (by decide))
    (case lcF => k_is)
    (case v11F => exact rfl)
    (case v18F => exact ⟨_, _, rfl⟩)
    (case v7F => exact ⟨_, _, rfl⟩)
    (case v9F => exact ⟨_, rfl⟩)
    (case v10F => exact ⟨_, _, rfl⟩)
    (case neF => decide)
    (case nF => first | rfl | decide +kernel | k_is)
    (case hF => exact hE _ (by decide))
    (case neP => decide)
    (case eLimitExceeded => k_is)
    (case elLimitExceeded => k_is)
    (case evLimitExceeded => first | rfl | decide)
    (case esLimitExceeded => k_is)
    (case eeLimitExceeded => k_is)
    (case etLimitExceeded => k_is)
    (case ekLimitExceeded => k_is)
    (case egLimitExceeded => k_is)
    (case eaLimitExceeded => k_is)
    (case edLimitExceeded => k_is)
    (case ehLimitExceeded => k_is)
    (case ewLimitExceeded => k_is)
    (case efLimitExceeded => k_is)
    (case eiLimitExceeded => k_is)
    (case ejLimitExceeded => k_is)
    (case lxiLimitExceeded => k_is)
    (case cxiLimitExceeded => k_is)
    (case kxiLimitExceeded => k_is)
    (case eInvalidCount => k_is)
    (case elInvalidCount => k_is)
    (case evInvalidCount => first | rfl | decide)
    (case esInvalidCount => k_is)
    (case eeInvalidCount => k_is)
    (case etInvalidCount => k_is)
    (case ekInvalidCount => k_is)
    (case egInvalidCount => k_is)
    (case eaInvalidCount => k_is)
    (case edInvalidCount => k_is)
    (case ehInvalidCount => k_is)
    (case ewInvalidCount => k_is)
    (case efInvalidCount => k_is)
    (case eiInvalidCount => k_is)
    (case ejInvalidCount => k_is)
    (case lxiInvalidCount => k_is)
    (case cxiInvalidCount => k_is)
    (case kxiInvalidCount => k_is)
    (case z_abs => k_is)
    (case z_all => k_is)
    (case z_any => k_is)
    (case z_bool => k_is)
    (case z_enumerate => k_is)
    (case z_int => k_is)
    (case z_isinstance => k_is)
    (case z_len => k_is)
    (case z_list => k_is)
    (case z_max => k_is)
    (case z_min => k_is)
    (case z_range => k_is)
    (case z_repr => k_is)
    (case z_set => k_is)
    (case z_sorted => k_is)
    (case z_str => k_is)
    (case z_sum => k_is)
    (case z_tuple => k_is)
    (case z_zip => k_is)
    (case z_MAX_DOORS => k_is)
    (case z_MAX_ROOMS => k_is)
    (case z_MAX_TABLES => k_is)
    (case z_MOST_JOINED => k_is)
