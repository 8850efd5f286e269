import PyProof.Rows.All
import Wide.All
import OpenK.AllK
import Wide.FinOn
import HandS.ForMost
import HandS.Evl
import HandS.Walk
import HandS.Defaults
import HandS.Deep
import HandS.IsInst
import HandS.SortInts
import HandS.Zip
import HandS.Conv
import HandS.Strs
import HandS.HeadEnd
import HandS.HeadHook1
import HandS.HeadHook2
import HandS.Head0
import HandS.Head1
import HandS.Head2
import HandS.Exc
import HandS.ExcOwn
import KE.KExcIs
import HandS.TupAny
import HandS.TupMul
import HandS.Style
import PyProof.Rows.ListMulArg
import HandS.WordsDict
import HandS.More
import KE.GoesZip
import KE.GoesEnum
import HandS.Small
import HandS.SetFor
import PyProof.Rows.SetFrom
import KE.DataMinMax
import PySem.Challenge.RW_stillrow_k12_still_programs_known
set_option Elab.async false
set_option linter.all false
set_option maxRecDepth 100000
set_option maxHeartbeats 2000000
set_option autoImplicit false
/-! The plain reading of defs: values as data, lists that a name owns, all else frozen. -/
namespace Sl
open PySem L2 Evl
abbrev D := PyData
/-- what a name holds: a thing that stays; a list of its own; a list handed in to be changed -/
inductive Cel where
  | fz (d : D)
  | ow (d : D)
  | io (d : D)
def Cel.d : Cel → D
  | .fz d => d
  | .ow d => d
  | .io d => d
def Cel.own : Cel → Bool
  | .fz _ => false
  | _ => true
abbrev En := List (Option Cel)
/-- what an expression gives: a thing that stays; a new list; what a name owns -/
inductive R where
  | v (d : D)
  | n (d : D)
  | b (i : Nat)
abbrev M (α : Type) := En → Option (α × En)

/-! ### data in the heap -/
def kD : Key → D
  | .inl i => .int i
  | .inr z => .str z
/-- an exception of the class cls, its dict at d -/
def ExT (cls : Value) (d : Option Addr) (a : Addr) : HO := .ext fun h => ∃ (oe : Obj) (vs : Array Value), h.get? a = some oe ∧ Zc cls d oe ∧ oe.data = .fields vs
/-- the program's classes of exceptions -/
def excNames : List Str := ["StillError", "BadMemory", "NoText", "Ended", "TooMany", "TooLong", "NotClosed", "NotPlain", "NotRows", "NoPlace", "NoLine", "NoBack"]
/-- what is known of a class of exceptions at C, its name n at the top -/
structure ExcCls (K : PySem.W.Frag) (n : Str) (C : Addr) : Prop where
  kn : n ∈ excNames
  nm : PySem.W.nsIn K mainGlobals n = some (some (.ref C))
  cl : (PySem.W.clsIn K C).isSome = true
  hg : PySem.W.findIn K (.ref C) "__getattribute__" = some (some (.builtin "BaseException.__getattribute__"))
  hk : ∃ gt, PySem.W.findIn K (.ref C) "__getattr__" = some gt
  hs : PySem.W.subIn K (.ref C) (.type "BaseException") = some true
  ha : PySem.W.findIn K (.ref C) "__class__" = some (some (.builtin "object.__class__"))
  hn : PySem.W.specialIn K (.builtin "object.__class__") "__get__" = some (some (.builtin "getset_descriptor.__get__"))
  ht : PySem.W.takesIn K (.builtin "object.__class__") = some true
  hm : PySem.W.mroIn K C (.type "object") = some true
  ty : ∀ (T : String) (b : Bool), kitB "ValueError" T = some b → PySem.W.kitOne K (.ref C) (.type T) = some b
/-- an exception as data: its class's name, what it bears as at -/
@[reducible] def excD (n : Str) (at_ : D) : D := .dict [(.none, .str n), (.none, at_)]
/-- a dict, no exception -/
def nx : List (D × D) → Bool
  | (.none, _) :: _ => false
  | _ => true
mutual
inductive Rep (K : PySem.W.Frag) (F : Hp) : V → D → Prop
  | non : Rep K F .non .none
  | bl (b : Bool) : Rep K F (.bl b) (.bool b)
  | int (i : Int) : Rep K F (.int i) (.int i)
  | str (x : Str) : Rep K F (.str x) (.str x)
  | lst {a : Addr} {xs : List V} {ds : List D} : SqL K F a xs → RepA K F xs ds → Rep K F (.ref a) (.list ds)
  | tup {a : Addr} {xs : List V} {ds : List D} : SqT K F a xs → RepA K F xs ds → Rep K F (.ref a) (.tuple ds)
  | dct {a : Addr} {ks : List Key} {xs : List V} {ds : List D} : F a = some (.dK (ks.zip xs)) → ks.length = xs.length → ks.Nodup → RepA K F xs ds → Rep K F (.ref a) (.dict ((ks.map kD).zip ds))
  | exc {a C : Addr} {n : Str} : ExcCls K n C → F a = some (ExT (.ref C) none a) → Rep K F (.ref a) (excD n .none)
  | excA {a C dx : Addr} {n : Str} {i : Int} : ExcCls K n C → F a = some (ExT (.ref C) (some dx) a) → F dx = some (.xd [("at", .int i)]) → Rep K F (.ref a) (excD n (.int i))
inductive RepA (K : PySem.W.Frag) (F : Hp) : List V → List D → Prop
  | nil : RepA K F [] []
  | cons {v : V} {vs : List V} {d : D} {ds : List D} : Rep K F v d → RepA K F vs ds → RepA K F (v :: vs) (d :: ds)
end
section
variable {K : PySem.W.Frag} {F F' H H' : Hp}
theorem nx_kD : ∀ {ks : List Key} {ds : List D}, nx ((ks.map kD).zip ds) = true
  | [], _ => rfl
  | _ :: _, [] => rfl
  | k :: ks, d :: ds => by cases k <;> rfl
mutual
theorem Rep.mono (e : Ex F F') : ∀ {v : V} {d : D}, Rep K F v d → Rep K F' v d
  | _, _, .non => .non
  | _, _, .bl b => .bl b
  | _, _, .int i => .int i
  | _, _, .str x => .str x
  | _, _, .lst h r => .lst (ex_l e h) (RepA.mono e r)
  | _, _, .tup h r => .tup (ex_t e h) (RepA.mono e r)
  | _, _, .dct h l n r => .dct (e _ _ h) l n (RepA.mono e r)
  | _, _, .exc n h => .exc n (e _ _ h)
  | _, _, .excA n h g => .excA n (e _ _ h) (e _ _ g)
theorem RepA.mono (e : Ex F F') : ∀ {vs : List V} {ds : List D}, RepA K F vs ds → RepA K F' vs ds
  | _, _, .nil => .nil
  | _, _, .cons h r => .cons (Rep.mono e h) (RepA.mono e r)
end
mutual
theorem Rep.dp : ∀ {v : V} {d : D}, d.canLay0 = true → Rep K F v d → Dp K F v d
  | _, _, _, .non => .non
  | _, _, _, .bl b => .bl b
  | _, _, _, .int i => .int i
  | _, _, _, .str x => .str x
  | _, _, c, .lst h r => .lst h (RepA.dp c r)
  | _, _, c, .tup h r => .tup h (RepA.dp c r)
theorem RepA.dp : ∀ {vs : List V} {ds : List D}, PyData.canLayAll0 ds = true → RepA K F vs ds → DpAll K F vs ds
  | _, _, _, .nil => .nil
  | _, _, c, .cons h r => by
    have c' := Bool.and_eq_true_iff.mp (show (_ && _) = true from c)
    exact .cons (Rep.dp c'.1 h) (RepA.dp c'.2 r)
end
theorem RepA.length : ∀ {vs : List V} {ds : List D}, RepA K F vs ds → vs.length = ds.length
  | _, _, .nil => rfl
  | _, _, .cons _ r => congrArg (· + 1) (RepA.length r)
theorem RepA.get : ∀ {vs : List V} {ds : List D} {i : Nat} {d : D}, RepA K F vs ds → ds[i]? = some d → ∃ v, vs[i]? = some v ∧ Rep K F v d
  | _, _, _, _, .nil, e => by simp at e
  | _, _, 0, _, .cons h _, e => by simp at e; subst e; exact ⟨_, rfl, h⟩
  | _, _, i + 1, d, .cons _ r, e => by
    obtain ⟨v, h1, h2⟩ := RepA.get (i := i) (d := d) r (by simpa using e)
    exact ⟨v, by simpa using h1, h2⟩
theorem RepA.getV : ∀ {vs : List V} {ds : List D} {i : Nat} {v : V}, RepA K F vs ds → vs[i]? = some v → ∃ d, ds[i]? = some d ∧ Rep K F v d
  | _, _, _, _, .nil, e => by simp at e
  | _, _, 0, _, .cons h _, e => by simp at e; subst e; exact ⟨_, rfl, h⟩
  | _, _, i + 1, v, .cons _ r, e => by
    obtain ⟨d, h1, h2⟩ := RepA.getV (i := i) (v := v) r (by simpa using e)
    exact ⟨d, by simpa using h1, h2⟩
theorem RepA.append : ∀ {vs ws : List V} {ds es : List D}, RepA K F vs ds → RepA K F ws es → RepA K F (vs ++ ws) (ds ++ es)
  | _, _, _, _, .nil, h => h
  | _, _, _, _, .cons h r, q => .cons h (RepA.append r q)
theorem RepA.set : ∀ {vs : List V} {ds : List D} {v : V} {d : D} (i : Nat), RepA K F vs ds → Rep K F v d → RepA K F (vs.set i v) (ds.set i d)
  | _, _, _, _, _, .nil, _ => .nil
  | _, _, _, _, 0, .cons _ r, q => .cons q r
  | _, _, _, _, i + 1, .cons h r, q => .cons h (RepA.set i r q)
theorem RepA.take : ∀ {vs : List V} {ds : List D} (n : Nat), RepA K F vs ds → RepA K F (vs.take n) (ds.take n)
  | _, _, 0, _ => .nil
  | _, _, _ + 1, .nil => .nil
  | _, _, n + 1, .cons h r => .cons h (RepA.take n r)
theorem RepA.drop : ∀ {vs : List V} {ds : List D} (n : Nat), RepA K F vs ds → RepA K F (vs.drop n) (ds.drop n)
  | _, _, 0, r => r
  | _, _, _ + 1, .nil => .nil
  | _, _, n + 1, .cons _ r => RepA.drop n r
theorem RepA.eraseIdx : ∀ {vs : List V} {ds : List D} (n : Nat), RepA K F vs ds → RepA K F (vs.eraseIdx n) (ds.eraseIdx n)
  | _, _, _, .nil => .nil
  | _, _, 0, .cons _ r => r
  | _, _, n + 1, .cons h r => .cons h (RepA.eraseIdx n r)
theorem RepA.rep {vs : List V} {ds : List D} (h : RepA K F vs ds) : ∀ k : Nat, RepA K F (List.replicate k vs).flatten (List.replicate k ds).flatten
  | 0 => .nil
  | k + 1 => by
    rw [List.replicate_succ, List.replicate_succ, List.flatten_cons, List.flatten_cons]
    exact h.append (RepA.rep h k)
theorem RepA.reverse : ∀ {vs : List V} {ds : List D}, RepA K F vs ds → RepA K F vs.reverse ds.reverse
  | _, _, .nil => .nil
  | _, _, .cons h r => by
    rw [List.reverse_cons, List.reverse_cons]
    exact (RepA.reverse r).append (.cons h .nil)
theorem RepA.dropLast {vs : List V} {ds : List D} (h : RepA K F vs ds) : RepA K F vs.dropLast ds.dropLast := by
  rw [List.dropLast_eq_take, List.dropLast_eq_take, h.length]
  exact h.take _
theorem RepA.insertIdx : ∀ {vs : List V} {ds : List D} {v : V} {d : D} (n : Nat), RepA K F vs ds → Rep K F v d → RepA K F (vs.insertIdx n v) (ds.insertIdx n d)
  | _, _, _, _, 0, .nil, h => .cons h .nil
  | _, _, _, _, _ + 1, .nil, _ => .nil
  | _, _, _, _, 0, .cons h r, q => .cons q (.cons h r)
  | _, _, _, _, n + 1, .cons h r, q => .cons h (RepA.insertIdx n r q)
end
/-- what a name owns: a list, a dict of int and text keys -/
def RepO (K : PySem.W.Frag) (F : Hp) : HO → D → Prop
  | .lst vs, .list ds => RepA K F vs ds
  | .dK kvs, .dict es => ∃ (ks : List Key) (vs : List V) (ds : List D), kvs = ks.zip vs ∧ es = (ks.map kD).zip ds ∧ ks.length = vs.length ∧ ks.Nodup ∧ RepA K F vs ds
  | _, _ => False
theorem RepO.mono {K : PySem.W.Frag} {F F' : Hp} (e : Ex F F') {o : HO} {d : D} (h : RepO K F o d) : RepO K F' o d := by
  cases o <;> cases d <;> first | exact RepA.mono e h | (obtain ⟨ks, vs, ds, h1, h2, h3, h4, h5⟩ := h; exact ⟨ks, vs, ds, h1, h2, h3, h4, RepA.mono e h5⟩) | exact h.elim
theorem RepO.any {K : PySem.W.Frag} {F : Hp} {o : HO} {d : D} (h : RepO K F o d) : (∃ vs ds, o = .lst vs ∧ d = .list ds ∧ RepA K F vs ds) ∨
    ∃ (ks : List Key) (vs : List V) (ds : List D), o = .dK (ks.zip vs) ∧ d = .dict ((ks.map kD).zip ds) ∧ ks.length = vs.length ∧ ks.Nodup ∧ RepA K F vs ds := by
  cases o <;> cases d <;> first | exact .inl ⟨_, _, rfl, rfl, h⟩ | (obtain ⟨ks, vs, ds, h1, h2, h3, h4, h5⟩ := h; subst h1; subst h2; exact .inr ⟨ks, vs, ds, rfl, rfl, h3, h4, h5⟩) | exact h.elim
theorem RepO.list {K : PySem.W.Frag} {F : Hp} {o : HO} {ds : List D} (h : RepO K F o (.list ds)) : ∃ vs, o = .lst vs ∧ RepA K F vs ds := by
  cases o <;> first | exact ⟨_, rfl, h⟩ | exact h.elim
theorem RepO.frozen {K : PySem.W.Frag} {F : Hp} {a : Addr} {o : HO} {d : D} (h : RepO K F o d) (ha : F a = some o) : Rep K F (.ref a) d := by
  rcases h.any with ⟨vs, ds, rfl, rfl, r⟩ | ⟨ks, vs, ds, rfl, rfl, l, n, r⟩
  · exact .lst (sq_of ha) r
  · exact .dct ha l n r

/-! ### dicts of int and text keys -/
def keyB : D → Bool
  | .int _ => true
  | .str _ => true
  | _ => false
def eqK : D → D → Bool
  | .int i, .int j => decide (i = j)
  | .str a, .str b => decide (a = b)
  | _, _ => false
def dFind (k : D) : List (D × D) → Option D
  | [] => none
  | (a, v) :: r => if eqK a k = true then some v else dFind k r
def dPut (k v : D) : List (D × D) → List (D × D)
  | [] => [(k, v)]
  | (a, w) :: r => if eqK a k = true then (a, v) :: r else (a, w) :: dPut k v r
def KvR (K : PySem.W.Frag) (F : Hp) : List (Key × V) → List (D × D) → Prop
  | [], [] => True
  | p :: kvs, q :: es => q.1 = kD p.1 ∧ Rep K F p.2 q.2 ∧ KvR K F kvs es
  | _, _ => False
section
variable {K : PySem.W.Frag} {F F' : Hp}
theorem KvR.of : ∀ {ks : List Key} {vs : List V} {ds : List D}, ks.length = vs.length → RepA K F vs ds → KvR K F (ks.zip vs) ((ks.map kD).zip ds)
  | [], _, _, _, _ => by simp [KvR]
  | k :: ks, _, _, l, .nil => by simp at l
  | k :: ks, _, _, l, .cons h r => ⟨rfl, h, KvR.of (by simpa using l) r⟩
theorem KvR.to : ∀ {kvs : List (Key × V)} {es : List (D × D)}, KvR K F kvs es → ∃ ks vs ds, kvs = ks.zip vs ∧ es = (ks.map kD).zip ds ∧ ks.length = vs.length ∧ RepA K F vs ds ∧ ks = kvs.map (·.1)
  | [], [], _ => ⟨[], [], [], rfl, rfl, rfl, .nil, rfl⟩
  | (k, v) :: kvs, (e, d) :: es, ⟨h1, h2, h3⟩ => by
    obtain ⟨ks, vs, ds, rfl, rfl, l, r, e2⟩ := KvR.to h3
    cases (show e = kD k from h1)
    exact ⟨k :: ks, v :: vs, d :: ds, rfl, rfl, by simp [l], .cons h2 r, by simp [← e2]⟩
theorem KvR.length : ∀ {kvs : List (Key × V)} {es : List (D × D)}, KvR K F kvs es → kvs.length = es.length
  | [], [], _ => rfl
  | _ :: _, _ :: _, ⟨_, _, h⟩ => by simp [KvR.length h]
theorem eqK_kD {a b : Key} : eqK (kD a) (kD b) = decide (a = b) := by
  cases a <;> cases b <;> simp [kD, eqK]
theorem KvR.find {k : Key} : ∀ {kvs : List (Key × V)} {es : List (D × D)}, KvR K F kvs es → match dFind (kD k) es with
    | some d => ∃ v, valV kvs k = some v ∧ Rep K F v d
    | none => valV kvs k = none
  | [], [], _ => rfl
  | (a, v) :: kvs, (e, d) :: es, ⟨h1, h2, h3⟩ => by
    cases (show e = kD a from h1)
    unfold dFind
    rw [eqK_kD]
    by_cases h : a = k
    · simp only [h, decide_true, if_true]
      exact ⟨v, valV_pos (by rfl), h2⟩
    · simp only [h, decide_false, Bool.false_eq_true, if_false]
      rw [valV_neg (by exact h)]
      exact KvR.find h3
theorem valV_mem {k : Key} : ∀ {kvs : List (Key × V)}, (valV kvs k).isSome = true ↔ k ∈ kvs.map (·.1)
  | [] => by simp [valV_nil]
  | (a, v) :: kvs => by
    by_cases h : a = k
    · rw [valV_pos (by exact h)]; simp [h]
    · rw [valV_neg (by exact h), valV_mem, List.map_cons, List.mem_cons]
      constructor
      · exact .inr
      · rintro (e | e)
        · exact (h e.symm).elim
        · exact e
theorem putK_cons {a k : Key} {v w : V} {kvs : List (Key × V)} (h : ¬ a = k) : putK ((a, w) :: kvs) k v = (a, w) :: putK kvs k v := by
  unfold putK
  simp only [List.any_cons, h, decide_false, Bool.false_or, List.map_cons, if_false]
  split <;> simp
theorem map_same {k : Key} {v : V} : ∀ {kvs : List (Key × V)}, ¬ k ∈ kvs.map (·.1) → (kvs.map fun kv => if kv.1 = k then (kv.1, v) else kv) = kvs
  | [], _ => rfl
  | (a, w) :: kvs, h => by
    rw [List.map_cons, List.mem_cons] at h
    have h1 : ¬ a = k := fun e => h (.inl e.symm)
    rw [List.map_cons, map_same fun q => h (.inr q)]
    simp [h1]
theorem putK_hit {k : Key} {v w : V} {kvs : List (Key × V)} (h : ¬ k ∈ kvs.map (·.1)) : putK ((k, w) :: kvs) k v = (k, v) :: kvs := by
  unfold putK
  simp only [List.any_cons, decide_true, Bool.true_or, if_true, List.map_cons]
  rw [map_same h]
theorem KvR.put {k : Key} {v : V} {d : D} (hv : Rep K F v d) : ∀ {kvs : List (Key × V)} {es : List (D × D)}, KvR K F kvs es → (kvs.map (·.1)).Nodup → KvR K F (putK kvs k v) (dPut (kD k) d es)
  | [], [], _, _ => ⟨rfl, hv, trivial⟩
  | (a, w) :: kvs, (e, d') :: es, ⟨h1, h2, h3⟩, n => by
    cases (show e = kD a from h1)
    rw [List.map_cons, List.nodup_cons] at n
    unfold dPut
    rw [eqK_kD]
    by_cases h : a = k
    · subst h
      rw [putK_hit n.1]
      simp only [decide_true, if_true]
      exact ⟨rfl, hv, h3⟩
    · rw [putK_cons h]
      simp only [h, decide_false, Bool.false_eq_true, if_false]
      exact ⟨rfl, h2, KvR.put hv h3 n.2⟩
theorem putK_keys {k : Key} {v : V} : ∀ {kvs : List (Key × V)}, (k ∈ kvs.map (·.1) ∧ (putK kvs k v).map (·.1) = kvs.map (·.1)) ∨ (¬ k ∈ kvs.map (·.1) ∧ (putK kvs k v).map (·.1) = kvs.map (·.1) ++ [k])
  | [] => .inr ⟨by simp, rfl⟩
  | (a, w) :: kvs => by
    by_cases h : a = k
    · subst h
      refine .inl ⟨by simp, ?_⟩
      unfold putK
      simp only [List.any_cons, decide_true, Bool.true_or, if_true, List.map_map]
      refine List.map_congr_left fun x _ => ?_
      show (if x.1 = a then (x.1, v) else x).1 = x.1
      split <;> rfl
    · rw [putK_cons h, List.map_cons, List.map_cons]
      have h' : ¬ k = a := fun e => h e.symm
      rcases putK_keys (k := k) (v := v) (kvs := kvs) with ⟨m, e⟩ | ⟨m, e⟩
      · exact .inl ⟨List.mem_cons_of_mem _ m, by rw [e]⟩
      · refine .inr ⟨fun q => ?_, by rw [e]; rfl⟩
        rcases List.mem_cons.mp q with q | q
        · exact h' q
        · exact m q
theorem putK_nodup {k : Key} {v : V} {kvs : List (Key × V)} (n : (kvs.map (·.1)).Nodup) : ((putK kvs k v).map (·.1)).Nodup := by
  rcases putK_keys (k := k) (v := v) (kvs := kvs) with ⟨m, e⟩ | ⟨h, e⟩
  · rw [e]; exact n
  · rw [e, List.nodup_append]
    exact ⟨n, by simp, fun a ha b hb ea => by simp at hb; subst hb; subst ea; exact h ha⟩
theorem zip_keys {ks : List Key} {vs : List V} (l : ks.length = vs.length) : (ks.zip vs).map (·.1) = ks := by
  rw [List.map_fst_zip (Nat.le_of_eq l)]
theorem RepO.dict {o : HO} {es : List (D × D)} (h : RepO K F o (.dict es)) : ∃ kvs, o = .dK kvs ∧ KvR K F kvs es ∧ (kvs.map (·.1)).Nodup := by
  rcases h.any with ⟨_, _, _, e, _⟩ | ⟨ks, vs, ds, rfl, e, l, n, r⟩
  · cases e
  · cases e
    exact ⟨_, rfl, KvR.of l r, by rw [zip_keys l]; exact n⟩
theorem RepO.of_dict {kvs : List (Key × V)} {es : List (D × D)} (h : KvR K F kvs es) (n : (kvs.map (·.1)).Nodup) : RepO K F (.dK kvs) (.dict es) := by
  obtain ⟨ks, vs, ds, rfl, rfl, l, r, e⟩ := h.to
  exact ⟨ks, vs, ds, rfl, rfl, l, by rw [zip_keys l] at n; exact n, r⟩
end

/-! ### the state -/
/-- the addresses that names own -/
def Own (σ : L2.St) (e : En) (a : Addr) : Prop := ∃ (i : Nat) (s : Cel), e[i]? = some (some s) ∧ s.own = true ∧ σ[i]? = some (some (.ref a))
structure RelE (K : PySem.W.Frag) (F H : Hp) (σ : L2.St) (e : En) : Prop where
  len : σ.length = e.length
  sub : Ex F H
  fz : ∀ (i : Nat) (d : D), e[i]? = some (some (.fz d)) → ∃ v, σ[i]? = some (some v) ∧ Rep K F v d
  ow : ∀ (i : Nat) (s : Cel), e[i]? = some (some s) → s.own = true → ∃ (a : Addr) (o : HO), σ[i]? = some (some (.ref a)) ∧ F a = none ∧ H a = some o ∧ RepO K F o s.d
  ds : ∀ (i j : Nat) (s t : Cel) (a : Addr), e[i]? = some (some s) → s.own = true → e[j]? = some (some t) → t.own = true → σ[i]? = some (some (.ref a)) → σ[j]? = some (some (.ref a)) → i = j
/-- a step: what was frozen stays so; what no name owned is as it was -/
structure Stp (O : Addr → Prop) (F H F' H' : Hp) : Prop where
  ff : Ex F F'
  hh : ∀ a o, H a = some o → ¬ O a → H' a = some o
  old : ∀ a, H a ≠ none → ¬ O a → F' a = F a
  dom : ∀ a, H a ≠ none → H' a ≠ none
structure Shp (e e' : En) : Prop where
  own : ∀ (i : Nat) (s' : Cel), e'[i]? = some (some s') → s'.own = true → ∃ s : Cel, e[i]? = some (some s) ∧ s.own = true
  io : ∀ (i : Nat) (d : D), e[i]? = some (some (.io d)) → ∃ d' : D, e'[i]? = some (some (.io d'))
  ow : ∀ (i : Nat) (d' : D), e'[i]? = some (some (.io d')) → ∃ d : D, e[i]? = some (some (.io d))
structure Pst (K : PySem.W.Frag) (F H : Hp) (σ : L2.St) (e : En) (F' H' : Hp) (e' : En) : Prop where
  stp : Stp (Own σ e) F H F' H'
  rel : RelE K F' H' σ e'
  shp : Shp e e'
/-- what an expression's value is -/
def RepR (K : PySem.W.Frag) (F' H' H : Hp) (σ : L2.St) (v : V) : R → Prop
  | .v d => Rep K F' v d
  | .n d => ∃ a o, v = .ref a ∧ H a = none ∧ F' a = none ∧ H' a = some o ∧ RepO K F' o d
  | .b i => σ[i]? = some (some v)
section
variable {K : PySem.W.Frag} {F H F1 H1 F2 H2 F' H' : Hp} {σ : L2.St} {e e1 e2 : En}
theorem Stp.refl {O : Addr → Prop} : Stp O F H F H := ⟨Ex.refl F, fun _ _ h _ => h, fun _ _ _ => rfl, fun _ h => h⟩
theorem Stp.trans {O O1 : Addr → Prop} (s1 : Stp O F H F1 H1) (s2 : Stp O1 F1 H1 F2 H2) (h : ∀ a, O1 a → O a) : Stp O F H F2 H2 where
  ff := s1.ff.trans s2.ff
  hh := fun a o ha hn => s2.hh a o (s1.hh a o ha hn) fun z => hn (h a z)
  old := fun a ha hn => (s2.old a (s1.dom a ha) fun z => hn (h a z)).trans (s1.old a ha hn)
  dom := fun a ha => s2.dom a (s1.dom a ha)
theorem Shp.refl : Shp e e := ⟨fun _ s h q => ⟨s, h, q⟩, fun _ d h => ⟨d, h⟩, fun _ d h => ⟨d, h⟩⟩
theorem Shp.trans (a : Shp e e1) (b : Shp e1 e2) : Shp e e2 where
  own := fun i s' h q => by
    obtain ⟨s, h1, q1⟩ := b.own i s' h q
    exact a.own i s h1 q1
  io := fun i d h => by
    obtain ⟨d', h1⟩ := a.io i d h
    exact b.io i d' h1
  ow := fun i d h => by
    obtain ⟨d', h1⟩ := b.ow i d h
    exact a.ow i d' h1
theorem Shp.sub (a : Shp e e1) : ∀ x, Own σ e1 x → Own σ e x := fun x ⟨i, s, h1, h2, h3⟩ => by
  obtain ⟨s', h4, h5⟩ := a.own i s h1 h2
  exact ⟨i, s', h4, h5, h3⟩
theorem Pst.refl (r : RelE K F H σ e) : Pst K F H σ e F H e := ⟨Stp.refl, r, Shp.refl⟩
theorem Pst.trans (a : Pst K F H σ e F1 H1 e1) (b : Pst K F1 H1 σ e1 F2 H2 e2) : Pst K F H σ e F2 H2 e2 :=
  ⟨a.stp.trans b.stp a.shp.sub, b.rel, a.shp.trans b.shp⟩
theorem RelE.ownH (r : RelE K F H σ e) {a : Addr} (h : Own σ e a) : H a ≠ none ∧ F a = none := by
  obtain ⟨i, s, h1, h2, h3⟩ := h
  obtain ⟨a', o, q1, q2, q3, _⟩ := r.ow i s h1 h2
  rw [h3] at q1
  cases q1
  exact ⟨by rw [q3]; simp, q2⟩
/-- what is new is owned by no name -/
theorem RelE.newNot (r : RelE K F H σ e) {a : Addr} (h : H a = none) : ¬ Own σ e a := fun z => (r.ownH z).1 h
/-- a pending value stays -/
theorem RepR.step (r : RelE K F H σ e) (p1 : Pst K F H σ e F1 H1 e1) (p2 : Pst K F1 H1 σ e1 F2 H2 e2) {v : V} {x : R} (h : RepR K F1 H1 H σ v x) : RepR K F2 H2 H σ v x := by
  cases x with
  | v d => exact Rep.mono p2.stp.ff h
  | b i => exact h
  | n d =>
    obtain ⟨a, o, q1, q2, q3, q4, q5⟩ := h
    have nO : ¬ Own σ e1 a := fun z => r.newNot q2 (p1.shp.sub a z)
    exact ⟨a, o, q1, q2, (p2.stp.old a (by rw [q4]; simp) nO).trans q3, p2.stp.hh a o q4 nO, q5.mono p2.stp.ff⟩
/-- growth by new objects alone -/
structure Grow (F H F' H' : Hp) : Prop where
  ff : Ex F F'
  hh : Ex H H'
  old : ∀ a, H a ≠ none → F' a = F a
  sub : Ex F' H'
theorem Grow.refl (h : Ex F H) : Grow F H F H := ⟨Ex.refl F, Ex.refl H, fun _ _ => rfl, h⟩
theorem ex_dom (h : Ex H H') {a : Addr} (q : H a ≠ none) : H' a ≠ none := fun z => by
  cases e : H a with
  | none => exact q e
  | some o => rw [h a o e] at z; cases z
theorem Grow.trans (a : Grow F H F1 H1) (b : Grow F1 H1 F2 H2) : Grow F H F2 H2 :=
  ⟨a.ff.trans b.ff, a.hh.trans b.hh, fun x h => (b.old x (ex_dom a.hh h)).trans (a.old x h), b.sub⟩
theorem Grow.rel (g : Grow F H F' H') (r : RelE K F H σ e) : RelE K F' H' σ e where
  len := r.len
  sub := g.sub
  fz := fun i d h => by
    obtain ⟨v, h1, h2⟩ := r.fz i d h
    exact ⟨v, h1, h2.mono g.ff⟩
  ow := fun i s h q => by
    obtain ⟨a, o, h1, h2, h3, h4⟩ := r.ow i s h q
    exact ⟨a, o, h1, (g.old a (by rw [h3]; simp)).trans h2, g.hh a o h3, h4.mono g.ff⟩
  ds := r.ds
theorem Grow.pst (g : Grow F H F' H') (r : RelE K F H σ e) : Pst K F H σ e F' H' e :=
  ⟨⟨g.ff, fun a o h _ => g.hh a o h, fun a h _ => g.old a h, fun a h => ex_dom g.hh h⟩, g.rel r, Shp.refl⟩
/-- a new object, frozen at once -/
theorem Grow.new {p : Addr} {o : HO} (s : Ex F H) (h : H p = none) : Grow F H (upd F p o) (upd H p o) := by
  have hF : F p = none := fresh_back s h
  refine ⟨Ex.new hF, Ex.new h, fun a ha => ?_, fun a u ha => ?_⟩
  · rw [upd_ne]
    rintro rfl
    exact ha h
  · by_cases e : a = p
    · subst e
      rw [upd_same] at ha ⊢
      exact ha
    · rw [upd_ne e] at ha ⊢
      exact s a u ha
/-- a new object that nothing holds yet -/
theorem Grow.loose {p : Addr} {o : HO} (s : Ex F H) (h : H p = none) : Grow F H F (upd H p o) :=
  ⟨Ex.refl F, Ex.new h, fun _ _ => rfl, s.trans (Ex.new h)⟩
end

/-! ### a value as it is looked at -/
def View (K : PySem.W.Frag) (F H : Hp) (v : V) (d : D) : Prop := Rep K F v d ∨ ∃ a o, v = .ref a ∧ H a = some o ∧ RepO K F o d
section
variable {K : PySem.W.Frag} {F H F' H' : Hp} {v : V}
theorem View.lst {ds : List D} (s : Ex F H) (h : View K F H v (.list ds)) : ∃ a xs, v = .ref a ∧ SqL K H a xs ∧ RepA K F xs ds := by
  rcases h with h | ⟨a, o, rfl, ha, ho⟩
  · cases h with
    | lst h r => exact ⟨_, _, rfl, ex_l s h, r⟩
  · obtain ⟨vs, rfl, r⟩ := ho.list
    exact ⟨a, vs, rfl, sq_of ha, r⟩
theorem View.tup {ds : List D} (s : Ex F H) (h : View K F H v (.tuple ds)) : ∃ a xs, v = .ref a ∧ SqT K H a xs ∧ RepA K F xs ds := by
  rcases h with h | ⟨a, o, rfl, ha, ho⟩
  · cases h with
    | tup h r => exact ⟨_, _, rfl, ex_t s h, r⟩
  · cases o <;> exact ho.elim
theorem View.int {i : Int} (h : View K F H v (.int i)) : v = .int i := by
  rcases h with h | ⟨a, o, rfl, ha, ho⟩
  · cases h; rfl
  · cases o <;> exact ho.elim
theorem View.bl {i : Bool} (h : View K F H v (.bool i)) : v = .bl i := by
  rcases h with h | ⟨a, o, rfl, ha, ho⟩
  · cases h; rfl
  · cases o <;> exact ho.elim
theorem View.str {i : Str} (h : View K F H v (.str i)) : v = .str i := by
  rcases h with h | ⟨a, o, rfl, ha, ho⟩
  · cases h; rfl
  · cases o <;> exact ho.elim
theorem View.non (h : View K F H v .none) : v = .non := by
  rcases h with h | ⟨a, o, rfl, ha, ho⟩
  · cases h; rfl
  · cases o <;> exact ho.elim
theorem View.nonI {d : D} (h : View K F H v d) : (decide (v = .non)) = (match d with | .none => true | _ => false) := by
  rcases h with h | ⟨a, o, rfl, ha, ho⟩
  · cases h <;> rfl
  · rcases ho.any with ⟨_, _, _, rfl, _⟩ | ⟨_, _, _, _, rfl, _⟩ <;> rfl
theorem RepA.mem {vs : List V} {ds : List D} (h : RepA K F vs ds) {v : V} (hv : v ∈ vs) : ∃ d, d ∈ ds ∧ Rep K F v d := by
  obtain ⟨i, hi⟩ := List.getElem?_of_mem hv
  obtain ⟨d, h1, h2⟩ := h.getV hi
  exact ⟨d, List.mem_of_getElem? h1, h2⟩
theorem View.dp {d : D} (c : d.canLay0 = true) (s : Ex F H) (h : View K F H v d) : Dp K H v d := by
  rcases h with h | ⟨a, o, rfl, ha, ho⟩
  · exact (h.mono s).dp c
  · rcases ho.any with ⟨vs, ds, rfl, rfl, r⟩ | ⟨_, _, _, _, rfl, _⟩
    · exact .lst (sq_of ha) (RepA.dp c (r.mono s))
    · cases c
theorem View.grow {d : D} (f : Ex F F') (g : Ex H H') (h : View K F H v d) : View K F' H' v d := by
  rcases h with h | ⟨a, o, rfl, ha, ho⟩
  · exact .inl (h.mono f)
  · exact .inr ⟨a, o, rfl, g a o ha, ho.mono f⟩
end

/-! ### pending values: a new one is frozen as soon as another is waited for -/
def R.nf : R → R
  | .n d => .v d
  | r => r
/-- what a pending value is worth -/
def R.get (e : En) : R → Option D
  | .v d => some d
  | .n d => some d
  | .b i => match e[i]? with
    | some (some s) => some s.d
    | _ => none
section
variable {K : PySem.W.Frag} {F H F1 H1 : Hp} {σ : L2.St} {e e1 : En}
theorem RelE.view (r : RelE K F1 H1 σ e1) {v : V} {x : R} {d : D} (h : RepR K F1 H1 H σ v x) (g : x.get e1 = some d) : View K F1 H1 v d := by
  cases x with
  | v d' => cases g; exact .inl h
  | n d' =>
    cases g
    obtain ⟨a, o, q1, q2, q3, q4, q5⟩ := h
    exact .inr ⟨a, o, q1, q4, q5⟩
  | b i =>
    have h : σ[i]? = some (some v) := h
    unfold R.get at g
    cases q : e1[i]? with
    | none => simp [q] at g
    | some s =>
      cases s with
      | none => simp [q] at g
      | some s =>
        simp only [q] at g
        cases g
        cases ho : s.own with
        | true =>
          obtain ⟨a, o, q1, q2, q3, q4⟩ := r.ow i s q ho
          rw [h] at q1
          cases q1
          exact .inr ⟨a, o, rfl, q3, q4⟩
        | false =>
          cases s with
          | fz d' =>
            obtain ⟨v', q1, q2⟩ := r.fz i d' q
            rw [h] at q1
            cases q1
            exact .inl q2
          | ow _ => cases ho
          | io _ => cases ho
/-- a new object taken into what is frozen -/
theorem Pst.freezeN (p : Pst K F H σ e F1 H1 e1) (r : RelE K F H σ e) {a : Addr} {o : HO} (h0 : H a = none) (h1 : F1 a = none) (h2 : H1 a = some o) : Pst K F H σ e (upd F1 a o) H1 e1 := by
  have nO : ¬ Own σ e a := r.newNot h0
  have nO1 : ¬ Own σ e1 a := fun z => nO (p.shp.sub a z)
  refine ⟨⟨p.stp.ff.trans (Ex.new h1), p.stp.hh, fun b hb hn => ?_, p.stp.dom⟩, ⟨p.rel.len, fun b u hb => ?_, fun i d h => ?_, fun i s h q => ?_, p.rel.ds⟩, p.shp⟩
  · rw [upd_ne (by rintro rfl; exact hb h0)]
    exact p.stp.old b hb hn
  · by_cases z : b = a
    · subst z
      rw [upd_same] at hb
      cases hb
      exact h2
    · rw [upd_ne z] at hb
      exact p.rel.sub b u hb
  · obtain ⟨v, q1, q2⟩ := p.rel.fz i d h
    exact ⟨v, q1, q2.mono (Ex.new h1)⟩
  · obtain ⟨b, u, q1, q2, q3, q4⟩ := p.rel.ow i s h q
    refine ⟨b, u, q1, ?_, q3, q4.mono (Ex.new h1)⟩
    rw [upd_ne]
    · exact q2
    · rintro rfl
      exact nO1 ⟨i, s, h, q, q1⟩
theorem RepR.nf (p : Pst K F H σ e F1 H1 e1) (r : RelE K F H σ e) {v : V} {x : R} (h : RepR K F1 H1 H σ v x) : ∃ F2, Pst K F H σ e F2 H1 e1 ∧ RepR K F2 H1 H σ v x.nf ∧ Ex F1 F2 := by
  cases x with
  | v d => exact ⟨F1, p, h, Ex.refl _⟩
  | b i => exact ⟨F1, p, h, Ex.refl _⟩
  | n d =>
    obtain ⟨a, o, rfl, q2, q3, q4, q5⟩ := h
    exact ⟨_, p.freezeN r q2 q3 q4, (q5.mono (Ex.new q3)).frozen upd_same, Ex.new q3⟩
/-- no new one pends -/
def R.still : R → Prop
  | .n _ => False
  | _ => True
theorem R.nf_still (x : R) : x.nf.still := by cases x <;> trivial
theorem RepR.stay {H2 : Hp} {H3 : Hp} {v : V} {x : R} (s : x.still) (f : Ex F F1) (h : RepR K F H H2 σ v x) : RepR K F1 H1 H3 σ v x := by
  cases x with
  | v d => exact Rep.mono f h
  | b i => exact h
  | n d => exact s.elim
end
section
variable {K : PySem.W.Frag} {F H : Hp} {v : V}
theorem RepO.nx {o : HO} {es : List (D × D)} (h : RepO K F o (.dict es)) : nx es = true := by
  rcases h.any with ⟨_, _, _, e, _⟩ | ⟨_, _, _, _, e, _⟩
  · cases e
  · cases e; exact nx_kD
theorem View.dict {es : List (D × D)} (s : Ex F H) (h : View K F H v (.dict es)) (n : nx es = true) : ∃ a kvs, v = .ref a ∧ H a = some (.dK kvs) ∧ KvR K F kvs es ∧ (kvs.map (·.1)).Nodup := by
  rcases h with h | ⟨a, o, rfl, ha, ho⟩
  · cases h with
    | dct h l nd r => exact ⟨_, _, rfl, s _ _ h, KvR.of l r, by rw [zip_keys l]; exact nd⟩
    | exc h g => cases n
    | excA h g k => cases n
  · obtain ⟨kvs, rfl, r, n⟩ := ho.dict
    exact ⟨a, kvs, rfl, ha, r, n⟩
theorem View.key {d : D} (h : View K F H v d) (b : keyB d = true) : ∃ k : Key, d = kD k ∧ v = kV k := by
  cases d with
  | int i => exact ⟨.inl i, rfl, h.int⟩
  | str z => exact ⟨.inr z, rfl, h.str⟩
  | _ => cases b
end
end Sl

set_option Elab.async false
set_option linter.all false
set_option maxRecDepth 100000
set_option maxHeartbeats 2000000
set_option autoImplicit false
/-! Expressions: what they are worth. -/
namespace Sl
open PySem L2 Evl
/-- what a reading is worth -/
def SemE (K : PySem.W.Frag) (t : TE) (f : M R) : Prop := ∀ (F H : Hp) (σ : L2.St) (e : En) (r : R) (e' : En), RelE K F H σ e → f e = some (r, e') →
  ∀ Q : VK, (∀ v F' H', Pst K F H σ e F' H' e' → RepR K F' H' H σ v r → Q v H') → t σ H Q
def SemT (K : PySem.W.Frag) (t : TT) (f : M Bool) : Prop := ∀ (F H : Hp) (σ : L2.St) (e : En) (b : Bool) (e' : En), RelE K F H σ e → f e = some (b, e') →
  ∀ Q : Bool → Hp → Prop, (∀ F' H', Pst K F H σ e F' H' e' → Q b H') → t σ H Q
def SemA (K : PySem.W.Frag) (t : TA) (f : M (List D)) : Prop := ∀ (F H : Hp) (σ : L2.St) (e : En) (ds : List D) (e' : En), RelE K F H σ e → f e = some (ds, e') →
  ∀ Q : List V → Hp → Prop, (∀ vs F' H', Pst K F H σ e F' H' e' → RepA K F' vs ds → Q vs H') → t σ H Q
/-- over a family of contexts: a def's body, or any block of a comprehension in it -/
def SoE {ι : Type} (K : PySem.W.Frag) (X : ι → Cx) (ex : Expr) (f : M R) : Prop := ∃ t, (∀ i, PE (X i) ex t) ∧ SemE K t f
def SoT {ι : Type} (K : PySem.W.Frag) (X : ι → Cx) (ex : Expr) (f : M Bool) : Prop := ∃ t, (∀ i, PT (X i) ex t) ∧ SemT K t f
/-- pieces of and, or -/
def SoW {ι : Type} (K : PySem.W.Frag) (X : ι → Cx) (ex : Expr) (f : M Bool) : Prop := ∃ t, (∀ i, PW (X i) ex t) ∧ SemT K t f
def SoA {ι : Type} (K : PySem.W.Frag) (X : ι → Cx) (es : List Expr) (f : M (List D)) : Prop := ∃ t, (∀ i, PA (X i) es t) ∧ SemA K t f

/-! ### combinators -/
def var (i : Nat) : M R := fun e => match e[i]? with
  | some (some (.fz d)) => some (.v d, e)
  | some (some _) => some (.b i, e)
  | _ => none
def con (d : D) : M R := fun e => some (.v d, e)
def bin (o : D → D → Option R) (fa fb : M R) : M R := fun e =>
  (fa e).bind fun p => (fb p.2).bind fun q => (p.1.get q.2).bind fun x => (q.1.get q.2).bind fun y => (o x y).map fun r => (r, q.2)
def una (o : D → Option R) (fa : M R) : M R := fun e => (fa e).bind fun p => (p.1.get p.2).bind fun x => (o x).map fun r => (r, p.2)
/-- a truth's value as a test -/
def tst (f : M R) : M Bool := fun e => (f e).bind fun p => (p.1.get p.2).bind fun x => match x with
  | .bool b => some (b, p.2)
  | _ => none
def andT (f g : M Bool) : M Bool := fun e => (f e).bind fun p => if p.1 then g p.2 else some (false, p.2)
def orT (f g : M Bool) : M Bool := fun e => (f e).bind fun p => if p.1 then some (true, p.2) else g p.2
def notT (f : M Bool) : M Bool := fun e => (f e).bind fun p => some (!p.1, p.2)
def andV (f g : M R) : M R := fun e => (tst f e).bind fun p => if p.1 then g p.2 else some (.v (.bool false), p.2)
def orV (f g : M R) : M R := fun e => (tst f e).bind fun p => if p.1 then some (.v (.bool true), p.2) else g p.2
def notV (f : M R) : M R := fun e => (tst f e).bind fun p => some (.v (.bool !p.1), p.2)
def ite (c : M Bool) (f g : M R) : M R := fun e => (c e).bind fun p => if p.1 then f p.2 else g p.2
/-- frozen: a new one as it is, an own one for good -/
def frz (r : R) (e : En) : Option (D × En) := match r with
  | .v d => some (d, e)
  | .n d => some (d, e)
  | .b i => match e[i]? with
    | some (some (.fz d)) => some (d, e)
    | some (some (.ow d)) => some (d, e.set i (some (.fz d)))
    | _ => none
def nilA : M (List D) := fun e => some ([], e)
def consA (f : M R) (g : M (List D)) : M (List D) := fun e => (f e).bind fun p => (frz p.1 p.2).bind fun q => (g q.2).bind fun s => some (q.1 :: s.1, s.2)
def tupE (f : M (List D)) : M R := fun e => (f e).bind fun p => if p.1.length ≤ sizeLine then some (.v (.tuple p.1), p.2) else none
def lstE (f : M (List D)) : M R := fun e => (f e).bind fun p => if p.1.length ≤ sizeLine then some (.n (.list p.1), p.2) else none

/-! ### growth by an operation -/
/-- what an operation on values gives -/
def OpL (K : PySem.W.Frag) (r : R2) (o : D → D → Option R) : Prop := ∀ (F H : Hp) (x y : V) (dx dy : D) (res : R), Ex F H → View K F H x dx → View K F H y dy → o dx dy = some res →
  ∀ Q : VK, (∀ v F' H', Grow F H F' H' → RepR K F' H' H [] v res → Q v H') → r x y H Q
def UnL (K : PySem.W.Frag) (r : V → Hp → VK → Prop) (o : D → Option R) : Prop := ∀ (F H : Hp) (x : V) (dx : D) (res : R), Ex F H → View K F H x dx → o dx = some res →
  ∀ Q : VK, (∀ v F' H', Grow F H F' H' → RepR K F' H' H [] v res → Q v H') → r x H Q
section
variable {K : PySem.W.Frag} {F H F1 H1 F2 H2 : Hp} {σ : L2.St} {e e1 e2 : En}
theorem RepR.wide {v : V} {r : R} (h : RepR K F1 H1 H [] v r) (d : ∀ a, H2 a ≠ none → H a ≠ none) : RepR K F1 H1 H2 σ v r := by
  cases r with
  | v d => exact h
  | b i => exact absurd (show ([] : L2.St)[i]? = some (some v) from h) (by simp)
  | n d' =>
    obtain ⟨a, o, q1, q2, q3⟩ := h
    refine ⟨a, o, q1, ?_, q3⟩
    cases z : H2 a with
    | none => rfl
    | some u => exact absurd q2 (d a (by rw [z]; simp))
theorem Stp.d0 (p : Pst K F H σ e F1 H1 e1) : ∀ a, H a ≠ none → H1 a ≠ none := p.stp.dom
/-- frozen, with all that went ahead -/
theorem frz_ok (p : Pst K F H σ e F1 H1 e1) (r : RelE K F H σ e) {v : V} {x : R} (h : RepR K F1 H1 H σ v x) {d : D} (g : frz x e1 = some (d, e2)) :
    ∃ F2, Pst K F H σ e F2 H1 e2 ∧ Rep K F2 v d ∧ Ex F1 F2 := by
  cases x with
  | v d' =>
    cases g
    exact ⟨F1, p, h, Ex.refl _⟩
  | n d' =>
    cases g
    obtain ⟨a, o, rfl, q2, q3, q4, q5⟩ := h
    exact ⟨_, p.freezeN r q2 q3 q4, (q5.mono (Ex.new q3)).frozen upd_same, Ex.new q3⟩
  | b i =>
    have h : σ[i]? = some (some v) := h
    unfold frz at g
    cases q : e1[i]? with
    | none => simp [q] at g
    | some s =>
      cases s with
      | none => simp [q] at g
      | some s =>
        cases s with
        | io d' => simp [q] at g
        | fz d' =>
          simp only [q, Option.some.injEq, Prod.mk.injEq] at g
          obtain ⟨rfl, rfl⟩ := g
          obtain ⟨v', q1, q2⟩ := p.rel.fz i d' q
          rw [h] at q1
          cases q1
          exact ⟨F1, p, q2, Ex.refl _⟩
        | ow d' =>
          simp only [q, Option.some.injEq, Prod.mk.injEq] at g
          obtain ⟨rfl, rfl⟩ := g
          obtain ⟨a, o, q1, q2, q3, q4⟩ := p.rel.ow i _ q rfl
          rw [h] at q1
          cases q1
          have Oa : Own σ e a := p.shp.sub a ⟨i, _, q, rfl, h⟩
          have hi : i < e1.length := (List.getElem?_eq_some_iff.mp q).1
          have gi : ∀ j, (e1.set i (some (.fz d')))[j]? = if j = i then some (some (.fz d')) else e1[j]? := fun j => by
            by_cases z : j = i
            · subst z; rw [List.getElem?_set_self hi, if_pos rfl]
            · rw [List.getElem?_set_ne (Ne.symm z), if_neg z]
          refine ⟨upd F1 a o, ⟨⟨p.stp.ff.trans (Ex.new q2), p.stp.hh, fun b hb hn => ?_, p.stp.dom⟩, ⟨by rw [p.rel.len, List.length_set], fun b u hb => ?_, fun j d h' => ?_, fun j s h' hs => ?_, fun j k s t b h1 s1 h2 s2 => ?_⟩, ⟨fun j s h' hs => ?_, fun j d h' => ?_, fun j d h' => ?_⟩⟩, (q4.mono (Ex.new q2)).frozen upd_same, Ex.new q2⟩
          · rw [upd_ne (by rintro rfl; exact hn Oa)]
            exact p.stp.old b hb hn
          · by_cases z : b = a
            · subst z
              rw [upd_same] at hb
              cases hb
              exact q3
            · rw [upd_ne z] at hb
              exact p.rel.sub b u hb
          · rw [gi] at h'
            by_cases z : j = i
            · rw [if_pos z] at h'
              cases h'
              subst z
              exact ⟨_, h, (q4.mono (Ex.new q2)).frozen upd_same⟩
            · rw [if_neg z] at h'
              obtain ⟨v', z1, z2⟩ := p.rel.fz j d h'
              exact ⟨v', z1, z2.mono (Ex.new q2)⟩
          · rw [gi] at h'
            by_cases z : j = i
            · rw [if_pos z] at h'
              cases h'
              cases hs
            · rw [if_neg z] at h'
              obtain ⟨b, u, z1, z2, z3, z4⟩ := p.rel.ow j s h' hs
              refine ⟨b, u, z1, ?_, z3, z4.mono (Ex.new q2)⟩
              rw [upd_ne]
              · exact z2
              · rintro rfl
                exact z (p.rel.ds j i s _ b h' hs q rfl z1 h)
          · rw [gi] at h1 h2
            by_cases z : j = i
            · rw [if_pos z] at h1
              cases h1
              cases s1
            · by_cases z' : k = i
              · rw [if_pos z'] at h2
                cases h2
                cases s2
              · rw [if_neg z] at h1
                rw [if_neg z'] at h2
                exact p.rel.ds j k s t b h1 s1 h2 s2
          · rw [gi] at h'
            by_cases z : j = i
            · rw [if_pos z] at h'
              cases h'
              cases hs
            · rw [if_neg z] at h'
              exact p.shp.own j s h' hs
          · obtain ⟨d1, z1⟩ := p.shp.io j d h'
            have z : j ≠ i := by rintro rfl; rw [q] at z1; cases z1
            exact ⟨d1, by rw [gi, if_neg z]; exact z1⟩
          · rw [gi] at h'
            by_cases z : j = i
            · rw [if_pos z] at h'
              cases h'
            · rw [if_neg z] at h'
              exact p.shp.ow j d h'
end

/-! ### expressions -/
section
variable {ι : Type} {K : PySem.W.Frag} {X : ι → Cx} {a b c : Expr} {es : List Expr} {f g h : M R} {pos : Pos}
theorem so_var {i : Nat} {x : Str} (hN : ∀ j, (X j).N[i]? = some x := by intro _; rfl) (hv : ∀ j, Vis (X j).env.scope x := by first | exact fun _ => Or.inl rfl | exact fun _ => Or.inr (Or.inl rfl) | exact fun _ => Or.inr (Or.inr rfl)) (hd : (x == ("__debug__" : Str)) = false := by decide)
    (hcd : (x == ("__classdict__" : Str)) = false := by decide) : SoE K X (.Name x pos) (var i) := by
  refine ⟨_, fun j => pe_var (i := i) (hN j) (hv j) hd hcd, fun F H σ e r e' rel hf Q q => ?_⟩
  unfold var at hf
  cases z : e[i]? with
  | none => simp [z] at hf
  | some s =>
    cases s with
    | none => simp [z] at hf
    | some s =>
      cases s with
      | fz d =>
        simp only [z, Option.some.injEq, Prod.mk.injEq] at hf
        obtain ⟨rfl, rfl⟩ := hf
        obtain ⟨v, h1, h2⟩ := rel.fz i d z
        exact ⟨v, h1, q v F H (Pst.refl rel) h2⟩
      | ow d =>
        simp only [z, Option.some.injEq, Prod.mk.injEq] at hf
        obtain ⟨rfl, rfl⟩ := hf
        obtain ⟨a, o, h1, _⟩ := rel.ow i _ z rfl
        exact ⟨_, h1, q _ F H (Pst.refl rel) h1⟩
      | io d =>
        simp only [z, Option.some.injEq, Prod.mk.injEq] at hf
        obtain ⟨rfl, rfl⟩ := hf
        obtain ⟨a, o, h1, _⟩ := rel.ow i _ z rfl
        exact ⟨_, h1, q _ F H (Pst.refl rel) h1⟩
theorem so_con {ex : Expr} {v : V} {d : D} (p : ∀ i, PE (X i) ex (tC v)) (hr : ∀ F, Rep K F v d) : SoE K X ex (con d) := by
  refine ⟨_, p, fun F H σ e r e' rel hf Q q => ?_⟩
  simp only [con, Option.some.injEq, Prod.mk.injEq] at hf
  obtain ⟨rfl, rfl⟩ := hf
  exact q v F H (Pst.refl rel) (hr F)
theorem so_int {i : Int} {j : Nat} : SoE K X (.Constant (.int i) j pos) (con (.int i)) := so_con (fun _ => pe_int) fun _ => .int i
theorem so_bl {i : Bool} {j : Nat} : SoE K X (.Constant (.bool i) j pos) (con (.bool i)) := so_con (fun _ => pe_bl) fun _ => .bl i
theorem so_non {j : Nat} : SoE K X (.Constant .none j pos) (con .none) := so_con (fun _ => pe_non) fun _ => .non
theorem so_str {x : Str} {j : Nat} : SoE K X (.Constant (.str x) j pos) (con (.str x)) := so_con (fun _ => pe_str) fun _ => .str x
theorem bind_some {α β : Type} {x : Option α} {k : α → Option β} {y : β} (h : x.bind k = some y) : ∃ z, x = some z ∧ k z = some y := Option.bind_eq_some_iff.mp h
/-- two pending values, looked at at once -/
theorem two_ok {ta tb : TE} {F H : Hp} {σ : L2.St} {e : En} (ha : SemE K ta f) (hb : SemE K tb g)
    (rel : RelE K F H σ e) {p q : R × En} (hf : f e = some p) (hg : g p.2 = some q) {x y : D} (gx : p.1.get q.2 = some x) (gy : q.1.get q.2 = some y) {W : V → V → Hp → Prop}
    (k : ∀ v w F2 H2, Pst K F H σ e F2 H2 q.2 → View K F2 H2 v x → View K F2 H2 w y → W v w H2) : ta σ H fun v H1 => tb σ H1 fun w H2 => W v w H2 := by
  obtain ⟨r1, e1⟩ := p
  obtain ⟨r2, e2⟩ := q
  refine ha F H σ e r1 e1 rel hf _ fun v F1 H1 p1 rv => ?_
  obtain ⟨F1', p1', rv', _⟩ := rv.nf p1 rel
  refine hb F1' H1 σ e1 r2 e2 p1'.rel hg _ fun w F2 H2 p2 rw' => ?_
  have gx' : r1.nf.get e2 = some x := by cases r1 <;> exact gx
  exact k v w F2 H2 (p1'.trans p2) (p2.rel.view (H := H) (rv'.stay (R.nf_still _) p2.stp.ff) gx') (p2.rel.view rw' gy)
theorem so_op {op : Operator} {r : R2} {o : D → D → Option R} (ho : ∀ i, OpR (X i) (binaryOp op) r) (l : OpL K r o) (ha : SoE K X a f) (hb : SoE K X b g) : SoE K X (.BinOp a op b pos) (bin o f g) := by
  obtain ⟨ta, pa, ha⟩ := ha
  obtain ⟨tb, pb, hb⟩ := hb
  refine ⟨_, fun i => pe_op (ho i) (pa i) (pb i), fun F H σ e r e' rel hf Q q => ?_⟩
  obtain ⟨p1, h1, hf⟩ := bind_some hf
  obtain ⟨p2, h2, hf⟩ := bind_some hf
  obtain ⟨x, h3, hf⟩ := bind_some hf
  obtain ⟨y, h4, hf⟩ := bind_some hf
  obtain ⟨z, h5, h6⟩ := Option.map_eq_some_iff.mp hf
  cases h6
  refine two_ok ha hb rel h1 h2 h3 h4 fun v w F2 H2 ps vx vy => ?_
  exact l F2 H2 v w x y _ ps.rel.sub vx vy h5 Q fun u F3 H3 gr rr => q u F3 H3 (ps.trans (gr.pst ps.rel)) (rr.wide ps.stp.dom)
theorem so_cmp {op : CmpOp} {r : R2} {o : D → D → Option R} (ho : ∀ i, OpR (X i) (compareOp op) r) (l : OpL K r o) (ha : SoE K X a f) (hb : SoE K X b g) (hm : behindInMarks op b = false) : SoE K X (.Compare a [op] [b] pos) (bin o f g) := by
  obtain ⟨ta, pa, ha⟩ := ha
  obtain ⟨tb, pb, hb⟩ := hb
  refine ⟨_, fun i => pe_cmpR (ho i) (pa i) (pb i) hm, fun F H σ e r e' rel hf Q q => ?_⟩
  obtain ⟨p1, h1, hf⟩ := bind_some hf
  obtain ⟨p2, h2, hf⟩ := bind_some hf
  obtain ⟨x, h3, hf⟩ := bind_some hf
  obtain ⟨y, h4, hf⟩ := bind_some hf
  obtain ⟨z, h5, h6⟩ := Option.map_eq_some_iff.mp hf
  cases h6
  refine two_ok ha hb rel h1 h2 h3 h4 fun v w F2 H2 ps vx vy => ?_
  exact l F2 H2 v w x y _ ps.rel.sub vx vy h5 Q fun u F3 H3 gr rr => q u F3 H3 (ps.trans (gr.pst ps.rel)) (rr.wide ps.stp.dom)
theorem tst_get {f : M R} {e : En} {b : Bool} {e' : En} (h : tst f e = some (b, e')) : ∃ r, f e = some (r, e') ∧ r.get e' = some (.bool b) := by
  obtain ⟨p, h1, h⟩ := bind_some h
  obtain ⟨x, h2, h⟩ := bind_some h
  cases x with
  | bool b' =>
    cases h
    exact ⟨p.1, h1, h2⟩
  | _ => cases h
theorem so_tcmp {op : CmpOp} {r : R2} {o : D → D → Option R} (ho : ∀ i, OpR (X i) (compareOp op) r) (l : OpL K r o) (ha : SoE K X a f) (hb : SoE K X b g) (hm : behindInMarks op b = false) : SoT K X (.Compare a [op] [b] pos) (tst (bin o f g)) := by
  obtain ⟨ta, pa, ha⟩ := ha
  obtain ⟨tb, pb, hb⟩ := hb
  refine ⟨_, fun i => pt_cmpR (ho i) (pa i) (pb i) hm, fun F H σ e bb e' rel hf Q q => ?_⟩
  obtain ⟨rr, hf, hg⟩ := tst_get hf
  obtain ⟨p1, h1, hf⟩ := bind_some hf
  obtain ⟨p2, h2, hf⟩ := bind_some hf
  obtain ⟨x, h3, hf⟩ := bind_some hf
  obtain ⟨y, h4, hf⟩ := bind_some hf
  obtain ⟨z, h5, h6⟩ := Option.map_eq_some_iff.mp hf
  cases h6
  refine two_ok ha hb rel h1 h2 h3 h4 fun v w F2 H2 ps vx vy => ?_
  refine l F2 H2 v w x y _ ps.rel.sub vx vy h5 _ fun u F3 H3 gr rr => ?_
  have p3 := ps.trans (gr.pst ps.rel)
  exact ⟨bb, (p3.rel.view (H := H) (rr.wide ps.stp.dom) hg).bl, q F3 H3 p3⟩
theorem so_tval {ex : Expr} (ha : SoE K X ex f) (he : ∀ i whole, isTrue ex (X i).env whole = (do let v ← whole; standAt ex.pos; holding [v] (truthy v)) := by intro _ _; rfl) : SoT K X ex (tst f) := by
  obtain ⟨ta, pa, ha⟩ := ha
  refine ⟨_, fun i => pt_val (pa i) (he i), fun F H σ e bb e' rel hf Q q => ?_⟩
  obtain ⟨rr, hf, hg⟩ := tst_get hf
  exact ha F H σ e rr e' rel hf _ fun v F' H' p rv => ⟨bb, (p.rel.view rv hg).bl, q F' H' p⟩
theorem so_un {op : UnaryOp} {r : V → Hp → VK → Prop} {o : D → Option R} (ho : ∀ i, UnR (X i) (unaryOp op) r) (l : UnL K r o) (ha : SoE K X a f) : SoE K X (.UnaryOp op a pos) (una o f) := by
  obtain ⟨ta, pa, ha⟩ := ha
  refine ⟨_, fun i => pe_un (ho i) (pa i), fun F H σ e r e' rel hf Q q => ?_⟩
  obtain ⟨p1, h1, hf⟩ := bind_some hf
  obtain ⟨x, h3, hf⟩ := bind_some hf
  obtain ⟨z, h5, h6⟩ := Option.map_eq_some_iff.mp hf
  cases h6
  refine ha F H σ e p1.1 p1.2 rel h1 _ fun v F' H' p rv => ?_
  exact l F' H' v x _ p.rel.sub (p.rel.view rv h3) h5 Q fun u F3 H3 gr rr => q u F3 H3 (p.trans (gr.pst p.rel)) (rr.wide p.stp.dom)
theorem so_ite {cf : M Bool} (hc : SoT K X c cf) (ha : SoE K X a f) (hb : SoE K X b g) : SoE K X (.IfExp c a b pos) (ite cf f g) := by
  obtain ⟨tc, pc, hc⟩ := hc
  obtain ⟨ta, pa, ha⟩ := ha
  obtain ⟨tb, pb, hb⟩ := hb
  refine ⟨_, fun i => pe_ifExp (pc i) (pa i) (pb i), fun F H σ e r e' rel hf Q q => ?_⟩
  obtain ⟨⟨k, e1⟩, h1, hf⟩ := bind_some hf
  refine hc F H σ e k e1 rel h1 _ fun F1 H1 p1 => ?_
  cases k with
  | true => exact ha F1 H1 σ e1 r e' p1.rel hf Q fun v F2 H2 p2 rv => q v F2 H2 (p1.trans p2) (by
      cases r with
      | v d => exact rv
      | b i => exact rv
      | n d =>
        obtain ⟨a, o, z1, z2, z3⟩ := rv
        refine ⟨a, o, z1, ?_, z3⟩
        cases z : H a with
        | none => rfl
        | some u => exact absurd z2 (p1.stp.dom a (by rw [z]; simp)))
  | false => exact hb F1 H1 σ e1 r e' p1.rel hf Q fun v F2 H2 p2 rv => q v F2 H2 (p1.trans p2) (by
      cases r with
      | v d => exact rv
      | b i => exact rv
      | n d =>
        obtain ⟨a, o, z1, z2, z3⟩ := rv
        refine ⟨a, o, z1, ?_, z3⟩
        cases z : H a with
        | none => rfl
        | some u => exact absurd z2 (p1.stp.dom a (by rw [z]; simp)))
/-- relative to an earlier heap -/
theorem RepR.back {K : PySem.W.Frag} {F' H' H H1 : Hp} {σ : L2.St} {v : V} {r : R} (h : RepR K F' H' H1 σ v r) (d : ∀ a, H a ≠ none → H1 a ≠ none) : RepR K F' H' H σ v r := by
  cases r with
  | v d => exact h
  | b i => exact h
  | n d' =>
    obtain ⟨a, o, z1, z2, z3⟩ := h
    refine ⟨a, o, z1, ?_, z3⟩
    cases z : H a with
    | none => rfl
    | some u => exact absurd z2 (d a (by rw [z]; simp))
/-! ### and, or, not -/
variable {cf cg : M Bool} {rest : List Expr}
theorem SoW.t (h : SoW K X a cf) : SoT K X a cf := by
  obtain ⟨t, p, h⟩ := h
  exact ⟨t, fun i => (p i).pt, h⟩
theorem so_and1 (h : SoT K X a cf) : SoW K X (.BoolOp .And [a] pos) cf := by
  obtain ⟨t, p, h⟩ := h
  exact ⟨t, fun i => pw_and1 (p i), h⟩
theorem so_or1 (h : SoT K X a cf) : SoW K X (.BoolOp .Or [a] pos) cf := by
  obtain ⟨t, p, h⟩ := h
  exact ⟨t, fun i => pw_or1 (p i), h⟩
theorem so_and (ha : SoT K X a cf) (hb : SoW K X (.BoolOp .And (b :: rest) pos) cg) : SoW K X (.BoolOp .And (a :: b :: rest) pos) (andT cf cg) := by
  obtain ⟨ta, pa, ha⟩ := ha
  obtain ⟨tb, pb, hb⟩ := hb
  refine ⟨_, fun i => pw_and (pa i) (pb i), fun F H σ e k e' rel hf Q q => ?_⟩
  obtain ⟨⟨k1, e1⟩, h1, hf⟩ := bind_some hf
  refine ha F H σ e k1 e1 rel h1 _ fun F1 H1 p1 => ?_
  cases k1 with
  | true => exact hb F1 H1 σ e1 k e' p1.rel hf Q fun F2 H2 p2 => q F2 H2 (p1.trans p2)
  | false =>
    cases hf
    exact q F1 H1 p1
theorem so_or (ha : SoT K X a cf) (hb : SoW K X (.BoolOp .Or (b :: rest) pos) cg) : SoW K X (.BoolOp .Or (a :: b :: rest) pos) (orT cf cg) := by
  obtain ⟨ta, pa, ha⟩ := ha
  obtain ⟨tb, pb, hb⟩ := hb
  refine ⟨_, fun i => pw_or (pa i) (pb i), fun F H σ e k e' rel hf Q q => ?_⟩
  obtain ⟨⟨k1, e1⟩, h1, hf⟩ := bind_some hf
  refine ha F H σ e k1 e1 rel h1 _ fun F1 H1 p1 => ?_
  cases k1 with
  | false => exact hb F1 H1 σ e1 k e' p1.rel hf Q fun F2 H2 p2 => q F2 H2 (p1.trans p2)
  | true =>
    cases hf
    exact q F1 H1 p1
theorem so_not (ha : SoT K X a cf) : SoT K X (.UnaryOp .Not a pos) (notT cf) := by
  obtain ⟨ta, pa, ha⟩ := ha
  refine ⟨_, fun i => pt_not (pa i), fun F H σ e k e' rel hf Q q => ?_⟩
  obtain ⟨⟨k1, e1⟩, h1, hf⟩ := bind_some hf
  cases hf
  exact ha F H σ e k1 e1 rel h1 _ fun F1 H1 p1 => q F1 H1 p1
/-- as values -/
theorem so_oneV {op : BoolOp} (ha : SoE K X a f) : SoE K X (.BoolOp op [a] pos) f := by
  obtain ⟨ta, pa, ha⟩ := ha
  exact ⟨_, fun i => pe_one (pa i), ha⟩
theorem so_andV (ha : SoE K X a f) (hb : SoE K X (.BoolOp .And (b :: rest) pos) g) : SoE K X (.BoolOp .And (a :: b :: rest) pos) (andV f g) := by
  obtain ⟨ta, pa, ha⟩ := ha
  obtain ⟨tb, pb, hb⟩ := hb
  refine ⟨_, fun i => pe_and (pa i) (pb i), fun F H σ e k e' rel hf Q q => ?_⟩
  obtain ⟨⟨k1, e1⟩, h1, hf⟩ := bind_some hf
  obtain ⟨rr, h1, hg⟩ := tst_get h1
  refine ha F H σ e rr e1 rel h1 _ fun v F1 H1 p1 rv => ⟨k1, (p1.rel.view rv hg).bl, ?_⟩
  cases k1 with
  | true => exact hb F1 H1 σ e1 k e' p1.rel hf Q fun v F2 H2 p2 rv => q v F2 H2 (p1.trans p2) (rv.back p1.stp.dom)
  | false =>
    cases hf
    exact q _ F1 H1 p1 (.bl false)
theorem so_orV (ha : SoE K X a f) (hb : SoE K X (.BoolOp .Or (b :: rest) pos) g) : SoE K X (.BoolOp .Or (a :: b :: rest) pos) (orV f g) := by
  obtain ⟨ta, pa, ha⟩ := ha
  obtain ⟨tb, pb, hb⟩ := hb
  refine ⟨_, fun i => pe_or (pa i) (pb i), fun F H σ e k e' rel hf Q q => ?_⟩
  obtain ⟨⟨k1, e1⟩, h1, hf⟩ := bind_some hf
  obtain ⟨rr, h1, hg⟩ := tst_get h1
  refine ha F H σ e rr e1 rel h1 _ fun v F1 H1 p1 rv => ⟨k1, (p1.rel.view rv hg).bl, ?_⟩
  cases k1 with
  | false => exact hb F1 H1 σ e1 k e' p1.rel hf Q fun v F2 H2 p2 rv => q v F2 H2 (p1.trans p2) (rv.back p1.stp.dom)
  | true =>
    cases hf
    exact q _ F1 H1 p1 (.bl true)
theorem so_notV (ha : SoE K X a f) : SoE K X (.UnaryOp .Not a pos) (notV f) := by
  obtain ⟨ta, pa, ha⟩ := ha
  refine ⟨_, fun i => pe_not (pa i), fun F H σ e k e' rel hf Q q => ?_⟩
  obtain ⟨⟨k1, e1⟩, h1, hf⟩ := bind_some hf
  obtain ⟨rr, h1, hg⟩ := tst_get h1
  cases hf
  exact ha F H σ e rr e1 rel h1 _ fun v F1 H1 p1 rv => ⟨k1, (p1.rel.view rv hg).bl, q _ F1 H1 p1 (.bl _)⟩
/-! ### displays -/
theorem so_nil : SoA K X [] nilA := ⟨_, fun _ => pa_nil, fun F H σ e ds e' rel hf Q q => by
  cases hf
  exact q [] F H (Pst.refl rel) .nil⟩
theorem so_cons {fs : M (List D)} (ha : SoE K X a f) (hs : SoA K X es fs) (hst : ∀ i, starEach (a :: es) (X i).env = (false, eval a (X i).env) :: starEach es (X i).env := by intro _; rfl) : SoA K X (a :: es) (consA f fs) := by
  obtain ⟨ta, pa, ha⟩ := ha
  obtain ⟨ts, ps, hs⟩ := hs
  refine ⟨_, fun i => pa_cons (pa i) (ps i) (hst i), fun F H σ e ds e' rel hf Q q => ?_⟩
  obtain ⟨⟨r1, e1⟩, h1, hf⟩ := bind_some hf
  obtain ⟨⟨d, e2⟩, h2, hf⟩ := bind_some hf
  obtain ⟨⟨ds', e3⟩, h3, hf⟩ := bind_some hf
  cases hf
  refine ha F H σ e r1 e1 rel h1 _ fun v F1 H1 p1 rv => ?_
  obtain ⟨F2, p2, rd, _⟩ := frz_ok p1 rel rv h2
  exact hs F2 H1 σ e2 ds' e3 p2.rel h3 _ fun vs F3 H3 p3 rs => q _ F3 H3 (p2.trans p3) (.cons (rd.mono p3.stp.ff) rs)
theorem so_tup {fs : M (List D)} {x1 : Nat} (hs : SoA K X es fs) : SoE K X (.Tuple es x1 pos) (tupE fs) := by
  obtain ⟨ts, ps, hs⟩ := hs
  refine ⟨_, fun i => pe_tup (ps i), fun F H σ e r e' rel hf Q q => ?_⟩
  obtain ⟨⟨ds, e1⟩, h1, hf⟩ := bind_some hf
  split at hf
  · rename_i hl
    cases hf
    refine hs F H σ e ds _ rel h1 _ fun vs F1 H1 p1 rs => ⟨by rw [rs.length]; exact hl, fun p hp => ?_⟩
    have gr := Grow.new (o := .tup vs) p1.rel.sub hp
    exact q _ _ _ (p1.trans (gr.pst p1.rel)) (.tup (st_of upd_same) (rs.mono gr.ff))
  · cases hf
theorem so_lst {fs : M (List D)} (hs : SoA K X es fs) : SoE K X (.List es pos) (lstE fs) := by
  obtain ⟨ts, ps, hs⟩ := hs
  refine ⟨_, fun i => pe_lst (ps i), fun F H σ e r e' rel hf Q q => ?_⟩
  obtain ⟨⟨ds, e1⟩, h1, hf⟩ := bind_some hf
  split at hf
  · rename_i hl
    cases hf
    refine hs F H σ e ds _ rel h1 _ fun vs F1 H1 p1 rs => ⟨by rw [rs.length]; exact hl, fun p hp => ?_⟩
    have gr := Grow.loose (o := .lst vs) p1.rel.sub hp
    refine q _ _ _ (p1.trans (gr.pst p1.rel)) ⟨p, _, rfl, ?_, fresh_back p1.rel.sub hp, upd_same, rs⟩
    cases z : H p with
    | none => rfl
    | some u => exact absurd hp (p1.stp.dom p (by rw [z]; simp))
  · cases hf
end
end Sl

set_option Elab.async false
set_option linter.all false
set_option maxRecDepth 100000
set_option maxHeartbeats 2000000
set_option autoImplicit false
/-! Statements, defs. -/
namespace Sl
open PySem L2 Evl
inductive Out where
  | nx (e : En)
  | rt (r : R) (e : En)
  | bk (e : En)
  | ct (e : En)
/-- against the entry: what stood there is as it was, but for the lists that are handed in to be changed -/
structure Bs (F0 H0 : Hp) (IO : List (Nat × Addr)) (F H : Hp) (σ : L2.St) (e : En) : Prop where
  ff : Ex F0 F
  keep : ∀ a o, H0 a = some o → (∀ p ∈ IO, p.2 ≠ a) → H a = some o
  old : ∀ a, H0 a ≠ none → F a = F0 a
  dom : ∀ a, H0 a ≠ none → H a ≠ none
  ow : ∀ (i : Nat) (d : D) (a : Addr), e[i]? = some (some (.ow d)) → σ[i]? = some (some (.ref a)) → H0 a = none
  io : ∀ (i : Nat) (d : D) (a : Addr), e[i]? = some (some (.io d)) → σ[i]? = some (some (.ref a)) → (i, a) ∈ IO
  has : ∀ p ∈ IO, ∃ d : D, e[p.1]? = some (some (.io d)) ∧ σ[p.1]? = some (some (.ref p.2))
def Post (K : PySem.W.Frag) (F0 H0 : Hp) (IO : List (Nat × Addr)) (Dn : Ends) : Out → Prop
  | .nx e => ∀ σ F H, RelE K F H σ e → Bs F0 H0 IO F H σ e → Dn.nx σ H
  | .bk e => ∀ σ F H, RelE K F H σ e → Bs F0 H0 IO F H σ e → Dn.bk σ H
  | .ct e => ∀ σ F H, RelE K F H σ e → Bs F0 H0 IO F H σ e → Dn.ct σ H
  | .rt r e => ∀ v σ F H, RelE K F H σ e → Bs F0 H0 IO F H σ e → RepR K F H H0 [] v r → Dn.rt v H
def SemS (K : PySem.W.Frag) (t : TS) (g : En → Option Out) : Prop := ∀ (F0 H0 : Hp) (IO : List (Nat × Addr)) (F H : Hp) (σ : L2.St) (e : En) (out : Out), RelE K F H σ e → Bs F0 H0 IO F H σ e → g e = some out →
  ∀ Dn : Ends, Post K F0 H0 IO Dn out → t Dn σ H
def SoS {ι : Type} (K : PySem.W.Frag) (X : ι → Cx) (st : Stmt) (g : En → Option Out) : Prop := ∃ t, (∀ i, PS (X i) st t) ∧ SemS K t g
def SoB {ι : Type} (K : PySem.W.Frag) (X : ι → Cx) (st : List Stmt) (g : En → Option Out) : Prop := ∃ t, (∀ i, PSs (X i) st t) ∧ SemS K t g
/-- the places js alone have changed, to things that stay -/
structure Tgd (js : List Nat) (σ : L2.St) (e : En) (σ' : L2.St) (e' : En) : Prop where
  sl : σ'.length = σ.length
  so : ∀ i, i ∉ js → σ'[i]? = σ[i]?
  eo : ∀ i, i ∉ js → e'[i]? = e[i]?
  ef : ∀ (i : Nat) (s : Cel), i ∈ js → e'[i]? = some (some s) → s.own = false
  no : ∀ (i : Nat) (d : D), i ∈ js → e[i]? ≠ some (some (.io d))
/-- a target: what it does to the names -/
def SemG (K : PySem.W.Frag) (t : TG) (js : List Nat) (g : D → En → Option En) : Prop := ∀ (F H : Hp) (σ : L2.St) (e : En) (v : V) (d : D) (e' : En), RelE K F H σ e → Rep K F v d → g d e = some e' →
  ∀ Q : L2.St → Hp → Prop, (∀ σ', RelE K F H σ' e' → (∀ F0 H0 IO, Bs F0 H0 IO F H σ e → Bs F0 H0 IO F H σ' e') → Tgd js σ e σ' e' → Q σ' H) → t v σ H Q
def SemGs (K : PySem.W.Frag) (t : TGs) (js : List Nat) (g : List D → En → Option En) : Prop := ∀ (F H : Hp) (σ : L2.St) (e : En) (vs : List V) (ds : List D) (e' : En), RelE K F H σ e → RepA K F vs ds → g ds e = some e' →
  ∀ Q : L2.St → Hp → Prop, (∀ σ', RelE K F H σ' e' → (∀ F0 H0 IO, Bs F0 H0 IO F H σ e → Bs F0 H0 IO F H σ' e') → Tgd js σ e σ' e' → Q σ' H) → t vs σ H Q
def SoG {ι : Type} (K : PySem.W.Frag) (X : ι → Cx) (tg : Expr) (js : List Nat) (g : D → En → Option En) : Prop := ∃ t, (∀ i, PG (X i) tg t) ∧ SemG K t js g
def SoGs {ι : Type} (K : PySem.W.Frag) (X : ι → Cx) (tg : List Expr) (js : List Nat) (g : List D → En → Option En) : Prop := ∃ t, (∀ i, PGs (X i) tg t) ∧ SemGs K t js g
theorem Tgd.refl {σ : L2.St} {e : En} : Tgd [] σ e σ e := ⟨rfl, fun _ _ => rfl, fun _ _ => rfl, fun _ _ h => (by cases h), fun _ _ h => (by cases h)⟩
theorem Tgd.trans {js ks : List Nat} {σ σ1 σ2 : L2.St} {e e1 e2 : En} (a : Tgd js σ e σ1 e1) (b : Tgd ks σ1 e1 σ2 e2) : Tgd (js ++ ks) σ e σ2 e2 where
  sl := b.sl.trans a.sl
  so := fun i h => (b.so i fun z => h (List.mem_append_right _ z)).trans (a.so i fun z => h (List.mem_append_left _ z))
  eo := fun i h => (b.eo i fun z => h (List.mem_append_right _ z)).trans (a.eo i fun z => h (List.mem_append_left _ z))
  ef := fun i s h q => by
    by_cases z : i ∈ ks
    · exact b.ef i s z q
    · rw [b.eo i z] at q
      rcases List.mem_append.mp h with h | h
      · exact a.ef i s h q
      · exact absurd h z
  no := fun i d h q => by
    by_cases z : i ∈ js
    · exact a.no i d z q
    · rcases List.mem_append.mp h with h | h
      · exact absurd h z
      · exact b.no i d h ((a.eo i z).trans q)
theorem Tgd.own {js : List Nat} {σ σ1 : L2.St} {e e1 : En} (a : Tgd js σ e σ1 e1) {x : Addr} (h : Own σ1 e1 x) : Own σ e x := by
  obtain ⟨i, s, q1, q2, q3⟩ := h
  have z : i ∉ js := fun z => by
    have := a.ef i s z q1
    rw [q2] at this
    cases this
  exact ⟨i, s, by rw [← a.eo i z]; exact q1, q2, by rw [← a.so i z]; exact q3⟩

/-! ### combinators -/
/-- a name takes a thing; never the name of a list that is handed in to be changed -/
def sto (i : Nat) (s : Cel) (e : En) : Option En := match e[i]? with
  | some (some (.io _)) => none
  | some _ => some (e.set i (some s))
  | none => none
def stR (i : Nat) (r : R) (e : En) : Option En := match r with
  | .n d => sto i (.ow d) e
  | .v d => sto i (.fz d) e
  | .b j => (frz (.b j) e).bind fun q => sto i (.fz q.1) q.2
def asg (i : Nat) (f : M R) : En → Option Out := fun e => (f e).bind fun p => (stR i p.1 p.2).map .nx
def gN (i : Nat) : D → En → Option En := fun d e => sto i (.fz d) e
def gs0 : List D → En → Option En := fun ds e => match ds with
  | [] => some e
  | _ => none
def gs1 (g : D → En → Option En) (h : List D → En → Option En) : List D → En → Option En := fun ds e => match ds with
  | d :: r => (g d e).bind (h r)
  | [] => none
def gT (g : List D → En → Option En) : D → En → Option En := fun d e => match d with
  | .tuple ds => g ds e
  | _ => none
def asgT (g : D → En → Option En) (f : M R) : En → Option Out := fun e => (f e).bind fun p => (frz p.1 p.2).bind fun q => (g q.1 q.2).map .nx
def pas : En → Option Out := fun e => some (.nx e)
def brk : En → Option Out := fun e => some (.bk e)
def cnt : En → Option Out := fun e => some (.ct e)
def stuck : En → Option Out := fun _ => none
def ret (f : M R) : En → Option Out := fun e => (f e).bind fun p => match p.1 with
  | .b i => (match p.2[i]? with
    | some (some (.ow d)) => some (.rt (.n d) p.2)
    | some (some (.fz d)) => some (.rt (.v d) p.2)
    | _ => none)
  | r => some (.rt r p.2)
def retN : En → Option Out := fun e => some (.rt (.v .none) e)
def drp (f : M R) : En → Option Out := fun e => (f e).map fun p => .nx p.2
def seq (g h : En → Option Out) : En → Option Out := fun e => (g e).bind fun o => match o with
  | .nx e' => h e'
  | o => some o
def ifS (c : M Bool) (g h : En → Option Out) : En → Option Out := fun e => (c e).bind fun p => if p.1 then g p.2 else h p.2
def loop (tg : D → En → Option En) (body : En → Option Out) : List D → En → Option Out
  | [], e => some (.nx e)
  | d :: ds, e => (tg d e).bind fun e1 => (body e1).bind fun o => match o with
    | .nx e2 => loop tg body ds e2
    | .ct e2 => loop tg body ds e2
    | .bk e2 => some (.nx e2)
    | .rt r e2 => some (.rt r e2)
def forS (it : M (List D)) (tg : D → En → Option En) (body : En → Option Out) : En → Option Out := fun e => (it e).bind fun p => loop tg body p.1 p.2
def whl (c : M Bool) (body : En → Option Out) : Nat → En → Option Out
  | 0, _ => none
  | n + 1, e => (c e).bind fun p => if p.1 then (body p.2).bind fun o => match o with
    | .nx e2 => whl c body n e2
    | .ct e2 => whl c body n e2
    | .bk e2 => some (.nx e2)
    | .rt r e2 => some (.rt r e2)
    else some (.nx p.2)

section
variable {K : PySem.W.Frag} {F0 H0 F H F' H' : Hp} {IO : List (Nat × Addr)} {σ : L2.St} {e e' : En}
theorem Bs.step (b : Bs F0 H0 IO F H σ e) (r : RelE K F H σ e) (p : Pst K F H σ e F' H' e') : Bs F0 H0 IO F' H' σ e' := by
  have notOwn : ∀ a, H0 a ≠ none → (∀ q ∈ IO, q.2 ≠ a) → ¬ Own σ e a := by
    rintro a h1 h2 ⟨i, s, q1, q2, q3⟩
    cases s with
    | fz d => cases q2
    | ow d => exact h1 (b.ow i d a q1 q3)
    | io d => exact h2 _ (b.io i d a q1 q3) rfl
  refine ⟨b.ff.trans p.stp.ff, fun a o h1 h2 => ?_, fun a h1 => ?_, fun a h1 => p.stp.dom a (b.dom a h1), fun i d a h1 h2 => ?_, fun i d a h1 h2 => ?_, fun q hq => ?_⟩
  · exact p.stp.hh a o (b.keep a o h1 h2) (notOwn a (by rw [h1]; simp) h2)
  · by_cases hO : Own σ e a
    · obtain ⟨i, s, q1, q2, q3⟩ := hO
      cases s with
      | fz d => cases q2
      | ow d => exact absurd (b.ow i d a q1 q3) h1
      | io d =>
        obtain ⟨d', z⟩ := p.shp.io i d q1
        obtain ⟨a', o, z1, z2, z3, _⟩ := p.rel.ow i _ z rfl
        rw [q3] at z1
        cases z1
        obtain ⟨a'', o', y1, y2, y3, _⟩ := r.ow i _ q1 rfl
        rw [q3] at y1
        cases y1
        rw [z2, ← b.old _ h1, y2]
    · rw [p.stp.old a (b.dom a h1) hO, b.old a h1]
  · obtain ⟨s, q1, q2⟩ := p.shp.own i _ h1 rfl
    cases s with
    | fz d => cases q2
    | ow d => exact b.ow i d a q1 h2
    | io d =>
      obtain ⟨d', z⟩ := p.shp.io i d q1
      rw [h1] at z
      cases z
  · obtain ⟨d', z⟩ := p.shp.ow i _ h1
    exact b.io i d' a z h2
  · obtain ⟨d, q1, q2⟩ := b.has q hq
    obtain ⟨d', z⟩ := p.shp.io _ d q1
    exact ⟨d', z, q2⟩
theorem Bs.rebase (b : Bs F0 H0 IO F H σ e) : Bs F H0 IO F H σ e := ⟨Ex.refl F, b.keep, fun _ _ => rfl, b.dom, b.ow, b.io, b.has⟩
theorem Bs.unbase {F1 H1 : Hp} {σ1 : L2.St} {e1 : En} (b : Bs F0 H0 IO F1 H1 σ1 e1) (b' : Bs F1 H0 IO F H σ e) : Bs F0 H0 IO F H σ e :=
  ⟨b.ff.trans b'.ff, b'.keep, fun a h => (b'.old a h).trans (b.old a h), b'.dom, b'.ow, b'.io, b'.has⟩
theorem sto_eq {i : Nat} {s : Cel} (h : sto i s e = some e') : i < e.length ∧ e' = e.set i (some s) ∧ ∀ d, e[i]? ≠ some (some (.io d)) := by
  unfold sto at h
  cases q : e[i]? with
  | none => simp [q] at h
  | some x =>
    have hi := (List.getElem?_eq_some_iff.mp q).1
    cases x with
    | none =>
      simp only [q, Option.some.injEq] at h
      exact ⟨hi, h.symm, fun d z => by cases z⟩
    | some s' =>
      cases s' with
      | io d => simp [q] at h
      | fz d =>
        simp only [q, Option.some.injEq] at h
        exact ⟨hi, h.symm, fun d z => by cases z⟩
      | ow d =>
        simp only [q, Option.some.injEq] at h
        exact ⟨hi, h.symm, fun d z => by cases z⟩
theorem set_get {α : Type} {l : List α} {i j : Nat} {x : α} (hi : i < l.length) : (l.set i x)[j]? = if j = i then some x else l[j]? := by
  by_cases z : j = i
  · subst z; rw [List.getElem?_set_self hi, if_pos rfl]
  · rw [List.getElem?_set_ne (Ne.symm z), if_neg z]
theorem RelE.fzS (r : RelE K F H σ e) {i : Nat} {v : V} {d : D} (hv : Rep K F v d) (h : sto i (.fz d) e = some e') : RelE K F H (σ.set i (some v)) e' := by
  obtain ⟨hi, rfl, hn⟩ := sto_eq h
  have hσ : i < σ.length := by rw [r.len]; exact hi
  refine ⟨by rw [List.length_set, List.length_set]; exact r.len, r.sub, fun j d' q => ?_, fun j s q qs => ?_, fun j k s t a q1 s1 q2 s2 q3 q4 => ?_⟩
  · rw [set_get hi] at q
    rw [set_get hσ]
    by_cases z : j = i
    · rw [if_pos z] at q ⊢
      cases q
      exact ⟨v, rfl, hv⟩
    · rw [if_neg z] at q ⊢
      exact r.fz j d' q
  · rw [set_get hi] at q
    rw [set_get hσ]
    by_cases z : j = i
    · rw [if_pos z] at q
      cases q
      cases qs
    · rw [if_neg z] at q ⊢
      exact r.ow j s q qs
  · rw [set_get hi] at q1 q2
    rw [set_get hσ] at q3 q4
    by_cases z : j = i
    · rw [if_pos z] at q1
      cases q1
      cases s1
    · by_cases z' : k = i
      · rw [if_pos z'] at q2
        cases q2
        cases s2
      · rw [if_neg z] at q1 q3
        rw [if_neg z'] at q2 q4
        exact r.ds j k s t a q1 s1 q2 s2 q3 q4
theorem Bs.fzS (b : Bs F0 H0 IO F H σ e) (hl : σ.length = e.length) {i : Nat} {v : V} {d : D} (h : sto i (.fz d) e = some e') : Bs F0 H0 IO F H (σ.set i (some v)) e' := by
  obtain ⟨hi, rfl, hn⟩ := sto_eq h
  have hσ : i < σ.length := by rw [hl]; exact hi
  refine ⟨b.ff, b.keep, b.old, b.dom, fun j d' a q1 q2 => ?_, fun j d' a q1 q2 => ?_, fun p hp => ?_⟩
  · rw [set_get hi] at q1
    rw [set_get hσ] at q2
    by_cases z : j = i
    · rw [if_pos z] at q1
      cases q1
    · rw [if_neg z] at q1 q2
      exact b.ow j d' a q1 q2
  · rw [set_get hi] at q1
    rw [set_get hσ] at q2
    by_cases z : j = i
    · rw [if_pos z] at q1
      cases q1
    · rw [if_neg z] at q1 q2
      exact b.io j d' a q1 q2
  · obtain ⟨d', q1, q2⟩ := b.has p hp
    have z : p.1 ≠ i := by
      intro z
      rw [z] at q1
      exact hn _ q1
    exact ⟨d', by rw [set_get hi, if_neg z]; exact q1, by rw [set_get hσ, if_neg z]; exact q2⟩
theorem RelE.owS (r : RelE K F H σ e) {i : Nat} {a : Addr} {o : HO} {d : D} (hO : ¬ Own σ e a) (h1 : F a = none) (h2 : H a = some o) (h3 : RepO K F o d) (h : sto i (.ow d) e = some e') : RelE K F H (σ.set i (some (.ref a))) e' := by
  obtain ⟨hi, rfl, hn⟩ := sto_eq h
  have hσ : i < σ.length := by rw [r.len]; exact hi
  refine ⟨by rw [List.length_set, List.length_set]; exact r.len, r.sub, fun j d' q => ?_, fun j s q qs => ?_, fun j k s t b q1 s1 q2 s2 q3 q4 => ?_⟩
  · rw [set_get hi] at q
    rw [set_get hσ]
    by_cases z : j = i
    · rw [if_pos z] at q
      cases q
    · rw [if_neg z] at q ⊢
      exact r.fz j d' q
  · rw [set_get hi] at q
    rw [set_get hσ]
    by_cases z : j = i
    · rw [if_pos z] at q ⊢
      cases q
      exact ⟨a, o, rfl, h1, h2, h3⟩
    · rw [if_neg z] at q ⊢
      exact r.ow j s q qs
  · rw [set_get hi] at q1 q2
    rw [set_get hσ] at q3 q4
    by_cases z : j = i
    · by_cases z' : k = i
      · rw [z, z']
      · rw [if_pos z] at q1 q3
        rw [if_neg z'] at q2 q4
        cases q3
        exact absurd ⟨k, t, q2, s2, q4⟩ hO
    · by_cases z' : k = i
      · rw [if_pos z'] at q2 q4
        rw [if_neg z] at q1 q3
        cases q4
        exact absurd ⟨j, s, q1, s1, q3⟩ hO
      · rw [if_neg z] at q1 q3
        rw [if_neg z'] at q2 q4
        exact r.ds j k s t b q1 s1 q2 s2 q3 q4
theorem Bs.owS (b : Bs F0 H0 IO F H σ e) (hl : σ.length = e.length) {i : Nat} {a : Addr} {d : D} (h0 : H0 a = none) (h : sto i (.ow d) e = some e') : Bs F0 H0 IO F H (σ.set i (some (.ref a))) e' := by
  obtain ⟨hi, rfl, hn⟩ := sto_eq h
  have hσ : i < σ.length := by rw [hl]; exact hi
  refine ⟨b.ff, b.keep, b.old, b.dom, fun j d' a q1 q2 => ?_, fun j d' a q1 q2 => ?_, fun p hp => ?_⟩
  · rw [set_get hi] at q1
    rw [set_get hσ] at q2
    by_cases z : j = i
    · rw [if_pos z] at q2
      cases q2
      exact h0
    · rw [if_neg z] at q1 q2
      exact b.ow j d' a q1 q2
  · rw [set_get hi] at q1
    rw [set_get hσ] at q2
    by_cases z : j = i
    · rw [if_pos z] at q1
      cases q1
    · rw [if_neg z] at q1 q2
      exact b.io j d' a q1 q2
  · obtain ⟨d', q1, q2⟩ := b.has p hp
    have z : p.1 ≠ i := by
      intro z
      rw [z] at q1
      exact hn _ q1
    exact ⟨d', by rw [set_get hi, if_neg z]; exact q1, by rw [set_get hσ, if_neg z]; exact q2⟩
/-- a name takes what an expression gave -/
theorem stR_ok {F1 H1 : Hp} {e1 : En} (p : Pst K F H σ e F1 H1 e1) (r : RelE K F H σ e) {v : V} {x : R} (h : RepR K F1 H1 H σ v x) {i : Nat} (g : stR i x e1 = some e') :
    ∃ F2, RelE K F2 H1 (σ.set i (some v)) e' ∧ ∀ F0 H0 IO, Bs F0 H0 IO F H σ e → Bs F0 H0 IO F2 H1 (σ.set i (some v)) e' := by
  cases x with
  | v d => exact ⟨F1, p.rel.fzS h g, fun F0 H0 IO b => (b.step r p).fzS p.rel.len g⟩
  | n d =>
    obtain ⟨a, o, rfl, q2, q3, q4, q5⟩ := h
    exact ⟨F1, p.rel.owS (fun z => r.newNot q2 (p.shp.sub a z)) q3 q4 q5 g, fun F0 H0 IO b => (b.step r p).owS p.rel.len (by
      cases z : H0 a with
      | none => rfl
      | some u => exact absurd q2 (b.dom a (by rw [z]; simp))) g⟩
  | b j =>
    obtain ⟨q, g1, g2⟩ := bind_some g
    obtain ⟨F2, p2, rd, _⟩ := frz_ok p r h (e2 := q.2) (d := q.1) g1
    exact ⟨F2, p2.rel.fzS rd g2, fun F0 H0 IO b => (b.step r p2).fzS p2.rel.len g2⟩
end

section
variable {ι : Type} {K : PySem.W.Frag} {X : ι → Cx} {st : Stmt} {sts : List Stmt} {ex : Expr} {f : M R} {g h : En → Option Out} {pos : Pos}
/-! ### targets -/
theorem so_gn {i : Nat} {x : Str} (hN : ∀ j, (X j).N.Nodup) (hi : ∀ j, (X j).N[i]? = some x := by intro _; rfl) (hx : ∀ j, Loc (X j).env.scope x := by first | exact fun _ => Or.inl rfl | exact fun _ => Or.inr rfl)
    (hf : ∀ j, (X j).fn x = true ∨ (X j).env.scope.names.lookup x = some .local := by first | exact fun _ => .inl rfl | exact fun _ => .inr rfl) : SoG K X (.Name x pos) [i] (gN i) :=
  ⟨_, fun j => pg_name (hN j) (hi j) (hx j) (hf j), fun F H σ e v d e' rel hv hg Q q => q _ (rel.fzS hv hg) (fun F0 H0 IO b => b.fzS rel.len hg) (by
    obtain ⟨hi, rfl, hn⟩ := sto_eq (show sto i (.fz d) e = some e' from hg)
    refine ⟨List.length_set .., fun j hj => ?_, fun j hj => ?_, fun j s hj h => ?_, fun j d hj => ?_⟩
    · exact List.getElem?_set_ne (fun z => hj (by simp [z]))
    · exact List.getElem?_set_ne (fun z => hj (by simp [z]))
    · have hj : j = i := by simpa using hj
      subst hj
      rw [List.getElem?_set_self hi] at h
      cases h
      rfl
    · have hj : j = i := by simpa using hj
      subst hj
      exact hn d)⟩
theorem so_g0 : SoGs K X [] [] gs0 := ⟨_, fun _ => pgs_nil, fun F H σ e vs ds e' rel hv hg Q q => by
  cases hv with
  | nil =>
    cases hg
    exact ⟨rfl, q σ rel (fun _ _ _ b => b) Tgd.refl⟩
  | cons _ _ => cases hg⟩
theorem so_g1 {tg : Expr} {tgs : List Expr} {g1 : D → En → Option En} {g2 : List D → En → Option En} {js ks : List Nat} (h1 : SoG K X tg js g1) (h2 : SoGs K X tgs ks g2)
    (hs : ∀ i, (assignEach (tg :: tgs) (X i).env).map (·.2) = assign tg (X i).env :: (assignEach tgs (X i).env).map (·.2) := by intro _; rfl) : SoGs K X (tg :: tgs) (js ++ ks) (gs1 g1 g2) := by
  obtain ⟨t1, p1, s1⟩ := h1
  obtain ⟨t2, p2, s2⟩ := h2
  refine ⟨_, fun i => pgs_cons (p1 i) (p2 i) (hs i), fun F H σ e vs ds e' rel hv hg Q q => ?_⟩
  cases hv with
  | nil => cases hg
  | cons r rs =>
    obtain ⟨e1, z1, z2⟩ := bind_some hg
    refine ⟨_, _, rfl, s1 F H σ e _ _ e1 rel r z1 _ fun σ' rel' b' td => ?_⟩
    exact s2 F H σ' e1 _ _ e' rel' rs z2 _ fun σ2 rel2 b2 td2 => q σ2 rel2 (fun F0 H0 IO b => b2 F0 H0 IO (b' F0 H0 IO b)) (td.trans td2)
theorem so_gt {tgs : List Expr} {k n : Nat} {g2 : List D → En → Option En} {js : List Nat} (h2 : SoGs K X tgs js g2) (hK : ∀ i, (X i).K = K := by intro _; rfl) (hc : ∀ i, (X i).calm = true := by intro _; rfl)
    (hn : ∀ i, (assignEach tgs (X i).env).length = n := by intro _; rfl) (hst : ∀ i, (assignEach tgs (X i).env).findIdx? (·.1) = none := by intro _; rfl)
    (hl : ∀ ds e e', g2 ds e = some e' → ds.length = n := by (intro ds e e' h; rcases ds with _ | ⟨d1, _ | ⟨d2, _ | ⟨d3, _ | ⟨d4, _ | ⟨d5, _ | ⟨d6, _⟩⟩⟩⟩⟩⟩ <;> first | rfl | simp [gs1, gs0] at h)) : SoG K X (.Tuple tgs k pos) js (gT g2) := by
  obtain ⟨t2, p2, s2⟩ := h2
  refine ⟨gTup K n t2, fun i => by have := pg_tup (k := k) (pos := pos) (hc i) (p2 i) (hn i) (hst i); rw [hK i] at this; exact this, fun F H σ e v d e' rel hv hg Q q => ?_⟩
  unfold gT at hg
  cases d with
  | tuple ds =>
    cases hv with
    | tup hs rs => exact ⟨_, _, rfl, ex_t rel.sub hs, by rw [rs.length]; exact hl _ _ _ hg, s2 F H σ e _ ds e' rel rs hg Q q⟩
  | _ => cases hg
/-! ### small statements -/
theorem so_pass : SoS K X (.Pass pos) pas := ⟨_, fun _ => ps_pass, fun F0 H0 IO F H σ e out rel b hg Dn p => by
  cases hg
  exact p σ F H rel b⟩
theorem so_break : SoS K X (.Break pos) brk := ⟨_, fun _ => ps_break, fun F0 H0 IO F H σ e out rel b hg Dn p => by
  cases hg
  exact p σ F H rel b⟩
theorem so_cont : SoS K X (.Continue pos) cnt := ⟨_, fun _ => ps_continue, fun F0 H0 IO F H σ e out rel b hg Dn p => by
  cases hg
  exact p σ F H rel b⟩
theorem so_stuck : SoS K X st stuck := ⟨_, fun _ => ps_never, fun F0 H0 IO F H σ e out rel b hg Dn p => by cases hg⟩
theorem so_expr (he : SoE K X ex f) (hs : ∀ i, swapsWith ex none pos.line (X i).env = pure false := by intro _; rfl) : SoS K X (.Expr ex pos) (drp f) := by
  obtain ⟨t, p, s⟩ := he
  refine ⟨_, fun i => ps_expr (p i) (hs i), fun F0 H0 IO F H σ e out rel b hg Dn q => ?_⟩
  obtain ⟨z, h1, h2⟩ := Option.map_eq_some_iff.mp hg
  subst h2
  exact s F H σ e z.1 z.2 rel h1 _ fun v F1 H1 p1 rv => q σ F1 H1 p1.rel (b.step rel p1)
theorem so_ret (he : SoE K X ex f) : SoS K X (.Return (some ex) pos) (ret f) := by
  obtain ⟨t, p, s⟩ := he
  refine ⟨_, fun i => ps_ret (p i), fun F0 H0 IO F H σ e out rel b hg Dn q => ?_⟩
  obtain ⟨⟨r, e1⟩, h1, h2⟩ := bind_some hg
  refine s F H σ e r e1 rel h1 _ fun v F1 H1 p1 rv => ?_
  have b1 := b.step rel p1
  cases r with
  | v d =>
    cases h2
    exact q v σ F1 H1 p1.rel b1 rv
  | n d =>
    cases h2
    obtain ⟨a, o, z1, z2, z3⟩ := rv
    refine q v σ F1 H1 p1.rel b1 ⟨a, o, z1, ?_, z3⟩
    cases z : H0 a with
    | none => rfl
    | some u => exact absurd z2 (b.dom a (by rw [z]; simp))
  | b i =>
    have rv : σ[i]? = some (some v) := rv
    simp only at h2
    cases z : e1[i]? with
    | none => simp [z] at h2
    | some x =>
      cases x with
      | none => simp [z] at h2
      | some sl =>
        cases sl with
        | io d => simp [z] at h2
        | fz d =>
          simp only [z, Option.some.injEq] at h2
          subst h2
          obtain ⟨v', z1, z2⟩ := p1.rel.fz i d z
          rw [rv] at z1
          cases z1
          exact q _ σ F1 H1 p1.rel b1 z2
        | ow d =>
          simp only [z, Option.some.injEq] at h2
          subst h2
          obtain ⟨a, o, z1, z2, z3, z4⟩ := p1.rel.ow i _ z rfl
          rw [rv] at z1
          cases z1
          exact q _ σ F1 H1 p1.rel b1 ⟨a, o, rfl, b1.ow i d a z rv, z2, z3, z4⟩
theorem so_retN : SoS K X (.Return none pos) retN := ⟨_, fun _ => ps_retN, fun F0 H0 IO F H σ e out rel b hg Dn q => by
  cases hg
  exact q _ σ F H rel b .non⟩
theorem so_set {i : Nat} {x : Str} {pos' : Pos} (hN : ∀ j, (X j).N.Nodup) (he : SoE K X ex f) (hi : ∀ j, (X j).N[i]? = some x := by intro _; rfl) (hx : ∀ j, Loc (X j).env.scope x := by first | exact fun _ => Or.inl rfl | exact fun _ => Or.inr rfl)
    (hs : ∀ j, swapsWith ex (some (.Name x pos')) pos.line (X j).env = pure false := by intro _; rfl) (hf : ∀ j, (X j).fn x = true ∨ (X j).env.scope.names.lookup x = some .local := by first | exact fun _ => .inl rfl | exact fun _ => .inr rfl) :
    SoS K X (.Assign [.Name x pos'] ex pos) (asg i f) := by
  obtain ⟨t, p, s⟩ := he
  refine ⟨_, fun j => ps_set (hN j) (hi j) (hx j) (p j) (hs j) (hf j), fun F0 H0 IO F H σ e out rel b hg Dn q => ?_⟩
  obtain ⟨⟨r, e1⟩, h1, h2⟩ := bind_some hg
  obtain ⟨e2, h4, h3⟩ := Option.map_eq_some_iff.mp h2
  subst h3
  refine s F H σ e r e1 rel h1 _ fun v F1 H1 p1 rv => ?_
  obtain ⟨F2, r2, b2⟩ := stR_ok p1 rel rv h4
  exact q _ F2 H1 r2 (b2 F0 H0 IO b)
theorem so_asgT {tg : Expr} {g1 : D → En → Option En} {js : List Nat} (he : SoE K X ex f) (hg : SoG K X tg js g1) (hs : ∀ i, swapsWithSole [tg] ex pos.line (X i).env = pure false := by intro _; rfl) (hw : ∀ i, swappedStores [tg] ex (X i).env = pure none := by intro _; rfl)
    (h1 : ∀ i, (assignEach [tg] (X i).env).map (·.2) = [assign tg (X i).env] := by intro _; rfl) : SoS K X (.Assign [tg] ex pos) (asgT g1 f) := by
  obtain ⟨t, p, s⟩ := he
  obtain ⟨tg', pg, sg⟩ := hg
  refine ⟨_, fun j => ps_asg (p j) (pg j) (hs j) (hw j) (h1 j), fun F0 H0 IO F H σ e out rel b hg Dn q => ?_⟩
  obtain ⟨⟨r, e1⟩, h1, h2⟩ := bind_some hg
  obtain ⟨⟨d, e2⟩, h3, h4⟩ := bind_some h2
  obtain ⟨e3, h5, h6⟩ := Option.map_eq_some_iff.mp h4
  subst h6
  refine s F H σ e r e1 rel h1 _ fun v F1 H1 p1 rv => ?_
  obtain ⟨F2, p2, rd, _⟩ := frz_ok p1 rel rv h3
  exact sg F2 H1 σ e2 v d e3 p2.rel rd h5 _ fun σ' r' b' _ => q σ' F2 H1 r' (b' F0 H0 IO (b.step rel p2))
/-! ### blocks -/
theorem so_blk0 : SoB K X [] pas := ⟨_, fun _ => pss_nil, fun F0 H0 IO F H σ e out rel b hg Dn p => by
  cases hg
  exact p σ F H rel b⟩
theorem so_blk1 (h1 : SoS K X st g) : SoB K X [st] g := by
  obtain ⟨t, p, s⟩ := h1
  exact ⟨_, fun i => pss_one (p i), s⟩
theorem so_blk (h1 : SoS K X st g) (h2 : SoB K X sts h) : SoB K X (st :: sts) (seq g h) := by
  obtain ⟨t1, p1, s1⟩ := h1
  obtain ⟨t2, p2, s2⟩ := h2
  refine ⟨_, fun i => pss_cons (p1 i) (p2 i), fun F0 H0 IO F H σ e out rel b hg Dn q => ?_⟩
  obtain ⟨o, z1, z2⟩ := bind_some hg
  refine s1 F0 H0 IO F H σ e o rel b z1 _ ?_
  cases o with
  | nx e' => exact fun σ' F' H' r' b' => s2 F0 H0 IO F' H' σ' e' out r' b' z2 Dn q
  | rt r e' =>
    cases z2
    exact q
  | bk e' =>
    cases z2
    exact q
  | ct e' =>
    cases z2
    exact q
theorem so_if {c : Expr} {a b : List Stmt} {cf : M Bool} (hc : SoT K X c cf) (ha : SoB K X a g) (hb : SoB K X b h) : SoS K X (.If c a b pos) (ifS cf g h) := by
  obtain ⟨tc, pc, sc⟩ := hc
  obtain ⟨t1, p1, s1⟩ := ha
  obtain ⟨t2, p2, s2⟩ := hb
  refine ⟨_, fun i => ps_if (pc i) (p1 i) (p2 i), fun F0 H0 IO F H σ e out rel b hg Dn q => ?_⟩
  obtain ⟨⟨k, e1⟩, z1, z2⟩ := bind_some hg
  refine sc F H σ e k e1 rel z1 _ fun F1 H1 ps => ?_
  cases k with
  | true => exact s1 F0 H0 IO F1 H1 σ e1 out ps.rel (b.step rel ps) z2 Dn q
  | false => exact s2 F0 H0 IO F1 H1 σ e1 out ps.rel (b.step rel ps) z2 Dn q
/-! ### while -/
theorem so_while {c : Expr} {body : List Stmt} {cf : M Bool} (n : Nat) (hp : ∀ i, PassesOwn (model (X i).prog (X i).w) (X i).A (X i).env (X i).xe) (hc : SoT K X c cf) (hb : SoB K X body g) : SoS K X (.While c body [] pos) (whl cf g n) := by
  obtain ⟨tc, pc, sc⟩ := hc
  obtain ⟨t1, p1, s1⟩ := hb
  refine ⟨_, fun i => ps_while (hp i) (pc i) (p1 i), fun F0 H0 IO F H σ e out rel b hg Dn q => ?_⟩
  refine ⟨fun m σ H => ∃ F e, RelE K F H σ e ∧ Bs F0 H0 IO F H σ e ∧ whl cf g m e = some out, ⟨n, F, e, rel, b, hg⟩, ?_⟩
  rintro m σ H ⟨F, e, rel, b, hg⟩
  cases m with
  | zero => cases hg
  | succ m =>
    obtain ⟨⟨k, e1⟩, z1, z2⟩ := bind_some hg
    refine sc F H σ e k e1 rel z1 _ fun F1 H1 ps => ?_
    have b1 := b.step rel ps
    cases k with
    | false =>
      cases z2
      exact q σ F1 H1 ps.rel b1
    | true =>
      obtain ⟨o, z3, z4⟩ := bind_some z2
      refine ⟨fun σ' H' => ∃ F e, RelE K F H' σ' e ∧ Bs F0 H0 IO F H' σ' e ∧ whl cf g m e = some out, fun σ' H' h' => ⟨m, Nat.lt_succ_self m, h'⟩, ?_⟩
      refine s1 F0 H0 IO F1 H1 σ e1 o ps.rel b1 z3 _ ?_
      cases o with
      | nx e2 => exact fun σ' F' H' r' b' => ⟨F', e2, r', b', z4⟩
      | ct e2 => exact fun σ' F' H' r' b' => ⟨F', e2, r', b', z4⟩
      | bk e2 =>
        cases z4
        exact q
      | rt r e2 =>
        cases z4
        exact q
end

/-! ### what is walked -/
/-- n things, given one by one, each new or frozen; what is walked stays as long as what is frozen stays -/
structure WalkD (K : PySem.W.Frag) (F : Hp) (J : It) (ds : List D) : Prop where
  few : ds.length ≤ sizeLine
  ex : ∃ (G : Hp → Prop) (Y : Nat → Hp → V → Hp → Prop), Walk J ds.length G Y ∧ (∀ H, Ex F H → G H) ∧
    ∀ i Fc Hc v Hc', i < ds.length → Ex F Fc → Ex Fc Hc → Y i Hc v Hc' → ∃ Fc' d, Grow Fc Hc Fc' Hc' ∧ ds[i]? = some d ∧ Rep K Fc' v d
def SemI (K : PySem.W.Frag) (t : TI) (f : M (List D)) : Prop := ∀ (F H : Hp) (σ : L2.St) (e : En) (ds : List D) (e' : En), RelE K F H σ e → f e = some (ds, e') →
  ∀ R : It → Hp → Prop, (∀ J F' H', Pst K F H σ e F' H' e' → WalkD K F' J ds → R J H') → t σ H R
def SoI {ι : Type} (K : PySem.W.Frag) (X : ι → Cx) (tg iter : Expr) (f : M (List D)) : Prop := ∃ t, (∀ i, PI (X i) tg iter t) ∧ SemI K t f
section
variable {ι : Type} {K : PySem.W.Frag} {X : ι → Cx} {st : Stmt} {sts : List Stmt} {ex : Expr} {f : M R} {g h : En → Option Out} {pos : Pos}
theorem so_for {tg iter : Expr} {body : List Stmt} {it : M (List D)} {g1 : D → En → Option En} {js : List Nat} (hi : SoI K X tg iter it) (hg : SoG K X tg js g1) (hb : SoB K X body g) (hp : ∀ i, PassesOwn (model (X i).prog (X i).w) (X i).A (X i).env (X i).xe)
    (hc : ∀ i, (X i).calm = true := by intro _; rfl) (hs : ∀ i x, foldedSetIterable iter (X i).env x = pure x := by intro _ _; rfl) : SoS K X (.For tg iter body [] pos) (forS it g1 g) := by
  obtain ⟨ti, pi, si⟩ := hi
  obtain ⟨tg', pg, sg⟩ := hg
  obtain ⟨t1, p1, s1⟩ := hb
  refine ⟨_, fun i => ps_for (hp i) (hc i) (pi i) (pg i) (p1 i) (hs i), fun F0 H0 IO F H σ e out rel b hg Dn q => ?_⟩
  obtain ⟨⟨ds, e1⟩, z1, z2⟩ := bind_some hg
  refine si F H σ e ds e1 rel z1 _ fun J F1 H1 ps wd => ?_
  obtain ⟨G, Y, wk, wG, wY⟩ := wd.ex
  have b1 := b.step rel ps
  refine for_it wk (fun i σ' H' => ∃ F' e', RelE K F' H' σ' e' ∧ Bs F1 H0 IO F' H' σ' e' ∧ loop g1 g (ds.drop i) e' = some out) ?_ ?_ ?_ ?_
  · exact ⟨F1, e1, ps.rel, b1.rebase, by simpa using z2⟩
  · rintro i σ' H' _ ⟨F', e', r1, b', _⟩
    exact wG H' (b'.ff.trans r1.sub)
  · rintro i x σ' Hc Hc' hi ⟨F', e', r1, b', zl⟩ y
    obtain ⟨Fc, d, gr, hd, rd⟩ := wY i F' Hc x Hc' hi b'.ff r1.sub y
    have hdrop : ds.drop i = d :: ds.drop (i + 1) := by
      rw [List.drop_eq_getElem_cons hi]
      congr 1
      rw [List.getElem?_eq_getElem hi] at hd
      exact Option.some.inj hd
    rw [hdrop] at zl
    obtain ⟨e2, y1, zl⟩ := bind_some zl
    obtain ⟨o, y2, zl⟩ := bind_some zl
    have gp := gr.pst r1
    refine sg Fc Hc' σ' e' x d e2 gp.rel rd y1 _ fun σ2 r2 b2 _ => ?_
    refine s1 F1 H0 IO Fc Hc' σ2 e2 o r2 (b2 F1 H0 IO (b'.step r1 gp)) y2 _ ?_
    cases o with
    | nx e3 => exact fun σ3 F3 H3 r3 b3 => ⟨F3, e3, r3, b3, zl⟩
    | ct e3 => exact fun σ3 F3 H3 r3 b3 => ⟨F3, e3, r3, b3, zl⟩
    | bk e3 =>
      cases zl
      exact fun σ3 F3 H3 r3 b3 => q σ3 F3 H3 r3 (b1.unbase b3)
    | rt r e3 =>
      cases zl
      exact fun v σ3 F3 H3 r3 b3 rv => q v σ3 F3 H3 r3 (b1.unbase b3) rv
  · rintro σ' H' ⟨F', e', r1, b', zl⟩
    rw [List.drop_length] at zl
    cases zl
    exact q σ' F' H' r1 (b1.unbase b')
end
end Sl

set_option Elab.async false
set_option linter.all false
set_option maxRecDepth 100000
set_option maxHeartbeats 2000000
set_option autoImplicit false
/-! Arguments, built-ins, methods, calls, defs. -/
namespace Sl
open PySem L2 Evl
/-! ### pending arguments -/
def RepW (K : PySem.W.Frag) (F : Hp) (σ : L2.St) (v : V) : R → Prop
  | .v d => Rep K F v d
  | .b i => σ[i]? = some (some v)
  | .n _ => False
inductive RepWs (K : PySem.W.Frag) (F : Hp) (σ : L2.St) : List V → List R → Prop
  | nil : RepWs K F σ [] []
  | cons {v : V} {vs : List V} {r : R} {rs : List R} : RepW K F σ v r → RepWs K F σ vs rs → RepWs K F σ (v :: vs) (r :: rs)
def SemP (K : PySem.W.Frag) (t : TA) (f : M (List R)) : Prop := ∀ (F H : Hp) (σ : L2.St) (e : En) (rs : List R) (e' : En), RelE K F H σ e → f e = some (rs, e') →
  ∀ Q : List V → Hp → Prop, (∀ vs F' H', Pst K F H σ e F' H' e' → RepWs K F' σ vs rs → Q vs H') → t σ H Q
def SoP {ι : Type} (K : PySem.W.Frag) (X : ι → Cx) (es : List Expr) (f : M (List R)) : Prop := ∃ t, (∀ i, PA (X i) es t) ∧ SemP K t f
def nilP : M (List R) := fun e => some ([], e)
def consP (f : M R) (g : M (List R)) : M (List R) := fun e => (f e).bind fun p => (g p.2).bind fun q => some (p.1.nf :: q.1, q.2)
/-- frozen as it is met -/
def consF (f : M R) (g : M (List R)) : M (List R) := fun e => (f e).bind fun p => (frz p.1 p.2).bind fun s => (g s.2).bind fun q => some (.v s.1 :: q.1, q.2)
def getAll : List R → En → Option (List D)
  | [], _ => some []
  | r :: rs, e => (r.get e).bind fun d => (getAll rs e).bind fun ds => some (d :: ds)
def blt (o : List D → Option R) (f : M (List R)) : M R := fun e => (f e).bind fun p => (getAll p.1 p.2).bind fun ds => (o ds).map fun r => (r, p.2)
inductive ViewA (K : PySem.W.Frag) (F H : Hp) : List V → List D → Prop
  | nil : ViewA K F H [] []
  | cons {v : V} {vs : List V} {d : D} {ds : List D} : View K F H v d → ViewA K F H vs ds → ViewA K F H (v :: vs) (d :: ds)
def CaL (K : PySem.W.Frag) (r : List V → Hp → VK → Prop) (o : List D → Option R) : Prop := ∀ (F H : Hp) (vs : List V) (ds : List D) (res : R), Ex F H → ViewA K F H vs ds → o ds = some res →
  ∀ Q : VK, (∀ v F' H', Grow F H F' H' → RepR K F' H' H [] v res → Q v H') → r vs H Q
def MeL (K : PySem.W.Frag) (r : V → List V → Hp → VK → Prop) (o : D → List D → Option R) : Prop := ∀ (F H : Hp) (x : V) (dx : D) (vs : List V) (ds : List D) (res : R), Ex F H → View K F H x dx → ViewA K F H vs ds → o dx ds = some res →
  ∀ Q : VK, (∀ v F' H', Grow F H F' H' → RepR K F' H' H [] v res → Q v H') → r x vs H Q
section
variable {K : PySem.W.Frag} {F F' H : Hp} {σ : L2.St} {e : En}
theorem RepW.of {H' H0 : Hp} {v : V} {r : R} (h : RepR K F H' H0 σ v r.nf) : RepW K F σ v r.nf := by
  cases r <;> exact h
theorem RepW.mono (f : Ex F F') {v : V} {r : R} (h : RepW K F σ v r) : RepW K F' σ v r := by
  cases r with
  | v d => exact Rep.mono f h
  | b i => exact h
  | n d => exact h.elim
theorem RepWs.mono (f : Ex F F') : ∀ {vs : List V} {rs : List R}, RepWs K F σ vs rs → RepWs K F' σ vs rs
  | _, _, .nil => .nil
  | _, _, .cons h r => .cons (h.mono f) (RepWs.mono f r)
theorem RepWs.length : ∀ {vs : List V} {rs : List R}, RepWs K F σ vs rs → vs.length = rs.length
  | _, _, .nil => rfl
  | _, _, .cons _ r => congrArg (· + 1) (RepWs.length r)
theorem RepW.view (r : RelE K F H σ e) {v : V} {x : R} {d : D} (h : RepW K F σ v x) (g : x.get e = some d) : View K F H v d := by
  cases x with
  | v d' => exact r.view (H := H) (x := .v d') h g
  | b i => exact r.view (H := H) (x := .b i) h g
  | n d' => exact h.elim
theorem RepWs.view (r : RelE K F H σ e) : ∀ {vs : List V} {rs : List R} {ds : List D}, RepWs K F σ vs rs → getAll rs e = some ds → ViewA K F H vs ds
  | _, _, _, .nil, g => by
    cases g
    exact .nil
  | _, _, _, .cons h hs, g => by
    obtain ⟨d, g1, g⟩ := bind_some g
    obtain ⟨ds, g2, g⟩ := bind_some g
    cases g
    exact .cons (h.view r g1) (RepWs.view r hs g2)
end
section
variable {ι : Type} {K : PySem.W.Frag} {X : ι → Cx} {a ob : Expr} {es : List Expr} {f : M R} {fs : M (List R)} {pos apos p : Pos} {x name : Str} {T id : String}
theorem so_p0 : SoP K X [] nilP := ⟨_, fun _ => pa_nil, fun F H σ e rs e' rel hf Q q => by
  cases hf
  exact q [] F H (Pst.refl rel) .nil⟩
theorem so_pP (ha : SoE K X a f) (hs : SoP K X es fs) (hst : ∀ i, starEach (a :: es) (X i).env = (false, eval a (X i).env) :: starEach es (X i).env := by intro _; rfl) : SoP K X (a :: es) (consP f fs) := by
  obtain ⟨ta, pa, ha⟩ := ha
  obtain ⟨ts, ps, hs⟩ := hs
  refine ⟨_, fun i => pa_cons (pa i) (ps i) (hst i), fun F H σ e rs e' rel hf Q q => ?_⟩
  obtain ⟨⟨r1, e1⟩, h1, hf⟩ := bind_some hf
  obtain ⟨⟨rs', e3⟩, h3, hf⟩ := bind_some hf
  cases hf
  refine ha F H σ e r1 e1 rel h1 _ fun v F1 H1 p1 rv => ?_
  obtain ⟨F2, p2, rv, _⟩ := rv.nf p1 rel
  exact hs F2 H1 σ e1 rs' _ p2.rel h3 _ fun vs F3 H3 p3 rs => q _ F3 H3 (p2.trans p3) (.cons ((RepW.of rv).mono p3.stp.ff) rs)
theorem so_pF (ha : SoE K X a f) (hs : SoP K X es fs) (hst : ∀ i, starEach (a :: es) (X i).env = (false, eval a (X i).env) :: starEach es (X i).env := by intro _; rfl) : SoP K X (a :: es) (consF f fs) := by
  obtain ⟨ta, pa, ha⟩ := ha
  obtain ⟨ts, ps, hs⟩ := hs
  refine ⟨_, fun i => pa_cons (pa i) (ps i) (hst i), fun F H σ e rs e' rel hf Q q => ?_⟩
  obtain ⟨⟨r1, e1⟩, h1, hf⟩ := bind_some hf
  obtain ⟨⟨d, e2⟩, h2, hf⟩ := bind_some hf
  obtain ⟨⟨rs', e3⟩, h3, hf⟩ := bind_some hf
  cases hf
  refine ha F H σ e r1 e1 rel h1 _ fun v F1 H1 p1 rv => ?_
  obtain ⟨F2, p2, rd, _⟩ := frz_ok p1 rel rv h2
  exact hs F2 H1 σ e2 rs' _ p2.rel h3 _ fun vs F3 H3 p3 rs => q _ F3 H3 (p2.trans p3) (.cons (show RepW K F3 σ v (.v d) from rd.mono p3.stp.ff) rs)
/-! ### built-in functions and types, called by their names -/
theorem so_blt {r : List V → Hp → VK → Prop} {o : List D → Option R} (hc : ∀ i, CallR (X i) (.builtin id) r) (l : CaL K r o) (hm : ∀ i, (X i).mg x = none) (hv : bootBuiltins x = some (.builtin id)) (ha : SoP K X (a :: es) fs)
    (hg : ∀ i, Gl (X i) x := by intro _; rfl) (hn : x ≠ "__name__" := by decide) (hdb : (x == ("__debug__" : Str)) = false := by decide) (he : ∀ i, starEach (a :: es) (X i).env = (false, eval a (X i).env) :: starEach es (X i).env := by intro _; rfl)
    (hpl : ∀ i, (backTo pos (starEach es (X i).env)).any (·.1) = false := by intro _; rfl) : SoE K X (.Call (.Name x p) (a :: es) [] pos) (blt o fs) := by
  obtain ⟨ta, pa, ha⟩ := ha
  refine ⟨_, fun i => pe_callB (hc i) (hg i) (hm i) hv (pa i) hn hdb (he i) (hpl i), fun F H σ e r e' rel hf Q q => ?_⟩
  obtain ⟨⟨rs, e1⟩, h1, hf⟩ := bind_some hf
  obtain ⟨ds, h2, hf⟩ := bind_some hf
  obtain ⟨z, h5, h6⟩ := Option.map_eq_some_iff.mp hf
  cases h6
  refine ha F H σ e rs e1 rel h1 _ fun vs F1 H1 p1 rw' => ?_
  exact l F1 H1 vs ds _ p1.rel.sub (rw'.view p1.rel h2) h5 Q fun u F3 H3 gr rr => q u F3 H3 (p1.trans (gr.pst p1.rel)) (rr.wide p1.stp.dom)
theorem so_ty {r : List V → Hp → VK → Prop} {o : List D → Option R} (hc : ∀ i, CallR (X i) (.type T) r) (l : CaL K r o) (hm : ∀ i, (X i).mg x = none) (hv : bootBuiltins x = some (.type T)) (ha : SoP K X (a :: es) fs)
    (hg : ∀ i, Gl (X i) x := by intro _; rfl) (hn : x ≠ "__name__" := by decide) (hdb : (x == ("__debug__" : Str)) = false := by decide) (he : ∀ i, starEach (a :: es) (X i).env = (false, eval a (X i).env) :: starEach es (X i).env := by intro _; rfl)
    (hpl : ∀ i, (backTo pos (starEach es (X i).env)).any (·.1) = false := by intro _; rfl) : SoE K X (.Call (.Name x p) (a :: es) [] pos) (blt o fs) := by
  obtain ⟨ta, pa, ha⟩ := ha
  refine ⟨_, fun i => pe_callTy (hc i) (hg i) (hm i) hv (pa i) hn hdb (he i) (hpl i), fun F H σ e r e' rel hf Q q => ?_⟩
  obtain ⟨⟨rs, e1⟩, h1, hf⟩ := bind_some hf
  obtain ⟨ds, h2, hf⟩ := bind_some hf
  obtain ⟨z, h5, h6⟩ := Option.map_eq_some_iff.mp hf
  cases h6
  refine ha F H σ e rs e1 rel h1 _ fun vs F1 H1 p1 rw' => ?_
  exact l F1 H1 vs ds _ p1.rel.sub (rw'.view p1.rel h2) h5 Q fun u F3 H3 gr rr => q u F3 H3 (p1.trans (gr.pst p1.rel)) (rr.wide p1.stp.dom)
/-! ### indexing -/
theorem so_ix {b : Expr} {r : R2} {o : D → D → Option R} {g : M R} (hr : ∀ i, IxR (X i) r) (l : OpL K r o) (ha : SoE K X a f) (hb : SoE K X b g) (hs : PlainIx b := by intro _ _; rfl) : SoE K X (.Subscript a b pos) (bin o f g) := by
  obtain ⟨ta, pa, ha⟩ := ha
  obtain ⟨tb, pb, hb⟩ := hb
  refine ⟨_, fun i => pe_ix (hr i) (pa i) (pb i) hs, fun F H σ e r e' rel hf Q q => ?_⟩
  obtain ⟨p1, h1, hf⟩ := bind_some hf
  obtain ⟨p2, h2, hf⟩ := bind_some hf
  obtain ⟨x, h3, hf⟩ := bind_some hf
  obtain ⟨y, h4, hf⟩ := bind_some hf
  obtain ⟨z, h5, h6⟩ := Option.map_eq_some_iff.mp hf
  cases h6
  refine two_ok ha hb rel h1 h2 h3 h4 fun v w F2 H2 ps vx vy => ?_
  exact l F2 H2 v w x y _ ps.rel.sub vx vy h5 Q fun u F3 H3 gr rr => q u F3 H3 (ps.trans (gr.pst ps.rel)) (rr.wide ps.stp.dom)
/-! ### slices -/
def OL (K : PySem.W.Frag) (t : TO) (g : M (Option Int)) : Prop := ∀ (F H : Hp) (σ : L2.St) (e : En) (o : Option Int) (e' : En), RelE K F H σ e → g e = some (o, e') →
  ∀ Q : Option Int → Hp → Prop, (∀ F' H', Pst K F H σ e F' H' e' → Q o H') → t σ H Q
def SoO {ι : Type} (K : PySem.W.Frag) (X : ι → Cx) (o : Option Expr) (g : M (Option Int)) : Prop := ∃ t, (∀ i, PO (X i) o t) ∧ OL K t g
def noP : M (Option Int) := fun e => some (none, e)
def someP (f : M R) : M (Option Int) := fun e => (f e).bind fun p => match p.1.get p.2 with
  | some (.int i) => some (some i, p.2)
  | _ => none
theorem so_o0 : SoO K X none noP := ⟨_, fun _ => po_none, fun F H σ e o e' rel hf Q q => by
  cases hf
  exact q F H (Pst.refl rel)⟩
theorem so_o1 (ha : SoE K X a f) : SoO K X (some a) (someP f) := by
  obtain ⟨ta, pa, ha⟩ := ha
  refine ⟨_, fun i => po_some (pa i), fun F H σ e o e' rel hf Q q => ?_⟩
  obtain ⟨⟨r1, e1⟩, h1, hf⟩ := bind_some hf
  simp only at hf
  cases g : r1.get e1 with
  | none => simp [g] at hf
  | some d =>
    cases d with
    | int i =>
      simp only [g, Option.some.injEq, Prod.mk.injEq] at hf
      obtain ⟨rfl, rfl⟩ := hf
      exact ha F H σ e r1 e1 rel h1 _ fun v F1 H1 p1 rv => ⟨i, (p1.rel.view rv g).int, q F1 H1 p1⟩
    | _ => simp [g] at hf
def SlL (K : PySem.W.Frag) (r : V → Option Int → Option Int → Hp → VK → Prop) (o : D → Option Int → Option Int → Option R) : Prop := ∀ (F H : Hp) (x : V) (dx : D) (lo hi : Option Int) (res : R), Ex F H → View K F H x dx → o dx lo hi = some res →
  ∀ Q : VK, (∀ v F' H', Grow F H F' H' → RepR K F' H' H [] v res → Q v H') → r x lo hi H Q
def slc (o : D → Option Int → Option Int → Option R) (f : M R) (lo hi : M (Option Int)) : M R := fun e => (f e).bind fun p => (lo p.2).bind fun q => (hi q.2).bind fun s => (p.1.get s.2).bind fun d => (o d q.1 s.1).map fun r => (r, s.2)
theorem so_slc {lo hi : Option Expr} {gl gh : M (Option Int)} {p2 : Pos} {r : V → Option Int → Option Int → Hp → VK → Prop} {o : D → Option Int → Option Int → Option R} (hr : ∀ i, SlR (X i) r) (l : SlL K r o) (ha : SoE K X a f) (h1 : SoO K X lo gl) (h2 : SoO K X hi gh) :
    SoE K X (.Subscript a (.Slice lo hi none p2) pos) (slc o f gl gh) := by
  obtain ⟨ta, pa, ha⟩ := ha
  obtain ⟨tl, pl, hl⟩ := h1
  obtain ⟨th, ph, hh⟩ := h2
  refine ⟨_, fun i => pe_slice (hr i) (pa i) (pl i) (ph i), fun F H σ e r e' rel hf Q q => ?_⟩
  obtain ⟨⟨r1, e1⟩, h1, hf⟩ := bind_some hf
  obtain ⟨⟨o1, e2⟩, h2, hf⟩ := bind_some hf
  obtain ⟨⟨o2, e3⟩, h3, hf⟩ := bind_some hf
  obtain ⟨x, h4, hf⟩ := bind_some hf
  obtain ⟨z, h5, h6⟩ := Option.map_eq_some_iff.mp hf
  cases h6
  refine ha F H σ e r1 e1 rel h1 _ fun v F1 H1 p1 rv => ?_
  obtain ⟨F1', p1', rv', _⟩ := rv.nf p1 rel
  refine hl F1' H1 σ e1 o1 e2 p1'.rel h2 _ fun F2 H2 p2 => ?_
  refine hh F2 H2 σ e2 o2 e3 p2.rel h3 _ fun F3 H3 p3 => ?_
  have pp := (p1'.trans p2).trans p3
  have gx' : r1.nf.get e3 = some x := by cases r1 <;> exact h4
  exact l F3 H3 v x o1 o2 _ pp.rel.sub (pp.rel.view (H := H) (rv'.stay (R.nf_still _) (p2.stp.ff.trans p3.stp.ff)) gx') h5 Q fun u F4 H4 gr rr => q u F4 H4 (pp.trans (gr.pst pp.rel)) (rr.wide pp.stp.dom)
/-! ### methods of values -/
def isT (T : String) : D → Bool
  | .list _ => T == "list"
  | .str _ => T == "str"
  | .dict es => T == "dict" && nx es
  | _ => false
theorem isT_ok {F H : Hp} {v : V} {d : D} (s : Ex F H) (h : View K F H v d) (t : isT T d = true) : tyV K T v H := by
  cases d with
  | list ds =>
    obtain ⟨a, xs, rfl, hs, _⟩ := h.lst s
    exact .inl ⟨eq_of_beq t, xs, hs⟩
  | str z =>
    rw [h.str]
    exact eq_of_beq t
  | dict es =>
    have t := Bool.and_eq_true_iff.mp (show (T == "dict" && nx es) = true from t)
    obtain ⟨a, kvs, rfl, h1, _⟩ := h.dict s t.2
    exact .inr (.inr (.inl ⟨eq_of_beq t.1, .inl ⟨kvs, h1⟩⟩))
  | _ => cases t
def meth (T : String) (o : D → List D → Option R) (f : M R) (g : M (List R)) : M R := fun e => (f e).bind fun p => (p.1.get p.2).bind fun d0 => if isT T d0 then (g p.2).bind fun q => (p.1.get q.2).bind fun d => (getAll q.1 q.2).bind fun ds => (o d ds).map fun r => (r, q.2) else none
theorem so_meth {r : V → List V → Hp → VK → Prop} {o : D → List D → Option R} (pa : PlainAttrs T) (slot : PySem.Slot T name id) (hty : typeOf (.builtin id) = pure (.type "method_descriptor")) (hm : ∀ i, MtR (X i) id r) (l : MeL K r o)
    (ho : SoE K X ob f) (ha : SoP K X (a :: es) fs) (hK : ∀ i, (X i).K = K := by intro _; rfl)
    (hbase : ∀ i, attributeBase ob name (X i).env (eval ob (X i).env) = eval ob (X i).env := by intro _; rfl)
    (hfew : ∀ i, ((backTo pos (starEach (a :: es) (X i).env)).all (fun x => !x.1) && (backToKw pos (keywordEach [] (X i).env)).all (fun x => x.1.isSome)
      && decide ((a :: es).length + ([] : List Keyword).length + (if ([] : List Keyword).isEmpty then 0 else 1) < 30)) = true := by intro _; rfl)
    (hline : (apos.endLine == pos.line) = true := by rfl) (hs : ∀ i, starEach (a :: es) (X i).env = (false, eval a (X i).env) :: starEach es (X i).env := by intro _; rfl) (hplain : ∀ i, (backTo pos (starEach es (X i).env)).any (·.1) = false := by intro _; rfl) :
    SoE K X (.Call (.Attribute ob name apos) (a :: es) [] pos) (meth T o f fs) := by
  obtain ⟨to, po, ho⟩ := ho
  obtain ⟨ta, pargs, ha⟩ := ha
  refine ⟨tBM K T r to ta, fun i => by have := pe_bm pa slot hty (hm i) (po i) (pargs i) (hbase i) (hfew i) hline (hs i) (hplain i); rw [hK i] at this; exact this, fun F H σ e r e' rel hf Q q => ?_⟩
  obtain ⟨⟨r1, e1⟩, h1, hf⟩ := bind_some hf
  obtain ⟨d0, h2, hf⟩ := bind_some hf
  split at hf
  · rename_i hT
    obtain ⟨⟨rs, e2⟩, h3, hf⟩ := bind_some hf
    obtain ⟨d, h4, hf⟩ := bind_some hf
    obtain ⟨ds, h5, hf⟩ := bind_some hf
    obtain ⟨z, h6, h7⟩ := Option.map_eq_some_iff.mp hf
    cases h7
    refine ho F H σ e r1 e1 rel h1 _ fun v F1 H1 p1 rv => ?_
    obtain ⟨F1', p1', rv', _⟩ := rv.nf p1 rel
    refine ⟨isT_ok p1.rel.sub (p1.rel.view rv h2) hT, ha F1' H1 σ e1 rs e2 p1'.rel h3 _ fun vs F2 H2 p2 rw' => ?_⟩
    have pp := p1'.trans p2
    have gx' : r1.nf.get e2 = some d := by cases r1 <;> exact h4
    exact l F2 H2 v d vs ds _ pp.rel.sub (pp.rel.view (H := H) (rv'.stay (R.nf_still _) p2.stp.ff) gx') (rw'.view pp.rel h5) h6 Q fun u F3 H3 gr rr => q u F3 H3 (pp.trans (gr.pst pp.rel)) (rr.wide pp.stp.dom)
  · cases hf
def meth0 (T : String) (o : D → List D → Option R) (f : M R) : M R := fun e => (f e).bind fun p => (p.1.get p.2).bind fun d => if isT T d then (o d []).map fun r => (r, p.2) else none
theorem so_meth0 {r : V → List V → Hp → VK → Prop} {o : D → List D → Option R} (pa : PlainAttrs T) (slot : PySem.Slot T name id) (hty : typeOf (.builtin id) = pure (.type "method_descriptor")) (hm : ∀ i, MtR (X i) id r) (l : MeL K r o)
    (ho : SoE K X ob f) (hK : ∀ i, (X i).K = K := by intro _; rfl) (hbase : ∀ i, attributeBase ob name (X i).env (eval ob (X i).env) = eval ob (X i).env := by intro _; rfl) (hline : (apos.endLine == pos.line) = true := by rfl) :
    SoE K X (.Call (.Attribute ob name apos) [] [] pos) (meth0 T o f) := by
  obtain ⟨to, po, ho⟩ := ho
  refine ⟨tBM0 K T r to, fun i => by have := pe_bm0 (cpos := pos) pa slot hty (hm i) (po i) (hbase i) hline; rw [hK i] at this; exact this, fun F H σ e r e' rel hf Q q => ?_⟩
  obtain ⟨⟨r1, e1⟩, h1, hf⟩ := bind_some hf
  obtain ⟨d0, h2, hf⟩ := bind_some hf
  split at hf
  · rename_i hT
    obtain ⟨z, h6, h7⟩ := Option.map_eq_some_iff.mp hf
    cases h7
    refine ho F H σ e r1 e1 rel h1 _ fun v F1 H1 p1 rv => ⟨isT_ok p1.rel.sub (p1.rel.view rv h2) hT, ?_⟩
    exact l F1 H1 v d0 [] [] _ p1.rel.sub (p1.rel.view rv h2) .nil h6 Q fun u F3 H3 gr rr => q u F3 H3 (p1.trans (gr.pst p1.rel)) (rr.wide p1.stp.dom)
  · cases hf
end

/-! ### a list of one's own is changed -/
/-- the new content of what the name i owns -/
def put (i : Nat) (d : D) (e : En) : Option En := match e[i]? with
  | some (some (.ow _)) => some (e.set i (some (.ow d)))
  | some (some (.io _)) => some (e.set i (some (.io d)))
  | _ => none
section
variable {K : PySem.W.Frag} {F H : Hp} {σ : L2.St} {e e' : En}
theorem put_ok (r : RelE K F H σ e) {i : Nat} {a : Addr} {d : D} {o : HO} (hσ : σ[i]? = some (some (.ref a))) (hp : put i d e = some e') (ho : RepO K F o d) : Pst K F H σ e F (upd H a o) e' := by
  have key : ∃ s s' : Cel, e[i]? = some (some s) ∧ s.own = true ∧ s'.own = true ∧ s'.d = d ∧ e' = e.set i (some s') ∧ (∀ d0, s = .io d0 → s' = .io d) ∧ (∀ d0, s = .ow d0 → s' = .ow d) := by
    unfold put at hp
    cases q : e[i]? with
    | none => simp [q] at hp
    | some x =>
      cases x with
      | none => simp [q] at hp
      | some s =>
        cases s with
        | fz _ => simp [q] at hp
        | ow d0 =>
          simp only [q, Option.some.injEq] at hp
          exact ⟨_, .ow d, rfl, rfl, rfl, rfl, hp.symm, fun _ z => (by cases z), fun _ _ => rfl⟩
        | io d0 =>
          simp only [q, Option.some.injEq] at hp
          exact ⟨_, .io d, rfl, rfl, rfl, rfl, hp.symm, fun _ _ => rfl, fun _ z => (by cases z)⟩
  obtain ⟨s, s', q1, q2, q3, q4, rfl, q5, q6⟩ := key
  have hi : i < e.length := (List.getElem?_eq_some_iff.mp q1).1
  have Oa : Own σ e a := ⟨i, s, q1, q2, hσ⟩
  have Fa : F a = none := (r.ownH Oa).2
  refine ⟨⟨Ex.refl F, fun b u hb hn => ?_, fun b _ _ => rfl, fun b hb => ?_⟩, ⟨by rw [List.length_set]; exact r.len, fun b u hb => ?_, fun j d' h => ?_, fun j t h ht => ?_, fun j k t u b h1 s1 h2 s2 => ?_⟩, ⟨fun j t h ht => ?_, fun j d' h => ?_, fun j d' h => ?_⟩⟩
  · rw [upd_ne (by rintro rfl; exact hn Oa)]
    exact hb
  · by_cases z : b = a
    · subst z
      rw [upd_same]
      simp
    · rw [upd_ne z]
      exact hb
  · rw [upd_ne (by rintro rfl; rw [Fa] at hb; cases hb)]
    exact r.sub b u hb
  · rw [set_get hi] at h
    by_cases z : j = i
    · rw [if_pos z] at h
      cases h
      cases q3
    · rw [if_neg z] at h
      exact r.fz j d' h
  · rw [set_get hi] at h
    by_cases z : j = i
    · rw [if_pos z] at h
      cases h
      subst z
      exact ⟨a, o, hσ, Fa, upd_same, by rw [q4]; exact ho⟩
    · rw [if_neg z] at h
      obtain ⟨b, u, z1, z2, z3, z4⟩ := r.ow j t h ht
      refine ⟨b, u, z1, z2, ?_, z4⟩
      rw [upd_ne]
      · exact z3
      · rintro rfl
        exact z (r.ds j i t s b h ht q1 q2 z1 hσ)
  · rw [set_get hi] at h1 h2
    have g : ∀ {j : Nat} {t : Cel}, (if j = i then some (some s') else e[j]?) = some (some t) → t.own = true → ∃ t' : Cel, e[j]? = some (some t') ∧ t'.own = true := fun {j t} h ht => by
      by_cases z : j = i
      · subst z
        exact ⟨s, q1, q2⟩
      · rw [if_neg z] at h
        exact ⟨t, h, ht⟩
    obtain ⟨t1, y1, y2⟩ := g h1 s1
    obtain ⟨t2, y3, y4⟩ := g h2 s2
    exact r.ds j k t1 t2 b y1 y2 y3 y4
  · rw [set_get hi] at h
    by_cases z : j = i
    · subst z
      exact ⟨s, q1, q2⟩
    · rw [if_neg z] at h
      exact ⟨t, h, ht⟩
  · by_cases z : j = i
    · subst z
      rw [h] at q1
      cases q1
      exact ⟨d, by rw [set_get hi, if_pos rfl, q5 d' rfl]⟩
    · exact ⟨d', by rw [set_get hi, if_neg z]; exact h⟩
  · rw [set_get hi] at h
    by_cases z : j = i
    · rw [if_pos z] at h
      subst z
      cases s with
      | io d0 => exact ⟨d0, q1⟩
      | ow d0 =>
        rw [q6 d0 rfl] at h
        cases h
      | fz d0 => cases q2
    · rw [if_neg z] at h
      exact ⟨d', h⟩
end
/-- a method that changes its object: the new content, the value -/
def MuL (K : PySem.W.Frag) (r : V → List V → Hp → VK → Prop) (o : D → List D → Option (D × D)) : Prop := ∀ (F H : Hp) (a : Addr) (ob : HO) (dx : D) (vs : List V) (ds : List D) (dx' res : D), Ex F H → H a = some ob → RepO K F ob dx → RepA K F vs ds → o dx ds = some (dx', res) →
  ∀ Q : VK, (∀ v ob', RepO K F ob' dx' → Rep K F v res → Q v (upd H a ob')) → r (.ref a) vs H Q
def mutM (T : String) (o : D → List D → Option (D × D)) (f : M R) (g : M (List D)) : M R := fun e => (f e).bind fun p => match p.1 with
  | .b i => (p.1.get p.2).bind fun d0 => if isT T d0 then (g p.2).bind fun q => (match q.2[i]? with
    | some (some s) => if s.own then (o s.d q.1).bind fun w => (put i w.1 q.2).map fun e2 => (.v w.2, e2) else none
    | _ => none) else none
  | _ => none
section
variable {ι : Type} {K : PySem.W.Frag} {X : ι → Cx} {a ob : Expr} {es : List Expr} {f : M R} {fs : M (List D)} {pos apos p : Pos} {x name : Str} {T id : String}
theorem so_mut {r : V → List V → Hp → VK → Prop} {o : D → List D → Option (D × D)} (pa : PlainAttrs T) (slot : PySem.Slot T name id) (hty : typeOf (.builtin id) = pure (.type "method_descriptor")) (hm : ∀ i, MtR (X i) id r) (l : MuL K r o)
    (ho : SoE K X ob f) (ha : SoA K X (a :: es) fs) (hK : ∀ i, (X i).K = K := by intro _; rfl)
    (hbase : ∀ i, attributeBase ob name (X i).env (eval ob (X i).env) = eval ob (X i).env := by intro _; rfl)
    (hfew : ∀ i, ((backTo pos (starEach (a :: es) (X i).env)).all (fun x => !x.1) && (backToKw pos (keywordEach [] (X i).env)).all (fun x => x.1.isSome)
      && decide ((a :: es).length + ([] : List Keyword).length + (if ([] : List Keyword).isEmpty then 0 else 1) < 30)) = true := by intro _; rfl)
    (hline : (apos.endLine == pos.line) = true := by rfl) (hs : ∀ i, starEach (a :: es) (X i).env = (false, eval a (X i).env) :: starEach es (X i).env := by intro _; rfl) (hplain : ∀ i, (backTo pos (starEach es (X i).env)).any (·.1) = false := by intro _; rfl) :
    SoE K X (.Call (.Attribute ob name apos) (a :: es) [] pos) (mutM T o f fs) := by
  obtain ⟨to, po, ho⟩ := ho
  obtain ⟨ta, pargs, ha⟩ := ha
  refine ⟨tBM K T r to ta, fun i => by have := pe_bm pa slot hty (hm i) (po i) (pargs i) (hbase i) (hfew i) hline (hs i) (hplain i); rw [hK i] at this; exact this, fun F H σ e r e' rel hf Q q => ?_⟩
  obtain ⟨⟨r1, e1⟩, h1, hf⟩ := bind_some hf
  cases r1 with
  | v d => cases hf
  | n d => cases hf
  | b i =>
    simp only at hf
    obtain ⟨d0, h2, hf⟩ := bind_some hf
    split at hf
    · rename_i hT
      obtain ⟨⟨ds, e2⟩, h3, hf⟩ := bind_some hf
      simp only at hf
      cases z : e2[i]? with
      | none => simp [z] at hf
      | some sx =>
        cases sx with
        | none => simp [z] at hf
        | some s =>
          simp only [z] at hf
          split at hf
          · rename_i hown
            obtain ⟨⟨d1, res⟩, h4, hf⟩ := bind_some hf
            obtain ⟨e3, h5, h6⟩ := Option.map_eq_some_iff.mp hf
            cases h6
            refine ho F H σ e _ e1 rel h1 _ fun v F1 H1 p1 rv => ⟨isT_ok p1.rel.sub (p1.rel.view rv h2) hT, ?_⟩
            refine ha F1 H1 σ e1 ds e2 p1.rel h3 _ fun vs F2 H2 p2 rs => ?_
            have rv : σ[i]? = some (some v) := rv
            obtain ⟨a, o', w1, w2, w3, w4⟩ := p2.rel.ow i s z hown
            rw [rv] at w1
            cases w1
            exact l F2 H2 a o' s.d vs ds d1 res p2.rel.sub w3 w4 rs h4 Q fun v' ob' y1 y2 => q v' F2 _ ((p1.trans p2).trans (put_ok p2.rel rv h5 y1)) y2
          · cases hf
    · cases hf
def mutM0 (T : String) (o : D → List D → Option (D × D)) (f : M R) : M R := fun e => (f e).bind fun p => match p.1 with
  | .b i => (match p.2[i]? with
    | some (some s) => if isT T s.d && s.own then (o s.d []).bind fun w => (put i w.1 p.2).map fun e2 => (.v w.2, e2) else none
    | _ => none)
  | _ => none
theorem so_mut0 {r : V → List V → Hp → VK → Prop} {o : D → List D → Option (D × D)} (pa : PlainAttrs T) (slot : PySem.Slot T name id) (hty : typeOf (.builtin id) = pure (.type "method_descriptor")) (hm : ∀ i, MtR (X i) id r) (l : MuL K r o)
    (ho : SoE K X ob f) (hK : ∀ i, (X i).K = K := by intro _; rfl) (hbase : ∀ i, attributeBase ob name (X i).env (eval ob (X i).env) = eval ob (X i).env := by intro _; rfl) (hline : (apos.endLine == pos.line) = true := by rfl) :
    SoE K X (.Call (.Attribute ob name apos) [] [] pos) (mutM0 T o f) := by
  obtain ⟨to, po, ho⟩ := ho
  refine ⟨tBM0 K T r to, fun i => by have := pe_bm0 (cpos := pos) pa slot hty (hm i) (po i) (hbase i) hline; rw [hK i] at this; exact this, fun F H σ e r e' rel hf Q q => ?_⟩
  obtain ⟨⟨r1, e1⟩, h1, hf⟩ := bind_some hf
  cases r1 with
  | v d => cases hf
  | n d => cases hf
  | b i =>
    simp only at hf
    cases z : e1[i]? with
    | none => simp [z] at hf
    | some sx =>
      cases sx with
      | none => simp [z] at hf
      | some s =>
        simp only [z] at hf
        split at hf
        · rename_i hb
          obtain ⟨hT, hown⟩ := Bool.and_eq_true_iff.mp hb
          obtain ⟨⟨d1, res⟩, h4, hf⟩ := bind_some hf
          obtain ⟨e3, h5, h6⟩ := Option.map_eq_some_iff.mp hf
          cases h6
          refine ho F H σ e _ e1 rel h1 _ fun v F1 H1 p1 rv => ?_
          have rv' : σ[i]? = some (some v) := rv
          obtain ⟨a, o', w1, w2, w3, w4⟩ := p1.rel.ow i s z hown
          rw [rv'] at w1
          cases w1
          refine ⟨isT_ok p1.rel.sub (.inr ⟨a, o', rfl, w3, w4⟩) hT, ?_⟩
          exact l F1 H1 a o' s.d [] [] d1 res p1.rel.sub w3 w4 .nil h4 Q fun v' ob' y1 y2 => q v' F1 _ (p1.trans (put_ok p1.rel rv' h5 y1)) y2
        · cases hf
/-! ### x[i] = e -/
def SeL (K : PySem.W.Frag) (r : V → V → V → Hp → (Hp → Prop) → Prop) (o : D → D → D → Option D) : Prop := ∀ (F H : Hp) (a : Addr) (ob : HO) (dx : D) (vi vv : V) (di dv dx' : D), Ex F H → H a = some ob → RepO K F ob dx → View K F H vi di → Rep K F vv dv → o dx di dv = some dx' →
  ∀ Q : Hp → Prop, (∀ ob', RepO K F ob' dx' → Q (upd H a ob')) → r (.ref a) vi vv H Q
def setS (o : D → D → D → Option D) (f : M R) (fo fi : M R) : En → Option Out := fun e => (f e).bind fun p => (frz p.1 p.2).bind fun q => (fo q.2).bind fun s => (fi s.2).bind fun t => match s.1 with
  | .b i => (match t.2[i]? with
    | some (some c) => if c.own then (t.1.get t.2).bind fun k => (o c.d k q.1).bind fun w => (put i w t.2).map .nx else none
    | _ => none)
  | _ => none
theorem so_setS {b v : Expr} {r : V → V → V → Hp → (Hp → Prop) → Prop} {o : D → D → D → Option D} {fo fi : M R} {tpos : Pos} (hr : ∀ i, PSet (X i) r) (l : SeL K r o) (hv : SoE K X v f) (ho : SoE K X a fo) (hi : SoE K X b fi)
    (ha : ∀ i v, assign (.Subscript a b tpos) (X i).env v = (do
      let ov ← holding [v] (eval a (X i).env)
      let iv ← holding [v, ov] (eval b (X i).env)
      standAt tpos
      holding [v, ov, iv] (setItem ov iv v)
      release [v, ov, iv] []) := by intro _ _; rfl) (hs : ∀ i, swapsWithSole [.Subscript a b tpos] v pos.line (X i).env = pure false := by intro _; rfl) (hw : ∀ i, swappedStores [.Subscript a b tpos] v (X i).env = pure none := by intro _; rfl)
    (h1 : ∀ i, (assignEach [.Subscript a b tpos] (X i).env).map (·.2) = [assign (.Subscript a b tpos) (X i).env] := by intro _; rfl) : SoS K X (.Assign [.Subscript a b tpos] v pos) (setS o f fo fi) := by
  obtain ⟨tv, pv', hv⟩ := hv
  obtain ⟨to, po, ho⟩ := ho
  obtain ⟨ti, pi', hi⟩ := hi
  refine ⟨_, fun i => ps_asg (pv' i) (pg_sub (po i) (pi' i) (hr i) (ha i)) (hs i) (hw i) (h1 i), fun F0 H0 IO F H σ e out rel b hg Dn q => ?_⟩
  obtain ⟨⟨r1, e1⟩, z1, hg⟩ := bind_some hg
  obtain ⟨⟨dv, e2⟩, z2, hg⟩ := bind_some hg
  obtain ⟨⟨r2, e3⟩, z3, hg⟩ := bind_some hg
  obtain ⟨⟨r3, e4⟩, z4, hg⟩ := bind_some hg
  cases r2 with
  | v d => cases hg
  | n d => cases hg
  | b i =>
    simp only at hg
    cases z : e4[i]? with
    | none => simp [z] at hg
    | some sx =>
      cases sx with
      | none => simp [z] at hg
      | some s =>
        simp only [z] at hg
        split at hg
        · rename_i hown
          obtain ⟨k, z5, hg⟩ := bind_some hg
          obtain ⟨w, z6, hg⟩ := bind_some hg
          obtain ⟨e5, z7, z8⟩ := Option.map_eq_some_iff.mp hg
          subst z8
          refine hv F H σ e r1 e1 rel z1 _ fun v F1 H1 p1 rv => ?_
          obtain ⟨F2, p2, rd, _⟩ := frz_ok p1 rel rv z2
          refine ho F2 H1 σ e2 _ e3 p2.rel z3 _ fun vo F3 H3 p3 ro => ?_
          refine hi F3 H3 σ e3 r3 e4 p3.rel z4 _ fun vi F4 H4 p4 ri => ?_
          have ro : σ[i]? = some (some vo) := ro
          obtain ⟨ad, o', w1, w2, w3, w4⟩ := p4.rel.ow i s z hown
          rw [ro] at w1
          cases w1
          refine l F4 H4 ad o' s.d vi v k dv w p4.rel.sub w3 w4 (p4.rel.view ri z5) ((rd.mono p3.stp.ff).mono p4.stp.ff) z6 _ fun ob' y1 => ?_
          have pe := ((p2.trans p3).trans p4).trans (put_ok p4.rel ro z7 y1)
          exact q σ F4 _ pe.rel (b.step rel pe)
        · cases hg
end
end Sl

set_option Elab.async false
set_option linter.all false
set_option maxRecDepth 100000
set_option maxHeartbeats 2000000
set_option autoImplicit false
/-! Walks, comprehensions, calls of one's own defs, defs. -/
namespace Sl
open PySem PySem.Spec PyProof.Rows L2 Evl
/-! ### what is walked -/
def iterE (f : M R) : M (List D) := fun e => (f e).bind fun p => (frz p.1 p.2).bind fun q => match q.1 with
  | .list ds => some (ds, q.2)
  | .tuple ds => some (ds, q.2)
  | _ => none
def iSeq (K : PySem.W.Frag) (tl : TE) : TI := fun σ H R => tl σ H fun x H1 => ∃ a xs, x = .ref a ∧ ((SqL K H1 a xs ∧ (xs.length ≤ sizeLine → R (Itl K a) H1)) ∨ (SqT K H1 a xs ∧ (xs.length ≤ sizeLine → R (Itt K a) H1)))
theorem pi_seq {X : Cx} {tg l : Expr} {tl : TE} (hl : PE X l tl) : PI X tg l (iSeq X.K tl) := by
  refine ⟨fun pins s σ H R I h => ?_⟩
  refine thn (hl.run pins s σ H _ I h) fun v s1 ⟨x, H1, I1, r1, q1⟩ => ?_
  obtain ⟨a, xs, e, q⟩ := q1
  subst e
  cases r1
  rcases q with ⟨hq, q⟩ | ⟨hq, q⟩
  · obtain ⟨its, rv, p, hz⟩ := I1.list hq
    refine wpAny_pyIter_list p.isList ?_
    refine ⟨s1.heap.objs.size, [s1.heap.objs.size], _, _, H1, rfl, I1.kept (t' := s1.toks) fun b o e => Heap.get?_push_of_some _ e, turn_list a _, ⟨_, Heap.get?_push_size _ rfl, rfl, rfl⟩, fun b hb => ?_, q hz⟩
    have e : b = s1.heap.objs.size := by simpa using hb
    subst e
    exact I1.fpOk (Nat.le_refl _) (I1.hok.fresh (Nat.le_refl _))
  · obtain ⟨its, rv, p, hz⟩ := I1.tuple hq
    refine wpAny_pyIter_tuple (show s1.heap.IsTuple a its.toArray from p) ?_
    refine ⟨s1.heap.objs.size, [s1.heap.objs.size], _, _, H1, rfl, I1.kept (t' := s1.toks) fun b o e => Heap.get?_push_of_some _ e, turn_tuple a _, ⟨_, Heap.get?_push_size _ rfl, rfl, rfl⟩, fun b hb => ?_, q hz⟩
    have e : b = s1.heap.objs.size := by simpa using hb
    subst e
    exact I1.fpOk (Nat.le_refl _) (I1.hok.fresh (Nat.le_refl _))
def rngD (lo : Int) (n : Nat) : List D := (List.range n).map fun k => .int (lo + (k : Nat))
def rngE (f : M (List D)) : M (List D) := fun e => (f e).bind fun p => match p.1 with
  | [.int j] => if j ≤ 16777216 ∧ -(2 ^ 62) ≤ j then some (rngD 0 j.toNat, p.2) else none
  | [.int i, .int j] => if -(2 ^ 62) ≤ i ∧ i < 2 ^ 62 ∧ -(2 ^ 62) ≤ j ∧ j < 2 ^ 62 ∧ j - i ≤ 16777216 then some (rngD i (j - i).toNat, p.2) else none
  | _ => none
section
variable {K : PySem.W.Frag} {F H : Hp}
theorem walkD_seq {J : It} {xs : List V} {ds : List D} (hz : xs.length ≤ sizeLine) (G : Hp → Prop) (w : Walk J xs.length G (YAt xs)) (hG : ∀ H, Ex F H → G H) (r : RepA K F xs ds) : WalkD K F J ds := by
  refine ⟨by rw [← r.length]; exact hz, G, YAt xs, by rw [← r.length]; exact w, hG, fun i Fc Hc v Hc' hi f s y => ?_⟩
  obtain ⟨rfl, hv⟩ := y
  obtain ⟨d, h1, h2⟩ := r.getV hv
  exact ⟨Fc, d, Grow.refl s, h1, h2.mono f⟩
theorem walkD_rng {lo : Int} {n : Nat} (hn : n ≤ sizeLine) : WalkD K F (Itr lo n) (rngD lo n) := by
  have hl : (rngD lo n).length = n := by simp [rngD]
  refine ⟨by rw [hl]; exact hn, _, _, by rw [hl]; exact walk_range, fun _ _ => trivial, fun i Fc Hc v Hc' hi f s y => ?_⟩
  obtain ⟨rfl, rfl⟩ := y
  rw [hl] at hi
  exact ⟨Fc, .int (lo + (i : Nat)), Grow.refl s, by simp [rngD, hi], .int _⟩
end
section
variable {ι : Type} {K : PySem.W.Frag} {X : ι → Cx} {tg a b : Expr} {f : M R} {fa : M (List D)} {pos p : Pos}
theorem si_seq (hK : ∀ i, (X i).K = K) (ha : SoE K X a f) : SoI K X tg a (iterE f) := by
  obtain ⟨ta, pa, ha⟩ := ha
  refine ⟨iSeq K ta, fun i => by have := pi_seq (tg := tg) (pa i); rw [hK i] at this; exact this, fun F H σ e ds e' rel hf R q => ?_⟩
  obtain ⟨⟨r1, e1⟩, h1, hf⟩ := bind_some hf
  obtain ⟨⟨d, e2⟩, h2, hf⟩ := bind_some hf
  refine ha F H σ e r1 e1 rel h1 _ fun v F1 H1 p1 rv => ?_
  obtain ⟨F2, p2, rd, _⟩ := frz_ok p1 rel rv h2
  cases d with
  | list ds' =>
    cases hf
    cases rd with
    | lst hs rs => exact ⟨_, _, rfl, .inl ⟨ex_l p2.rel.sub hs, fun hz => q _ F2 H1 p2 (walkD_seq hz _ walk_list (fun H' s => ex_l s hs) rs)⟩⟩
  | tuple ds' =>
    cases hf
    cases rd with
    | tup hs rs => exact ⟨_, _, rfl, .inr ⟨ex_t p2.rel.sub hs, fun hz => q _ F2 H1 p2 (walkD_seq hz _ walk_tup (fun H' s => ex_t s hs) rs)⟩⟩
  | _ => cases hf
theorem small_line {j : Int} (h : j ≤ 16777216) : j.toNat ≤ sizeLine := by rw [sizeLine_eq]; omega
theorem si_rng1 (hm : ∀ i, (X i).mg "range" = none) (ha : SoA K X [a] fa) (hl : ∀ e ds e', fa e = some (ds, e') → ds.length = 1) (hg : ∀ i, Gl (X i) "range" := by intro _; rfl) (hs : ∀ i, starEach [a] (X i).env = [(false, eval a (X i).env)] := by intro _; rfl) : SoI K X tg (.Call (.Name "range" p) [a] [] pos) (rngE fa) := by
  obtain ⟨ta, pa, ha⟩ := ha
  refine ⟨_, fun i => pi_range1 (hg i) (hm i) (pa i) (hs i), fun F H σ e ds e' rel hf R q => ?_⟩
  obtain ⟨⟨ds1, e1⟩, h1, hf⟩ := bind_some hf
  have h2 := hl _ _ _ h1
  refine ha F H σ e ds1 e1 rel h1 _ fun vs F1 H1 p1 rv => ?_
  match ds1, h2, rv, hf with
  | [d], _, rv, hf =>
    cases d with
    | int j =>
      simp only at hf
      split at hf
      · rename_i hb
        cases hf
        cases rv with
        | cons r rs =>
          cases rs
          cases r
          exact ⟨j, rfl, hb.2, by omega, q _ F1 H1 p1 (walkD_rng (small_line hb.1))⟩
      · cases hf
    | _ => cases hf
theorem si_rng2 (hm : ∀ i, (X i).mg "range" = none) (ha : SoA K X [a, b] fa) (hl : ∀ e ds e', fa e = some (ds, e') → ds.length = 2) (hg : ∀ i, Gl (X i) "range" := by intro _; rfl) (hs : ∀ i, starEach [a, b] (X i).env = [(false, eval a (X i).env), (false, eval b (X i).env)] := by intro _; rfl)
    (hs2 : ∀ i, starEach [b] (X i).env = [(false, eval b (X i).env)] := by intro _; rfl) : SoI K X tg (.Call (.Name "range" p) [a, b] [] pos) (rngE fa) := by
  obtain ⟨ta, pa, ha⟩ := ha
  refine ⟨_, fun i => pi_range2 (hg i) (hm i) (pa i) (hs i) (hs2 i), fun F H σ e ds e' rel hf R q => ?_⟩
  obtain ⟨⟨ds1, e1⟩, h1, hf⟩ := bind_some hf
  have h2 := hl _ _ _ h1
  refine ha F H σ e ds1 e1 rel h1 _ fun vs F1 H1 p1 rv => ?_
  match ds1, h2, rv, hf with
  | [d, d2], _, rv, hf =>
    cases d with
    | int i =>
      cases d2 with
      | int j =>
        simp only at hf
        split at hf
        · rename_i hb
          cases hf
          cases rv with
          | cons r rs =>
            cases rs with
            | cons r2 rs =>
              cases rs
              cases r
              cases r2
              exact ⟨i, j, rfl, ⟨hb.1, hb.2.1, hb.2.2.1, hb.2.2.2.1⟩, q _ F1 H1 p1 (walkD_rng (small_line hb.2.2.2.2))⟩
        · cases hf
      | _ => cases hf
    | _ => cases hf
end

/-! ### comprehensions -/
def wipeE (e : En) : List Nat → En
  | [] => e
  | v :: vs => (wipeE e vs).set v none
/-- what the block's own names held ahead of it -/
def back (e e' : En) : List Nat → En
  | [] => e'
  | v :: vs => match e[v]? with
    | some x => (back e e' vs).set v x
    | none => back e e' vs
def yesT : M Bool := fun e => some (true, e)
def turn (vs : List Nat) (g1 : D → En → Option En) (cf : M Bool) (fe : M R) (d : D) (acc : List D) (e : En) : Option (List D × En) :=
  (g1 d (wipeE e vs)).bind fun e1 => (cf e1).bind fun p => if p.1 then (fe p.2).bind fun q => (frz q.1 q.2).bind fun s => some (acc ++ [s.1], back e s.2 vs) else some (acc, back e p.2 vs)
def lcLoop (vs : List Nat) (g1 : D → En → Option En) (cf : M Bool) (fe : M R) : List D → List D → En → Option (List D × En)
  | [], acc, e => some (acc, e)
  | d :: ds, acc, e => (turn vs g1 cf fe d acc e).bind fun q => lcLoop vs g1 cf fe ds q.1 q.2
def lcE (vs : List Nat) (it : M (List D)) (g1 : D → En → Option En) (cf : M Bool) (fe : M R) : M R := fun e => (it e).bind fun p => (lcLoop vs g1 cf fe p.1 [] p.2).bind fun q => some (.n (.list q.1), q.2)
section
variable {K : PySem.W.Frag} {F H F1 H1 : Hp} {σ : L2.St} {e e1 : En}
theorem wipeE_length (e : En) : ∀ vs, (wipeE e vs).length = e.length
  | [] => rfl
  | v :: vs => by unfold wipeE; rw [List.length_set, wipeE_length e vs]
theorem wipeE_some {e : En} {i : Nat} {x : Cel} : ∀ {vs : List Nat}, (wipeE e vs)[i]? = some (some x) → e[i]? = some (some x) ∧ i ∉ vs
  | [], h => ⟨h, by simp⟩
  | v :: vs, h => by
    unfold wipeE at h
    by_cases hi : v = i
    · subst hi
      by_cases hv : v < (wipeE e vs).length
      · rw [List.getElem?_set_self hv] at h; cases h
      · rw [List.getElem?_eq_none (by simpa using hv)] at h; cases h
    · rw [List.getElem?_set_ne hi] at h
      obtain ⟨h1, h2⟩ := wipeE_some h
      exact ⟨h1, by simp only [List.mem_cons, not_or]; exact ⟨fun e => hi e.symm, h2⟩⟩
theorem wipeE_at {e : En} {i : Nat} : ∀ {vs : List Nat}, i ∉ vs → (wipeE e vs)[i]? = e[i]?
  | [], _ => rfl
  | v :: vs, h => by
    unfold wipeE
    rw [List.getElem?_set_ne (fun z => h (by simp [z]))]
    exact wipeE_at fun z => h (List.mem_cons_of_mem _ z)
theorem wipe_at {σ : L2.St} {i : Nat} : ∀ {vs : List Nat}, i ∉ vs → (wipe σ vs)[i]? = σ[i]?
  | [], _ => rfl
  | v :: vs, h => by
    unfold wipe
    rw [List.getElem?_set_ne (fun z => h (by simp [z]))]
    exact wipe_at fun z => h (List.mem_cons_of_mem _ z)
theorem wipe_in {σ : L2.St} {i : Nat} : ∀ {vs : List Nat}, i ∈ vs → i < σ.length → (wipe σ vs)[i]? = some none
  | v :: vs, h, hl => by
    unfold wipe
    by_cases z : v = i
    · subst z
      exact List.getElem?_set_self (by rw [wipe_length]; exact hl)
    · rw [List.getElem?_set_ne z]
      exact wipe_in ((List.mem_cons.mp h).resolve_left fun q => z q.symm) hl
theorem wipe_ext {σ σ' : L2.St} {vs : List Nat} (hl : σ'.length = σ.length) (h : ∀ i, i ∉ vs → σ'[i]? = σ[i]?) : wipe σ' vs = wipe σ vs := by
  refine List.ext_getElem? fun i => ?_
  by_cases z : i ∈ vs
  · by_cases hi : i < σ.length
    · rw [wipe_in z hi, wipe_in z (by rw [hl]; exact hi)]
    · rw [List.getElem?_eq_none (by rw [wipe_length]; omega), List.getElem?_eq_none (by rw [wipe_length]; omega)]
  · rw [wipe_at z, wipe_at z]
    exact h i z
theorem back_length (e e' : En) : ∀ vs, (back e e' vs).length = e'.length
  | [] => rfl
  | v :: vs => by
    unfold back
    split
    · rw [List.length_set, back_length e e' vs]
    · exact back_length e e' vs
theorem back_at {e e' : En} {i : Nat} : ∀ {vs : List Nat}, i ∉ vs → (back e e' vs)[i]? = e'[i]?
  | [], _ => rfl
  | v :: vs, h => by
    unfold back
    split
    · rw [List.getElem?_set_ne (fun z => h (by simp [z]))]
      exact back_at fun z => h (List.mem_cons_of_mem _ z)
    · exact back_at fun z => h (List.mem_cons_of_mem _ z)
theorem back_in {e e' : En} {i : Nat} (hl : e'.length = e.length) : ∀ {vs : List Nat}, i ∈ vs → (back e e' vs)[i]? = e[i]?
  | v :: vs, h => by
    unfold back
    by_cases z : v = i
    · subst z
      cases q : e[v]? with
      | none =>
        simp only
        by_cases hv : v ∈ vs
        · rw [back_in hl hv, q]
        · rw [back_at hv]
          exact List.getElem?_eq_none (by rw [hl]; exact List.getElem?_eq_none_iff.mp q)
      | some x =>
        simp only
        exact List.getElem?_set_self (by rw [back_length, hl]; exact (List.getElem?_eq_some_iff.mp q).1)
    · have h' := (List.mem_cons.mp h).resolve_left fun q => z q.symm
      split
      · rw [List.getElem?_set_ne z]
        exact back_in hl h'
      · exact back_in hl h'
theorem RelE.wiped (r : RelE K F H σ e) (vs : List Nat) : RelE K F H (wipe σ vs) (wipeE e vs) where
  len := by rw [wipe_length, wipeE_length]; exact r.len
  sub := r.sub
  fz := fun i d h => by
    obtain ⟨h1, h2⟩ := wipeE_some h
    obtain ⟨v, q1, q2⟩ := r.fz i d h1
    exact ⟨v, by rw [wipe_at h2]; exact q1, q2⟩
  ow := fun i s h hs => by
    obtain ⟨h1, h2⟩ := wipeE_some h
    obtain ⟨a, o, q1, q2⟩ := r.ow i s h1 hs
    exact ⟨a, o, by rw [wipe_at h2]; exact q1, q2⟩
  ds := fun i j s t a h1 h2 h3 h4 h5 h6 => by
    obtain ⟨y1, z1⟩ := wipeE_some h1
    obtain ⟨y2, z2⟩ := wipeE_some h3
    rw [wipe_at z1] at h5
    rw [wipe_at z2] at h6
    exact r.ds i j s t a y1 h2 y2 h4 h5 h6
theorem own_wiped {vs : List Nat} {a : Addr} (h : Own (wipe σ vs) (wipeE e vs) a) : Own σ e a := by
  obtain ⟨i, s, q1, q2, q3⟩ := h
  obtain ⟨h1, h2⟩ := wipeE_some q1
  rw [wipe_at h2] at q3
  exact ⟨i, s, h1, q2, q3⟩
/-- behind a turn: the block's own names as ahead of it -/
theorem turn_back (r : RelE K F H σ e) {vs : List Nat} {js : List Nat} {σ2 : L2.St} {e1 e2 : En} {F2 H2 : Hp} (hjs : ∀ j ∈ js, j ∈ vs) (td : Tgd js (wipe σ vs) (wipeE e vs) σ2 e1) (r1 : RelE K F H σ2 e1) (p : Pst K F H σ2 e1 F2 H2 e2) : Pst K F H σ e F2 H2 (back e e2 vs) := by
  have sub : ∀ a, Own σ2 e1 a → Own σ e a := fun a h => own_wiped (td.own h)
  have l1 : e1.length = e.length := by rw [← r1.len, td.sl, wipe_length, r.len]
  have l2 : e2.length = e.length := by rw [← p.rel.len, td.sl, wipe_length, r.len]
  have sOut : ∀ i, i ∉ vs → σ2[i]? = σ[i]? := fun i hi => by
    rw [td.so i fun z => hi (hjs i z), wipe_at hi]
  have eOut : ∀ i, i ∉ vs → e1[i]? = e[i]? := fun i hi => by
    rw [td.eo i fun z => hi (hjs i z), wipeE_at hi]
  -- what the block's own names owned is owned by no name in the block
  have notIn : ∀ (i : Nat) (s : Cel) (a : Addr), i ∈ vs → e[i]? = some (some s) → s.own = true → σ[i]? = some (some (.ref a)) → ¬ Own σ2 e1 a := by
    rintro i s a hi h1 h2 h3 ho
    obtain ⟨j, t, q1, q2, q3⟩ := ho
    have hj : j ∉ js := fun z => by
      have := td.ef j t z q1
      rw [q2] at this
      cases this
    rw [td.eo j hj] at q1
    rw [td.so j hj] at q3
    obtain ⟨y1, y2⟩ := wipeE_some q1
    rw [wipe_at y2] at q3
    have := r.ds i j s t a h1 h2 y1 q2 h3 q3
    subst this
    exact y2 hi
  refine ⟨⟨p.stp.ff, fun a o h1 h2 => p.stp.hh a o h1 fun z => h2 (sub a z), fun a h1 h2 => p.stp.old a h1 fun z => h2 (sub a z), p.stp.dom⟩, ⟨by rw [back_length, l2]; exact r.len, p.rel.sub, fun i d h => ?_, fun i s h hs => ?_, fun i j s t a h1 h2 h3 h4 h5 h6 => ?_⟩, ⟨fun i s h hs => ?_, fun i d h => ?_, fun i d h => ?_⟩⟩
  · by_cases z : i ∈ vs
    · rw [back_in l2 z] at h
      obtain ⟨v, q1, q2⟩ := r.fz i d h
      exact ⟨v, q1, q2.mono p.stp.ff⟩
    · rw [back_at z] at h
      obtain ⟨v, q1, q2⟩ := p.rel.fz i d h
      exact ⟨v, by rw [← sOut i z]; exact q1, q2⟩
  · by_cases z : i ∈ vs
    · rw [back_in l2 z] at h
      obtain ⟨a, o, q1, q2, q3, q4⟩ := r.ow i s h hs
      have nO := notIn i s a z h hs q1
      exact ⟨a, o, q1, (p.stp.old a (by rw [q3]; simp) nO).trans q2, p.stp.hh a o q3 nO, q4.mono p.stp.ff⟩
    · rw [back_at z] at h
      obtain ⟨a, o, q1, q2⟩ := p.rel.ow i s h hs
      exact ⟨a, o, by rw [← sOut i z]; exact q1, q2⟩
  · -- two names, one address
    have un : ∀ (i : Nat) (s : Cel), (back e e2 vs)[i]? = some (some s) → s.own = true → ∃ s', e[i]? = some (some s') ∧ s'.own = true := fun i s h hs => by
      by_cases z : i ∈ vs
      · rw [back_in l2 z] at h
        exact ⟨s, h, hs⟩
      · rw [back_at z] at h
        obtain ⟨s', q1, q2⟩ := p.shp.own i s h hs
        exact ⟨s', by rw [← eOut i z]; exact q1, q2⟩
    obtain ⟨s', y1, y2⟩ := un i s h1 h2
    obtain ⟨t', y3, y4⟩ := un j t h3 h4
    exact r.ds i j s' t' a y1 y2 y3 y4 h5 h6
  · by_cases z : i ∈ vs
    · rw [back_in l2 z] at h
      exact ⟨s, h, hs⟩
    · rw [back_at z] at h
      obtain ⟨s', q1, q2⟩ := p.shp.own i s h hs
      exact ⟨s', by rw [← eOut i z]; exact q1, q2⟩
  · by_cases z : i ∈ vs
    · exact ⟨d, by rw [back_in l2 z]; exact h⟩
    · obtain ⟨d', q⟩ := p.shp.io i d (by rw [eOut i z]; exact h)
      exact ⟨d', by rw [back_at z]; exact q⟩
  · by_cases z : i ∈ vs
    · rw [back_in l2 z] at h
      exact ⟨d, h⟩
    · rw [back_at z] at h
      obtain ⟨d', q⟩ := p.shp.ow i d h
      exact ⟨d', by rw [← eOut i z]; exact q⟩
/-- a list that no name owns yet is filled -/
theorem Pst.poke (p : Pst K F H σ e F1 H1 e1) (r : RelE K F H σ e) {a : Addr} {o : HO} (h0 : H a = none) (h1 : F1 a = none) (h2 : H1 a ≠ none) : Pst K F H σ e F1 (upd H1 a o) e1 := by
  have nO : ¬ Own σ e a := r.newNot h0
  have nO1 : ¬ Own σ e1 a := fun z => nO (p.shp.sub a z)
  refine ⟨⟨p.stp.ff, fun b u hb hn => ?_, p.stp.old, fun b hb => ?_⟩, ⟨p.rel.len, fun b u hb => ?_, p.rel.fz, fun i s h hs => ?_, p.rel.ds⟩, p.shp⟩
  · rw [upd_ne (by rintro rfl; rw [h0] at hb; cases hb)]
    exact p.stp.hh b u hb hn
  · by_cases z : b = a
    · subst z
      exact absurd h0 hb
    · rw [upd_ne z]
      exact p.stp.dom b hb
  · rw [upd_ne (by rintro rfl; rw [h1] at hb; cases hb)]
    exact p.rel.sub b u hb
  · obtain ⟨b, u, q1, q2, q3, q4⟩ := p.rel.ow i s h hs
    refine ⟨b, u, q1, q2, ?_, q4⟩
    rw [upd_ne]
    · exact q3
    · rintro rfl
      exact nO1 ⟨i, s, h, hs, q1⟩
end
/-- the tests of a clause -/
def SoC {ι : Type} (K : PySem.W.Frag) (X : ι → Cx) (ifs : List Expr) (f : M Bool) : Prop := ∃ t, (∀ i, PTs (X i) ifs t) ∧ SemT K t f
section
variable {ι : Type} {K : PySem.W.Frag} {X : ι → Cx} {elt tg iter : Expr} {ifs : List Expr} {pos : Pos}
theorem so_c0 : SoC K X [] yesT := ⟨_, fun _ => pts_nil, fun F H σ e b e' rel hf Q q => by
  cases hf
  exact q F H (Pst.refl rel)⟩
theorem so_c1 {c : Expr} {f : M Bool} (h : SoT K X c f) : SoC K X [c] f := by
  obtain ⟨t, p, h⟩ := h
  exact ⟨t, fun i => pts_one (p i), h⟩
abbrev Blk (ι : Type) := ι × Shared × Hp × Addr × List (Str × Addr) × List Addr
abbrev blkX (X : ι → Cx) (scope : Scope) : Blk ι → Cx := fun p => (X p.1).blk p.2.1 p.2.2.1 scope (compEnvC scope p.2.2.2.2.1 p.2.2.2.1 (X p.1).env) p.2.2.2.2.2
theorem lc_sem {wi : TI} {g : TG} {tt : TT} {te : TE} {vs js : List Nat} {it : M (List D)} {g1 : D → En → Option En} {cf : M Bool} {fe : M R} (si : SemI K wi it) (sg : SemG K g js g1) (sc : SemT K tt cf) (se : SemE K te fe) (hjs : ∀ j ∈ js, j ∈ vs) :
    SemE K (tLc wi g tt te vs) (lcE vs it g1 cf fe) := by
  intro F H σ e r e' rel hf Q q
  obtain ⟨⟨ds, e1⟩, z1, hf⟩ := bind_some hf
  obtain ⟨⟨acc, e2⟩, z2, hf⟩ := bind_some hf
  cases hf
  refine si F H σ e ds e1 rel z1 _ fun J F1 H1 ps wd L hL => ?_
  obtain ⟨G, Y, wk, wG, wY⟩ := wd.ex
  have hL0 : H L = none := by
    cases z : H L with
    | none => rfl
    | some u => exact absurd hL (ps.stp.dom L (by rw [z]; simp))
  have hF1 : F1 L = none := fresh_back ps.rel.sub hL
  refine lc_it wk (fun i Hk => ∃ Fk ek av ad, Pst K F1 H1 σ e1 Fk Hk ek ∧ Fk L = none ∧ Hk L = some (.lst av) ∧ RepA K Fk av ad ∧ ad.length ≤ i ∧ lcLoop vs g1 cf fe (ds.drop i) ad ek = some (acc, e2)) ?_ ?_ ?_ ?_
  · have gr := Grow.loose (o := .lst []) ps.rel.sub hL
    exact ⟨F1, e1, [], [], gr.pst ps.rel, hF1, upd_same, .nil, Nat.le_refl _, by simpa using z2⟩
  · rintro i Hk _ ⟨Fk, ek, av, ad, pk, _⟩
    exact wG Hk (pk.stp.ff.trans pk.rel.sub)
  · rintro i x Hc Hc' hi ⟨Fk, ek, av, ad, pk, k1, k2, k3, k4, k5⟩ y
    obtain ⟨Fc, d, gr, hd, rd⟩ := wY i Fk Hc x Hc' hi pk.stp.ff pk.rel.sub y
    have hdrop : ds.drop i = d :: ds.drop (i + 1) := by
      rw [List.drop_eq_getElem_cons hi]
      congr 1
      rw [List.getElem?_eq_getElem hi] at hd
      exact Option.some.inj hd
    rw [hdrop] at k5
    obtain ⟨⟨acc', e3⟩, y1, k5⟩ := bind_some k5
    obtain ⟨ea, y2, y1⟩ := bind_some y1
    obtain ⟨⟨b, eb⟩, y3, y1⟩ := bind_some y1
    have rc := gr.rel pk.rel
    have pc := pk.trans (gr.pst pk.rel)
    have nL : Fc L = none := (gr.old L (by rw [k2]; simp)).trans k1
    have cL : Hc' L = some (.lst av) := gr.hh L _ k2
    refine sg Fc Hc' _ _ x d ea (rc.wiped vs) rd y2 _ fun σ2 r2 _ td => ⟨wipe_ext (by rw [td.sl, wipe_length]) (fun i hi => by rw [td.so i fun z => hi (hjs i z), wipe_at hi]), ?_⟩
    refine sc Fc Hc' σ2 ea b eb r2 y3 _ fun F2 H2 p2 => ?_
    have nOut : ¬ Own σ2 ea L := fun z => (rel.newNot hL0) (ps.shp.sub L (pk.shp.sub L (own_wiped (td.own z))))
    have few : av.length < sizeLine := by
      have := k3.length
      have := wd.few
      omega
    cases b with
    | true =>
      obtain ⟨⟨r3, ec⟩, y4, y1⟩ := bind_some y1
      obtain ⟨⟨dv, ed⟩, y5, y1⟩ := bind_some y1
      cases y1
      refine se F2 H2 σ2 eb r3 ec p2.rel y4 _ fun v F3 H3 p3 rv => ?_
      obtain ⟨F4, p4, rd4, _⟩ := frz_ok p3 p2.rel rv y5
      have pt := turn_back rc hjs td r2 (p2.trans p4)
      have nO2 : ¬ Own σ2 eb L := fun z => nOut (p2.shp.sub L z)
      have c2 : H2 L = some (.lst av) := p2.stp.hh L _ cL nOut
      have c3 : H3 L = some (.lst av) := p4.stp.hh L _ c2 nO2
      have n4 : F4 L = none := ((p2.trans p4).stp.old L (by rw [cL]; simp) nOut).trans nL
      have pall := pc.trans pt
      refine ⟨av, c3, few, F4, _, av ++ [v], ad ++ [dv], pall.poke ps.rel hL n4 (by rw [c3]; simp), n4, upd_same, ((k3.mono gr.ff).mono (p2.trans p4).stp.ff).append (.cons rd4 .nil), by rw [List.length_append]; simp; omega, k5⟩
    | false =>
      cases y1
      have pt := turn_back rc hjs td r2 p2
      have n2 : F2 L = none := (p2.stp.old L (by rw [cL]; simp) nOut).trans nL
      exact ⟨F2, _, av, ad, pc.trans pt, n2, p2.stp.hh L _ cL nOut, (k3.mono gr.ff).mono p2.stp.ff, by omega, k5⟩
  · rintro Hk ⟨Fk, ek, av, ad, pk, k1, k2, k3, k4, k5⟩
    rw [List.drop_length] at k5
    cases k5
    exact q _ Fk Hk (ps.trans pk) ⟨L, _, rfl, hL0, k1, k2, k3⟩
theorem so_lc {scope : Scope} {own : List (Str × Nat)} {js : List Nat} {it : M (List D)} {g1 : D → En → Option En} {cf : M Bool} {fe : M R} (hN : ∀ i, (X i).N.Nodup) (ok : ∀ i, BlkOk (X i).N (X i).env.scope scope own) (hi : SoI K X tg iter it) (hg : SoG K (blkX X scope) tg js g1) (hc : SoC K (blkX X scope) ifs cf) (he : SoE K (blkX X scope) elt fe)
    (hjs : ∀ j ∈ js, j ∈ own.map (·.2)) (hcalm : ∀ i, (X i).calm = true := by intro _; rfl) (hs : ∀ i x, foldedSetIterable iter (X i).env x = pure x := by intro _ _; rfl) : SoE K X (.ListComp elt [⟨tg, iter, ifs, 0⟩] scope pos) (lcE (own.map (·.2)) it g1 cf fe) := by
  obtain ⟨wi, pi, si⟩ := hi
  obtain ⟨g, pg, sg⟩ := hg
  obtain ⟨tt, pt, st⟩ := hc
  obtain ⟨te, pe, se⟩ := he
  exact ⟨_, fun i => pe_lc (hcalm i) (hN i) (pi i) (ok i) (fun s H C cl fp => pg (i, s, H, C, cl, fp)) (fun s H C cl fp => pt (i, s, H, C, cl, fp)) (fun s H C cl fp => pe (i, s, H, C, cl, fp)) (hs i), lc_sem si sg st se hjs⟩
/-- name = [..], the name a local -/
theorem so_setLc {i : Nat} {y : Str} {py spos : Pos} {scope : Scope} {own : List (Str × Nat)} {js : List Nat} {it : M (List D)} {g1 : D → En → Option En} {cf : M Bool} {fe : M R} (hN : ∀ i, (X i).N.Nodup) (ok : ∀ i, BlkOk (X i).N (X i).env.scope scope own) (hi : SoI K X tg iter it) (hg : SoG K (blkX X scope) tg js g1) (hc : SoC K (blkX X scope) ifs cf) (he : SoE K (blkX X scope) elt fe)
    (hjs : ∀ j ∈ js, j ∈ own.map (·.2)) (hy : ∀ j, (X j).N[i]? = some y := by intro _; rfl) (hyl : ∀ j, (X j).env.scope.names.lookup y = some .local := by intro _; rfl)
    (hsw : ∀ j, swapsWith (.ListComp elt [⟨tg, iter, ifs, 0⟩] scope pos) (some (.Name y py)) spos.line (X j).env = pure true := by intro _; exact sw_true rfl rfl rfl (by decide +kernel))
    (hcalm : ∀ i, (X i).calm = true := by intro _; rfl) (hs : ∀ i x, foldedSetIterable iter (X i).env x = pure x := by intro _ _; rfl) : SoS K X (.Assign [.Name y py] (.ListComp elt [⟨tg, iter, ifs, 0⟩] scope pos) spos) (asg i (lcE (own.map (·.2)) it g1 cf fe)) := by
  obtain ⟨wi, pi, si⟩ := hi
  obtain ⟨g, pg, sg⟩ := hg
  obtain ⟨tt, pt, st⟩ := hc
  obtain ⟨te, pe, se⟩ := he
  refine ⟨_, fun j => ps_setLc (hcalm j) (hN j) (hy j) (hyl j) (hsw j) (pi j) (ok j) (fun s H C cl fp => pg (j, s, H, C, cl, fp)) (fun s H C cl fp => pt (j, s, H, C, cl, fp)) (fun s H C cl fp => pe (j, s, H, C, cl, fp)) (hs j), fun F0 H0 IO F H σ e out rel b hg Dn q => ?_⟩
  obtain ⟨⟨r, e1⟩, h1, h2⟩ := bind_some hg
  obtain ⟨e2, h4, h3⟩ := Option.map_eq_some_iff.mp h2
  subst h3
  refine lc_sem si sg st se hjs F H σ e r e1 rel h1 _ fun v F1 H1 p1 rv => ?_
  obtain ⟨F2, r2, b2⟩ := stR_ok p1 rel rv h4
  exact q _ F2 H1 r2 (b2 F0 H0 IO b)
end
end Sl

set_option Elab.async false
set_option linter.all false
set_option maxRecDepth 100000
set_option maxHeartbeats 2000000
set_option autoImplicit false
/-! Defs and their calls. -/
namespace Sl
open PySem PySem.Spec PyProof.Rows L2 Evl
/-- what stands behind in the lists that were handed in to be changed -/
def outs : List Cel → En → Option (List Cel)
  | [], _ => some []
  | .io _ :: r, some (.io d) :: e => (outs r e).map (.io d :: ·)
  | .fz d :: r, _ :: e => (outs r e).map (.fz d :: ·)
  | _, _ => none
/-- a def: np parameters, n names -/
def runM (np n : Nat) (g : En → Option Out) : List Cel → Option (R × List Cel) := fun sl => if sl.length = np then
  (g (sl.map some ++ List.replicate (n - sl.length) none)).bind fun o => match o with
  | .nx e => (outs sl e).map fun l => (.v .none, l)
  | .rt r e => (outs sl e).map fun l => (r, l)
  | _ => none
  else none
/-- a def's promise -/
def spM (K : PySem.W.Frag) (m : List Cel → Option (R × List Cel)) : Sp := fun vs H Q _ => ∃ (F : Hp) (sl : List Cel) (r : R) (out : List Cel), RelE K F H (vs.map some) (sl.map some) ∧ m sl = some (r, out) ∧
  ∀ v F' H', Stp (Own (vs.map some) (sl.map some)) F H F' H' → RelE K F' H' (vs.map some) (out.map some) → RepR K F' H' H [] v r → Q v H'
section
variable {K : PySem.W.Frag} {F H F' H' : Hp} {σ : L2.St} {e : En}
theorem outs_ok : ∀ {sl : List Cel} {e : En} {out : List Cel}, outs sl e = some out → out.length = sl.length ∧ ∀ i : Nat, (∀ d : D, sl[i]? = some (.fz d) → out[i]? = some (.fz d)) ∧ (∀ d : D, sl[i]? = some (.io d) → ∃ d' : D, out[i]? = some (.io d') ∧ e[i]? = some (some (.io d'))) ∧ (∀ d : D, sl[i]? ≠ some (.ow d))
  | [], e, out, h => by
    unfold outs at h
    cases h
    exact ⟨rfl, fun i => ⟨fun d q => by simp at q, fun d q => by simp at q, fun d q => by simp at q⟩⟩
  | .fz d :: r, [], out, h => by
    unfold outs at h
    cases h
  | .io d :: r, [], out, h => by
    unfold outs at h
    cases h
  | .ow d :: r, e, out, h => by
    cases e <;> (unfold outs at h; cases h)
  | .fz d :: r, x :: e, out, h => by
    unfold outs at h
    obtain ⟨o, h1, rfl⟩ := Option.map_eq_some_iff.mp h
    obtain ⟨l, ih⟩ := outs_ok h1
    refine ⟨by simp [l], fun i => ?_⟩
    cases i with
    | zero => exact ⟨fun d' q => by simpa using q, fun d' q => by simp at q, fun d' q => by simp at q⟩
    | succ i => simpa using ih i
  | .io d :: r, x :: e, out, h => by
    cases x with
    | none => unfold outs at h; cases h
    | some s =>
      cases s with
      | fz _ => unfold outs at h; cases h
      | ow _ => unfold outs at h; cases h
      | io d' =>
        unfold outs at h
        obtain ⟨o, h1, rfl⟩ := Option.map_eq_some_iff.mp h
        obtain ⟨l, ih⟩ := outs_ok h1
        refine ⟨by simp [l], fun i => ?_⟩
        cases i with
        | zero => exact ⟨fun d' q => by simp at q, fun d2 q => ⟨d', by simp, by simp⟩, fun d' q => by simp at q⟩
        | succ i => simpa using ih i
theorem app_none {α : Type} {l : List α} {n i : Nat} {x : α} (h : (l.map some ++ List.replicate n none)[i]? = some (some x)) : l[i]? = some x := by
  by_cases hi : i < l.length
  · rw [List.getElem?_append_left (by rw [List.length_map]; exact hi), List.getElem?_map] at h
    cases q : l[i]? with
    | none => rw [q] at h; cases h
    | some y => rw [q] at h; cases h; rfl
  · rw [List.getElem?_append_right (by rw [List.length_map]; omega)] at h
    have := List.mem_of_getElem? h
    simp at this
theorem app_some {α : Type} {l : List α} {n i : Nat} {x : α} (h : l[i]? = some x) : (l.map some ++ List.replicate n none)[i]? = some (some x) := by
  have hi := (List.getElem?_eq_some_iff.mp h).1
  rw [List.getElem?_append_left (by rw [List.length_map]; exact hi), List.getElem?_map, h]
  rfl
theorem map_some {α : Type} {l : List α} {i : Nat} {x : α} : (l.map some)[i]? = some (some x) ↔ l[i]? = some x := by
  rw [List.getElem?_map]
  cases l[i]? <;> simp
theorem RelE.pad {vs : List V} {sl : List Cel} (r : RelE K F H (vs.map some) (sl.map some)) (n : Nat) : RelE K F H (vs.map some ++ List.replicate n none) (sl.map some ++ List.replicate n none) where
  len := by
    have := r.len
    simp only [List.length_append, List.length_map, List.length_replicate] at this ⊢
    omega
  sub := r.sub
  fz := fun i d h => by
    obtain ⟨v, q1, q2⟩ := r.fz i d (map_some.mpr (app_none h))
    exact ⟨v, app_some (map_some.mp q1), q2⟩
  ow := fun i s h hs => by
    obtain ⟨a, o, q1, q2⟩ := r.ow i s (map_some.mpr (app_none h)) hs
    exact ⟨a, o, app_some (map_some.mp q1), q2⟩
  ds := fun i j s t a h1 h2 h3 h4 h5 h6 => r.ds i j s t a (map_some.mpr (app_none h1)) h2 (map_some.mpr (app_none h3)) h4 (map_some.mpr (app_none h5)) (map_some.mpr (app_none h6))
/-- the lists that are handed in to be changed -/
def ioOf (vs : List V) (sl : List Cel) : List (Nat × Addr) := (List.range vs.length).filterMap fun i => match sl[i]?, vs[i]? with
  | some (Cel.io _), some (V.ref a) => some (i, a)
  | _, _ => none
theorem mem_ioOf {vs : List V} {sl : List Cel} {i : Nat} {a : Addr} : (i, a) ∈ ioOf vs sl ↔ (∃ d, sl[i]? = some (.io d)) ∧ vs[i]? = some (.ref a) := by
  unfold ioOf
  rw [List.mem_filterMap]
  constructor
  · rintro ⟨j, _, h⟩
    split at h
    · rename_i d b h1 h2
      simp only [Option.some.injEq, Prod.mk.injEq] at h
      obtain ⟨rfl, rfl⟩ := h
      exact ⟨⟨d, h1⟩, h2⟩
    · cases h
  · rintro ⟨⟨d, h1⟩, h2⟩
    refine ⟨i, List.mem_range.mpr (List.getElem?_eq_some_iff.mp h2).1, ?_⟩
    rw [h1, h2]
end
/-- THE RULE for a def -/
theorem fn_ok {P : Program} {w : World} {K : PySem.W.Frag} {mg : Str → Option Value} {base : Heap} {x qual : Str} {params : Arguments} {body : List Stmt} {scope : Scope} {f : Addr} {fd : FuncData} {N ps : List Str} {k np n : Nat} {g : En → Option Out}
    (F : FunD K x qual params body scope [] [] f fd) (S : FnScope N ps scope) (hnp : ps.length = np) (hn : N.length = n)
    (hb : ∀ (cdv : Value) (A : Around) (outer : List Env) (s : Shared) (H : Hp) (E : XK), Room k (A.deeper (envOfC qual scope s.heap.objs.size f cdv)) → SoB K (fun _ : Unit => (cxOf CX0 P w K mg base N qual scope f cdv A outer s H E).nox) body g) :
    FnOk P w K mg base CX0 (k + 1) f fd ps (spM K (runM np n g)) := by
  have len : ∀ vs H Q E, spM K (runM np n g) vs H Q E → vs.length = ps.length := by
    rintro vs H Q E ⟨Fz, sl, r, out, rel, hm, _⟩
    unfold runM at hm
    split at hm
    · rename_i hl
      have := rel.len
      simp only [List.length_map] at this
      omega
    · cases hm
  refine F.ok S len fun cdv A outer s H vs Q E hr hsp => ?_
  have hlen := len vs H Q E hsp
  obtain ⟨Fz, sl, r, out, rel, hm, q⟩ := hsp
  obtain ⟨t, pb, sb⟩ := hb cdv A outer s H E hr
  refine ⟨t, (pb ()).nox, ?_⟩
  unfold runM at hm
  have hl : sl.length = vs.length := by
    have := rel.len
    simp only [List.length_map] at this
    omega
  split at hm
  case isFalse => cases hm
  rename_i hnp'
  obtain ⟨o, z1, z2⟩ := bind_some hm
  have r0 := rel.pad (n - sl.length)
  have st : L2.start N vs = vs.map some ++ List.replicate (n - sl.length) none := by
    unfold L2.start
    rw [hn, hl]
  rw [st]
  have b0 : Bs Fz H (ioOf vs sl) Fz H (vs.map some ++ List.replicate (n - sl.length) none) (sl.map some ++ List.replicate (n - sl.length) none) := by
    refine ⟨Ex.refl _, fun a o h _ => h, fun _ _ => rfl, fun a h => h, fun i d a h1 h2 => ?_, fun i d a h1 h2 => ?_, fun p hp => ?_⟩
    · -- no own list at the entry
      have h1 := app_none h1
      have : outs sl = outs sl := rfl
      exfalso
      cases o with
      | nx e =>
        obtain ⟨l, q1, _⟩ := Option.map_eq_some_iff.mp z2
        exact ((outs_ok q1).2 i).2.2 d h1
      | rt r e =>
        obtain ⟨l, q1, _⟩ := Option.map_eq_some_iff.mp z2
        exact ((outs_ok q1).2 i).2.2 d h1
      | bk e => cases z2
      | ct e => cases z2
    · exact mem_ioOf.mpr ⟨⟨d, app_none h1⟩, app_none h2⟩
    · obtain ⟨i, a⟩ := p
      obtain ⟨⟨d, h1⟩, h2⟩ := mem_ioOf.mp hp
      exact ⟨d, app_some h1, app_some h2⟩
  have fin : ∀ (e : En) (l : List Cel) (v : V) (σ' : L2.St) (F' H' : Hp), outs sl e = some l → RelE K F' H' σ' e → Bs Fz H (ioOf vs sl) F' H' σ' e → RelE K F' H' (vs.map some) (l.map some) ∧ Stp (Own (vs.map some) (sl.map some)) Fz H F' H' := by
    intro e l v σ' F' H' ho rel' b'
    obtain ⟨ol, oo⟩ := outs_ok ho
    have slIO : ∀ (i : Nat) (s : Cel), l[i]? = some s → (∃ d, s = .fz d ∧ sl[i]? = some (.fz d)) ∨ ∃ d0 d', s = .io d' ∧ sl[i]? = some (.io d0) ∧ e[i]? = some (some (.io d')) := fun i s hs => by
      have hi : i < sl.length := by rw [← ol]; exact (List.getElem?_eq_some_iff.mp hs).1
      cases z : sl[i]? with
      | none => rw [List.getElem?_eq_none_iff] at z; omega
      | some t =>
        cases t with
        | fz d =>
          have := (oo i).1 d z
          rw [hs] at this
          cases this
          exact .inl ⟨d, rfl, rfl⟩
        | ow d => exact absurd z ((oo i).2.2 d)
        | io d =>
          obtain ⟨d', y1, y2⟩ := (oo i).2.1 d z
          rw [hs] at y1
          cases y1
          exact .inr ⟨d, d', rfl, rfl, y2⟩
    refine ⟨⟨by simp [ol, hl], rel'.sub, fun i d h => ?_, fun i s h hs => ?_, fun i j s t a h1 h2 h3 h4 h5 h6 => ?_⟩, ⟨b'.ff, fun a u h1 h2 => b'.keep a u h1 ?_, fun a h1 _ => b'.old a h1, b'.dom⟩⟩
    · rcases slIO i _ (map_some.mp h) with ⟨d', y1, y2⟩ | ⟨_, _, y1, _⟩
      · cases y1
        obtain ⟨v, q1, q2⟩ := rel.fz i d (map_some.mpr y2)
        exact ⟨v, q1, q2.mono b'.ff⟩
      · cases y1
    · rcases slIO i _ (map_some.mp h) with ⟨d', y1, y2⟩ | ⟨d0, d', y1, y2, y3⟩
      · subst y1
        cases hs
      · subst y1
        obtain ⟨a, u, q1, _⟩ := rel.ow i _ (map_some.mpr y2) rfl
        have hv := map_some.mp q1
        obtain ⟨d2, y4, y5⟩ := b'.has (i, a) (mem_ioOf.mpr ⟨⟨d0, y2⟩, hv⟩)
        obtain ⟨a', u', w1, w2, w3, w4⟩ := rel'.ow i _ y3 rfl
        rw [y5] at w1
        cases w1
        exact ⟨a, u', q1, w2, w3, w4⟩
    · have g : ∀ (i : Nat) (s : Cel), (l.map some)[i]? = some (some s) → s.own = true → ∃ s' : Cel, (sl.map some)[i]? = some (some s') ∧ s'.own = true := fun i s h hs => by
        rcases slIO i _ (map_some.mp h) with ⟨d', y1, y2⟩ | ⟨d0, d', y1, y2, y3⟩
        · subst y1
          cases hs
        · exact ⟨_, map_some.mpr y2, rfl⟩
      obtain ⟨s', y1, y2⟩ := g i s h1 h2
      obtain ⟨t', y3, y4⟩ := g j t h3 h4
      exact rel.ds i j s' t' a y1 y2 y3 y4 h5 h6
    · rintro ⟨i, b⟩ hp rfl
      obtain ⟨⟨d, y1⟩, y2⟩ := mem_ioOf.mp hp
      exact h2 ⟨i, _, map_some.mpr y1, rfl, map_some.mpr y2⟩
  refine sb Fz H (ioOf vs sl) Fz H _ _ o r0 b0 z1 _ ?_
  cases o with
  | nx e =>
    obtain ⟨l, y1, y2⟩ := Option.map_eq_some_iff.mp z2
    cases y2
    intro σ' F' H' rel' b'
    obtain ⟨w1, w2⟩ := fin e _ .non σ' F' H' y1 rel' b'
    exact q _ F' H' w2 w1 .non
  | rt r' e =>
    obtain ⟨l, y1, y2⟩ := Option.map_eq_some_iff.mp z2
    cases y2
    intro v σ' F' H' rel' b' rv
    obtain ⟨w1, w2⟩ := fin e _ v σ' F' H' y1 rel' b'
    exact q _ F' H' w2 w1 rv
  | bk e => cases z2
  | ct e => cases z2

/-! ### calls -/
mutual
def okD : D → Bool
  | .none => true
  | .bool _ => true
  | .int _ => true
  | .str _ => true
  | .tuple ds => okDs ds
  | .list _ => false
  | .dict _ => false
def okDs : List D → Bool
  | [] => true
  | d :: ds => okD d && okDs ds
end
/-- nothing in it could be a list of the caller's -/
def okR : R → Bool
  | .v d => okD d
  | .n (.list ds) => okDs ds
  | _ => false
def isB : R → Bool
  | .b _ => true
  | _ => false
abbrev Mm := List Cel → Option (R × List Cel)
def callP (m : Mm) (f : M (List R)) : M R := fun e => (f e).bind fun p => (getAll p.1 p.2).bind fun ds => (m (ds.map .fz)).bind fun q => if okR q.1 || !(p.1.any isB) then some (q.1, p.2) else none
def callP0 (m : Mm) : M R := fun e => (m []).map fun q => (q.1, e)
section
variable {K : PySem.W.Frag} {F F' : Hp}
mutual
theorem okD_rep (h : ∀ b xs, SqT K F b xs → SqT K F' b xs) : ∀ {v : V} {d : D}, okD d = true → Rep K F v d → Rep K F' v d
  | _, _, _, .non => .non
  | _, _, _, .bl b => .bl b
  | _, _, _, .int i => .int i
  | _, _, _, .str x => .str x
  | _, _, o, .tup hs r => .tup (h _ _ hs) (okDs_rep h (by simpa [okD] using o) r)
  | _, _, o, .lst hs r => by simp [okD] at o
theorem okDs_rep (h : ∀ b xs, SqT K F b xs → SqT K F' b xs) : ∀ {vs : List V} {ds : List D}, okDs ds = true → RepA K F vs ds → RepA K F' vs ds
  | _, _, _, .nil => .nil
  | _, _, o, .cons hd r => by
    have o := Bool.and_eq_true_iff.mp (show (okD _ && okDs _) = true from by simpa [okDs] using o)
    exact .cons (okD_rep h o.1 hd) (okDs_rep h o.2 r)
end
theorem okR_rep {H' H : Hp} {v : V} {r : R} (h : ∀ b xs, SqT K F b xs → SqT K F' b xs) (o : okR r = true) (hn : ∀ a, F a = none → F' a = none) (hr : RepR K F H' H [] v r) : RepR K F' H' H [] v r := by
  cases r with
  | v d => exact okD_rep h o hr
  | b i => cases o
  | n d =>
    cases d with
    | list ds =>
      obtain ⟨a, u, q1, q2, q3, q4, q5⟩ := hr
      obtain ⟨vs, rfl, rr⟩ := q5.list
      exact ⟨a, _, q1, q2, hn a q3, q4, okDs_rep h o rr⟩
    | _ => cases o
end
open Classical in
/-- what is lent for a call is frozen as long as it runs -/
noncomputable def lent (F H : Hp) (B : Addr → Prop) : Hp := fun a => if B a then H a else F a
open Classical in
/-- .. and given back behind it -/
noncomputable def unl (F : Hp) (B : Addr → Prop) : Hp := fun a => if B a then none else F a
theorem unl_in {F : Hp} {B : Addr → Prop} {a : Addr} (h : B a) : unl F B a = none := by unfold unl; rw [if_pos h]
theorem unl_out {F : Hp} {B : Addr → Prop} {a : Addr} (h : ¬ B a) : unl F B a = F a := by unfold unl; rw [if_neg h]
section
variable {K : PySem.W.Frag} {F H F1 H1 : Hp} {σ : L2.St} {e e1 : En}
theorem callP_sem {t : TA} {f : M (List R)} {m : Mm} {E : XK} (sf : SemP K t f) : SemE K (tCall (spM K m) [] E t) (callP m f) := by
  intro F H σ e r e' rel hf Q q
  obtain ⟨⟨rs, e1⟩, h1, hf⟩ := bind_some hf
  obtain ⟨ds, h2, hf⟩ := bind_some hf
  obtain ⟨⟨res, out⟩, h3, hf⟩ := bind_some hf
  split at hf
  case isFalse => cases hf
  rename_i hok
  cases hf
  refine sf F H σ e rs e1 rel h1 _ fun vs F1 H1 p1 rw' => ?_
  rw [List.append_nil]
  -- what is lent
  generalize hB : (fun a => ∃ (j : Nat) (s : Cel), R.b j ∈ rs ∧ e1[j]? = some (some s) ∧ s.own = true ∧ σ[j]? = some (some (.ref a))) = B
  have Bown : ∀ a, B a → Own σ e1 a := fun a h => by
    subst hB
    obtain ⟨j, s, _, y1, y2, y3⟩ := h
    exact ⟨j, s, y1, y2, y3⟩
  have FB : Ex F1 (lent F1 H1 B) := fun a o h => by
    unfold lent
    rw [if_neg]
    · exact h
    · intro hb
      rw [(p1.rel.ownH (Bown a hb)).2] at h
      cases h
  have FH : Ex (lent F1 H1 B) H1 := fun a o h => by
    unfold lent at h
    split at h
    · exact h
    · exact p1.rel.sub a o h
  have rep : ∀ {vs : List V} {rs' : List R} {ds : List D}, (∀ j, R.b j ∈ rs' → R.b j ∈ rs) → RepWs K F1 σ vs rs' → getAll rs' e1 = some ds → RepA K (lent F1 H1 B) vs ds := by
    intro vs rs' ds hsub hr
    induction hr generalizing ds with
    | nil =>
      intro g
      cases g
      exact .nil
    | @cons v vs r rs' h hs ih =>
      intro g
      obtain ⟨d, g1, g⟩ := bind_some g
      obtain ⟨ds', g2, g⟩ := bind_some g
      cases g
      refine .cons ?_ (ih (fun j hj => hsub j (List.mem_cons_of_mem _ hj)) g2)
      cases r with
      | v d' =>
        cases g1
        exact Rep.mono FB h
      | n d' => exact h.elim
      | b j =>
        have h : σ[j]? = some (some v) := h
        unfold R.get at g1
        cases z : e1[j]? with
        | none => simp [z] at g1
        | some sx =>
          cases sx with
          | none => simp [z] at g1
          | some s =>
            simp only [z, Option.some.injEq] at g1
            subst g1
            cases ho : s.own with
            | false =>
              cases s with
              | fz d' =>
                obtain ⟨v', y1, y2⟩ := p1.rel.fz j d' z
                rw [h] at y1
                cases y1
                exact y2.mono FB
              | ow _ => cases ho
              | io _ => cases ho
            | true =>
              obtain ⟨a, o, y1, y2, y3, y4⟩ := p1.rel.ow j s z ho
              rw [h] at y1
              cases y1
              have Ba : B a := by
                subst hB
                exact ⟨j, s, hsub j (List.mem_cons_self ..), z, ho, h⟩
              exact (y4.mono FB).frozen (by unfold lent; rw [if_pos Ba]; exact y3)
  have rA := rep (fun _ h => h) rw' h2
  have noOwn : ∀ (σ' : L2.St) (a : Addr), ¬ Own σ' ((ds.map Cel.fz).map some) a := by
    rintro σ' a ⟨i, s, y1, y2, _⟩
    rw [map_some, List.getElem?_map] at y1
    cases z : ds[i]? with
    | none => rw [z] at y1; cases y1
    | some d =>
      rw [z] at y1
      cases y1
      cases y2
  refine ⟨lent F1 H1 B, ds.map .fz, res, out, ⟨by simp [rA.length], FH, fun i d h => ?_, fun i s h hs => ?_, fun i j s t a h1 h2 _ _ _ _ => ?_⟩, h3, fun v F2 H2 st rl rr => ?_⟩
  · rw [map_some, List.getElem?_map] at h
    cases z : ds[i]? with
    | none => rw [z] at h; cases h
    | some d' =>
      rw [z] at h
      cases h
      obtain ⟨v, y1, y2⟩ := rA.get z
      exact ⟨v, map_some.mpr y1, y2⟩
  · rw [map_some, List.getElem?_map] at h
    cases z : ds[i]? with
    | none => rw [z] at h; cases h
    | some d' =>
      rw [z] at h
      cases h
      cases hs
  · rw [map_some, List.getElem?_map] at h1
    cases z : ds[i]? with
    | none => rw [z] at h1; cases h1
    | some d' =>
      rw [z] at h1
      cases h1
      cases h2
  · -- behind the call: given back
    have hh : ∀ a o, H1 a = some o → H2 a = some o := fun a o h => st.hh a o h (noOwn _ a)
    have old : ∀ a, H1 a ≠ none → F2 a = lent F1 H1 B a := fun a h => st.old a h (noOwn _ a)
    have tup : ∀ b xs, B b → ¬ SqT K F2 b xs → True := fun _ _ _ _ => trivial
    -- what is lent is a list, so nothing that is no list leans on it
    have F3F : Ex (unl F2 B) F2 := fun a o h => by
      by_cases hb : B a
      · rw [unl_in hb] at h
        cases h
      · rw [unl_out hb] at h
        exact h
    have F13 : Ex F1 (unl F2 B) := fun a o h => by
      rw [unl_out]
      · exact st.ff a o (FB a o h)
      · intro hb
        rw [(p1.rel.ownH (Bown a hb)).2] at h
        cases h
    have oldB : ∀ a, H1 a ≠ none → (unl F2 B) a = F1 a := fun a h => by
      by_cases hb : B a
      · rw [unl_in hb]
        exact (p1.rel.ownH (Bown a hb)).2.symm
      · rw [unl_out hb, old a h]
        unfold lent
        rw [if_neg hb]
    have r3 : RelE K (unl F2 B) H2 σ e1 := by
      refine ⟨p1.rel.len, F3F.trans rl.sub, fun i d h => ?_, fun i s h hs => ?_, p1.rel.ds⟩
      · obtain ⟨v, y1, y2⟩ := p1.rel.fz i d h
        exact ⟨v, y1, y2.mono F13⟩
      · obtain ⟨a, o, y1, y2, y3, y4⟩ := p1.rel.ow i s h hs
        exact ⟨a, o, y1, (oldB a (by rw [y3]; simp)).trans y2, hh a o y3, y4.mono F13⟩
    have pst : Pst K F1 H1 σ e1 (unl F2 B) H2 e1 := ⟨⟨F13, fun a o h _ => hh a o h, fun a h _ => oldB a h, st.dom⟩, r3, Shp.refl⟩
    refine q v _ H2 (p1.trans pst) (RepR.wide (H := H1) ?_ p1.stp.dom)
    by_cases hb : (rs.any isB) = true
    · have ho : okR res = true := by
        rw [hb] at hok
        simpa using hok
      refine okR_rep (fun b xs hs => ?_) ho (fun a h => ?_) rr
      · rcases hs with hs | hs
        · have nb : ¬ B b := fun hB' => by
            obtain ⟨hb1, _⟩ := p1.rel.ownH (Bown b hB')
            have e2 := old b hb1
            unfold lent at e2
            rw [if_pos hB'] at e2
            -- an owned one is a list
            obtain ⟨i, s, y1, y2, y3⟩ := Bown b hB'
            obtain ⟨a, o, z1, z2, z3, z4⟩ := p1.rel.ow i s y1 y2
            rw [y3] at z1
            cases z1
            rcases z4.any with ⟨vs', ds', rfl, _, _⟩ | ⟨ks', vs', ds', rfl, _⟩
            · rw [z3] at e2
              rcases hs with hs | ⟨ob, hs⟩
              · rw [hs] at e2
                cases e2
              · rw [hs] at e2
                cases e2
            · rw [z3] at e2
              rcases hs with hs | ⟨ob, hs⟩
              · rw [hs] at e2
                cases e2
              · rw [hs] at e2
                cases e2
          refine .inl ?_
          rcases hs with hs | ⟨ob, hs⟩
          · exact .inl (by rw [unl_out nb]; exact hs)
          · exact .inr ⟨ob, by rw [unl_out nb]; exact hs⟩
        · exact .inr hs
      · by_cases z : B a
        · exact unl_in z
        · rw [unl_out z]
          exact h
    · -- nothing was lent
      have nB : ∀ a, ¬ B a := fun a hB' => by
        subst hB
        obtain ⟨j, s, y1, _⟩ := hB'
        exact hb (List.any_eq_true.mpr ⟨_, y1, rfl⟩)
      have e3 : (unl F2 B) = F2 := by
        funext a
        exact unl_out (nB a)
      rw [e3]
      exact rr
end
/-! ### calls that change lists of the caller's -/
def mkSl : List Bool → List R → En → Option (List Cel)
  | [], [], _ => some []
  | true :: bs, .b j :: rs, e => (match e[j]? with
    | some (some s) => if s.own then (mkSl bs rs e).map (.io s.d :: ·) else none
    | _ => none)
  | false :: bs, .v d :: rs, e => (mkSl bs rs e).map (.fz d :: ·)
  | _, _, _ => none
def ioIx : List R → List Nat
  | [] => []
  | .b j :: rs => j :: ioIx rs
  | _ :: rs => ioIx rs
def putAll : List R → List Cel → En → Option En
  | [], [], e => some e
  | .b j :: rs, .io d :: out, e => (put j d e).bind (putAll rs out)
  | .v _ :: rs, _ :: out, e => putAll rs out e
  | _, _, _ => none
def callIO (sig : List Bool) (m : Mm) (f : M (List R)) : M R := fun e => (f e).bind fun p => if (ioIx p.1).Nodup then (mkSl sig p.1 p.2).bind fun sl => (m sl).bind fun q => (putAll p.1 q.2 p.2).map fun e2 => (q.1, e2) else none
section
variable {K : PySem.W.Frag} {F H F1 H1 : Hp} {σ : L2.St} {e e1 : En}
theorem mkSl_ok : ∀ {bs : List Bool} {rs : List R} {e : En} {sl : List Cel}, mkSl bs rs e = some sl → sl.length = rs.length ∧ ∀ (k : Nat) (c : Cel), sl[k]? = some c → (∃ d, c = .fz d ∧ rs[k]? = some (.v d)) ∨ ∃ j s, c = .io s.d ∧ rs[k]? = some (.b j) ∧ e[j]? = some (some s) ∧ s.own = true
  | [], [], e, sl, h => by
    unfold mkSl at h
    cases h
    exact ⟨rfl, fun k c q => by simp at q⟩
  | [], r :: rs, e, sl, h => by
    unfold mkSl at h
    cases h
  | b :: bs, [], e, sl, h => by
    cases b <;> (unfold mkSl at h; cases h)
  | true :: bs, .v d :: rs, e, sl, h => by
    unfold mkSl at h
    cases h
  | true :: bs, .n d :: rs, e, sl, h => by
    unfold mkSl at h
    cases h
  | false :: bs, .b d :: rs, e, sl, h => by
    unfold mkSl at h
    cases h
  | false :: bs, .n d :: rs, e, sl, h => by
    unfold mkSl at h
    cases h
  | true :: bs, .b j :: rs, e, sl, h => by
    unfold mkSl at h
    cases z : e[j]? with
    | none => simp [z] at h
    | some sx =>
      cases sx with
      | none => simp [z] at h
      | some s =>
        simp only [z] at h
        split at h
        · rename_i ho
          obtain ⟨o, h1, rfl⟩ := Option.map_eq_some_iff.mp h
          obtain ⟨l, ih⟩ := mkSl_ok h1
          refine ⟨by simp [l], fun k c q => ?_⟩
          cases k with
          | zero =>
            simp at q
            subst q
            exact .inr ⟨j, s, rfl, by simp, z, ho⟩
          | succ k => simpa using ih k c (by simpa using q)
        · cases h
  | false :: bs, .v d :: rs, e, sl, h => by
    unfold mkSl at h
    obtain ⟨o, h1, rfl⟩ := Option.map_eq_some_iff.mp h
    obtain ⟨l, ih⟩ := mkSl_ok h1
    refine ⟨by simp [l], fun k c q => ?_⟩
    cases k with
    | zero =>
      simp at q
      subst q
      exact .inl ⟨d, rfl, by simp⟩
    | succ k => simpa using ih k c (by simpa using q)
theorem put_eq {i : Nat} {d : D} {e e' : En} (hp : put i d e = some e') : ∃ s s' : Cel, e[i]? = some (some s) ∧ s.own = true ∧ s'.own = true ∧ s'.d = d ∧ e' = e.set i (some s') ∧ (∀ d0, s = .io d0 → s' = .io d) ∧ (∀ d0, s = .ow d0 → s' = .ow d) := by
  unfold put at hp
  cases q : e[i]? with
  | none => simp [q] at hp
  | some x =>
    cases x with
    | none => simp [q] at hp
    | some s =>
      cases s with
      | fz _ => simp [q] at hp
      | ow d0 =>
        simp only [q, Option.some.injEq] at hp
        exact ⟨_, .ow d, rfl, rfl, rfl, rfl, hp.symm, fun _ z => (by cases z), fun _ _ => rfl⟩
      | io d0 =>
        simp only [q, Option.some.injEq] at hp
        exact ⟨_, .io d, rfl, rfl, rfl, rfl, hp.symm, fun _ _ => rfl, fun _ z => (by cases z)⟩
theorem ioIx_mem : ∀ {rs : List R} {j : Nat}, j ∈ ioIx rs ↔ R.b j ∈ rs
  | [], j => by simp [ioIx]
  | .b i :: rs, j => by simp [ioIx, ioIx_mem (rs := rs)]
  | .v _ :: rs, j => by simp [ioIx, ioIx_mem (rs := rs)]
  | .n _ :: rs, j => by simp [ioIx, ioIx_mem (rs := rs)]
theorem ioIx_inj : ∀ {rs : List R} {j k l : Nat}, (ioIx rs).Nodup → rs[k]? = some (.b j) → rs[l]? = some (.b j) → k = l
  | [], _, _, _, _, h, _ => by simp at h
  | r :: rs, j, k, l, hn, h1, h2 => by
    cases k with
    | zero =>
      cases l with
      | zero => rfl
      | succ l =>
        simp at h1 h2
        subst h1
        have hn : (j :: ioIx rs).Nodup := hn
        exact absurd (ioIx_mem.mpr (List.mem_of_getElem? h2)) (List.nodup_cons.mp hn).1
    | succ k =>
      cases l with
      | zero =>
        simp at h1 h2
        subst h2
        have hn : (j :: ioIx rs).Nodup := hn
        exact absurd (ioIx_mem.mpr (List.mem_of_getElem? h1)) (List.nodup_cons.mp hn).1
      | succ l =>
        simp at h1 h2
        have hn' : (ioIx rs).Nodup := by
          cases r with
          | b i => exact (List.nodup_cons.mp (show (i :: ioIx rs).Nodup from hn)).2
          | v d => exact hn
          | n d => exact hn
        rw [ioIx_inj hn' h1 h2]
theorem putAll_ok : ∀ {rs : List R} {out : List Cel} {e e2 : En}, putAll rs out e = some e2 → (ioIx rs).Nodup → e2.length = e.length ∧ (∀ j, R.b j ∉ rs → e2[j]? = e[j]?) ∧
    ∀ k j : Nat, rs[k]? = some (.b j) → ∃ (d : D) (s s' : Cel), out[k]? = some (.io d) ∧ e[j]? = some (some s) ∧ s.own = true ∧ e2[j]? = some (some s') ∧ s'.own = true ∧ s'.d = d ∧ (∀ x, s = .io x → s' = .io d) ∧ (∀ x, s = .ow x → s' = .ow d)
  | [], [], e, e2, h, hn => by
    unfold putAll at h
    cases h
    exact ⟨rfl, fun _ _ => rfl, fun k j q => by simp at q⟩
  | [], _ :: _, e, e2, h, hn => by
    unfold putAll at h
    cases h
  | .n d :: rs, out, e, e2, h, hn => by
    cases out <;> (unfold putAll at h; cases h)
  | .b j :: rs, [], e, e2, h, hn => by
    unfold putAll at h
    cases h
  | .v j :: rs, [], e, e2, h, hn => by
    unfold putAll at h
    cases h
  | .b j :: rs, .fz d :: out, e, e2, h, hn => by
    unfold putAll at h
    cases h
  | .b j :: rs, .ow d :: out, e, e2, h, hn => by
    unfold putAll at h
    cases h
  | .v d :: rs, c :: out, e, e2, h, hn => by
    unfold putAll at h
    obtain ⟨h1, h2, h3⟩ := putAll_ok h hn
    refine ⟨h1, fun j q => h2 j fun z => q (List.mem_cons_of_mem _ z), fun k j q => ?_⟩
    cases k with
    | zero => simp at q
    | succ k => simpa using h3 k j (by simpa using q)
  | .b j :: rs, .io d :: out, e, e2, h, hn => by
    unfold putAll at h
    obtain ⟨e1, z1, z2⟩ := bind_some h
    obtain ⟨hj, hn'⟩ := List.nodup_cons.mp (show (j :: ioIx rs).Nodup from hn)
    have hj' : R.b j ∉ rs := fun z => hj (ioIx_mem.mpr z)
    obtain ⟨s, s', y1, y2, y3, y4, rfl, y5, y6⟩ := put_eq z1
    have hi : j < e.length := (List.getElem?_eq_some_iff.mp y1).1
    obtain ⟨h1, h2, h3⟩ := putAll_ok z2 hn'
    refine ⟨by rw [h1, List.length_set], fun i q => ?_, fun k i q => ?_⟩
    · rw [h2 i fun z => q (List.mem_cons_of_mem _ z), set_get hi, if_neg]
      rintro rfl
      exact q (List.mem_cons_self ..)
    · cases k with
      | zero =>
        simp at q
        subst q
        exact ⟨d, s, s', by simp, y1, y2, by rw [h2 _ hj', set_get hi, if_pos rfl], y3, y4, y5, y6⟩
      | succ k =>
        have q : rs[k]? = some (.b i) := by simpa using q
        obtain ⟨d', t, t', w1, w2, w3⟩ := h3 k i q
        have ne : i ≠ j := by
          rintro rfl
          exact hj' (List.mem_of_getElem? q)
        rw [set_get hi, if_neg ne] at w2
        exact ⟨d', t, t', by simpa using w1, w2, w3⟩
theorem RepWs.get {vs : List V} {rs : List R} (h : RepWs K F σ vs rs) : ∀ {k : Nat} {r : R}, rs[k]? = some r → ∃ v, vs[k]? = some v ∧ RepW K F σ v r := by
  induction h with
  | nil => intro k r q; simp at q
  | cons h hs ih =>
    intro k r q
    cases k with
    | zero =>
      simp at q
      subst q
      exact ⟨_, by simp, h⟩
    | succ k =>
      obtain ⟨v, h1, h2⟩ := ih (k := k) (r := r) (by simpa using q)
      exact ⟨v, by simpa using h1, h2⟩
theorem callIO_sem {t : TA} {f : M (List R)} {m : Mm} {sig : List Bool} {E : XK} (sf : SemP K t f) : SemE K (tCall (spM K m) [] E t) (callIO sig m f) := by
  intro F H σ e r e' rel hf Q q
  obtain ⟨⟨rs, e1⟩, h1, hf⟩ := bind_some hf
  split at hf
  case isFalse => cases hf
  rename_i hnd
  obtain ⟨sl, h2, hf⟩ := bind_some hf
  obtain ⟨⟨res, out⟩, h3, hf⟩ := bind_some hf
  obtain ⟨e2, h4, h5⟩ := Option.map_eq_some_iff.mp hf
  cases h5
  refine sf F H σ e rs e1 rel h1 _ fun vs F1 H1 p1 rw' => ?_
  rw [List.append_nil]
  obtain ⟨ls, ms⟩ := mkSl_ok h2
  have ls : sl.length = rs.length := ls
  obtain ⟨pl, po, pi'⟩ := putAll_ok h4 hnd
  have lv := rw'.length
  have ioA : ∀ (k : Nat) (c : Cel), sl[k]? = some c → c.own = true → ∃ (j : Nat) (s : Cel) (a : Addr), rs[k]? = some (.b j) ∧ e1[j]? = some (some s) ∧ s.own = true ∧ c = .io s.d ∧ vs[k]? = some (.ref a) ∧ σ[j]? = some (some (.ref a)) := by
    intro k c hc ho
    rcases ms k c hc with ⟨d, rfl, _⟩ | ⟨j, s, rfl, y1, y2, y3⟩
    · cases ho
    · obtain ⟨v, w1, w2⟩ := rw'.get y1
      have w2 : σ[j]? = some (some v) := w2
      obtain ⟨a, o, q1, _⟩ := p1.rel.ow j s y2 y3
      rw [w2] at q1
      cases q1
      exact ⟨j, s, a, y1, y2, y3, rfl, w1, w2⟩
  have ownS : ∀ a, Own (vs.map some) (sl.map some) a → ∃ (j : Nat) (s : Cel), R.b j ∈ rs ∧ e1[j]? = some (some s) ∧ s.own = true ∧ σ[j]? = some (some (.ref a)) := by
    rintro a ⟨k, c, y1, y2, y3⟩
    obtain ⟨j, s, b, w1, w2, w3, w4, w5, w6⟩ := ioA k c (map_some.mp y1) y2
    have := map_some.mp y3
    rw [w5] at this
    cases this
    exact ⟨j, s, List.mem_of_getElem? w1, w2, w3, w6⟩
  refine ⟨F1, sl, res, out, ⟨by simp only [List.length_map]; omega, p1.rel.sub, fun k d h => ?_, fun k c h hc => ?_, fun k l c c' a h1 s1 h2 s2 h3 h4 => ?_⟩, h3, fun v F2 H2 st rl rr => ?_⟩
  · rcases ms k _ (map_some.mp h) with ⟨d', y1, y2⟩ | ⟨j, s, y1, _⟩
    · cases y1
      obtain ⟨v, w1, w2⟩ := rw'.get y2
      exact ⟨v, map_some.mpr w1, w2⟩
    · cases y1
  · obtain ⟨j, s, a, w1, w2, w3, rfl, w5, w6⟩ := ioA k c (map_some.mp h) hc
    obtain ⟨a', o, y1, y2, y3, y4⟩ := p1.rel.ow j s w2 w3
    rw [w6] at y1
    cases y1
    exact ⟨a, o, map_some.mpr w5, y2, y3, y4⟩
  · obtain ⟨j, s, b, w1, w2, w3, _, w5, w6⟩ := ioA k c (map_some.mp h1) s1
    obtain ⟨j', s', b', x1, x2, x3, _, x5, x6⟩ := ioA l c' (map_some.mp h2) s2
    have y1 := map_some.mp h3
    have y2 := map_some.mp h4
    rw [w5] at y1
    rw [x5] at y2
    cases y1
    cases y2
    have e := p1.rel.ds j j' s s' a w2 w3 x2 x3 w6 x6
    subst e
    exact ioIx_inj hnd w1 x1
  · have sub : ∀ a, Own (vs.map some) (sl.map some) a → Own σ e1 a := fun a h => by
      obtain ⟨j, s, _, y2, y3, y4⟩ := ownS a h
      exact ⟨j, s, y2, y3, y4⟩
    have kOf : ∀ j : Nat, R.b j ∈ rs → ∃ k : Nat, rs[k]? = some (.b j) := fun j h => List.getElem?_of_mem h
    have was : ∀ (i : Nat) (s' : Cel), e'[i]? = some (some s') → s'.own = true → ∃ s : Cel, e1[i]? = some (some s) ∧ s.own = true := fun i s' h hs => by
      by_cases z : R.b i ∈ rs
      · obtain ⟨k, hk⟩ := kOf i z
        obtain ⟨d, s, t, _, y2, y3, _⟩ := pi' k i hk
        exact ⟨s, y2, y3⟩
      · have h : e'[i]? = some (some s') := h
        rw [po i z] at h
        exact ⟨s', h, hs⟩
    have r2 : RelE K F2 H2 σ e' := by
      refine ⟨by rw [pl]; exact p1.rel.len, rl.sub, fun i d h => ?_, fun i s h hs => ?_, fun i j s t a h1 s1 h2 s2 h3 h4 => ?_⟩
      · have z : R.b i ∉ rs := fun z => by
          obtain ⟨k, hk⟩ := kOf i z
          obtain ⟨d', s, t, _, _, _, y4, y5, _⟩ := pi' k i hk
          rw [h] at y4
          cases y4
          cases y5
        rw [po i z] at h
        obtain ⟨v, y1, y2⟩ := p1.rel.fz i d h
        exact ⟨v, y1, y2.mono st.ff⟩
      · by_cases z : R.b i ∈ rs
        · obtain ⟨k, hk⟩ := kOf i z
          obtain ⟨d, s0, t, y1, y2, y3, y4, y5, y6, _⟩ := pi' k i hk
          rw [h] at y4
          cases y4
          obtain ⟨a, o, w1, w2, w3, w4⟩ := rl.ow k _ (map_some.mpr y1) rfl
          obtain ⟨v, x1, x2⟩ := rw'.get hk
          have x2 : σ[i]? = some (some v) := x2
          have w1 := map_some.mp w1
          rw [x1] at w1
          cases w1
          exact ⟨a, o, x2, w2, w3, by rw [y6]; exact w4⟩
        · rw [po i z] at h
          obtain ⟨a, o, w1, w2, w3, w4⟩ := p1.rel.ow i s h hs
          have nO : ¬ Own (vs.map some) (sl.map some) a := fun ho => by
            obtain ⟨j, s', y1, y2, y3, y4⟩ := ownS a ho
            have := p1.rel.ds i j s s' a h hs y2 y3 w1 y4
            subst this
            exact z y1
          exact ⟨a, o, w1, (st.old a (by rw [w3]; simp) nO).trans w2, st.hh a o w3 nO, w4.mono st.ff⟩
      · obtain ⟨s', y1, y2⟩ := was i s h1 s1
        obtain ⟨t', y3, y4⟩ := was j t h2 s2
        exact p1.rel.ds i j s' t' a y1 y2 y3 y4 h3 h4
    have sh : Shp e1 e' := by
      refine ⟨was, fun i d h => ?_, fun i d h => ?_⟩
      · by_cases z : R.b i ∈ rs
        · obtain ⟨k, hk⟩ := kOf i z
          obtain ⟨d', s, t, y1, y2, y3, y4, y5, y6, y7, y8⟩ := pi' k i hk
          rw [h] at y2
          cases y2
          exact ⟨d', by rw [y4, y7 d rfl]⟩
        · exact ⟨d, by rw [po i z]; exact h⟩
      · by_cases z : R.b i ∈ rs
        · obtain ⟨k, hk⟩ := kOf i z
          obtain ⟨d', s, t, y1, y2, y3, y4, y5, y6, y7, y8⟩ := pi' k i hk
          cases s with
          | io d0 => exact ⟨d0, y2⟩
          | ow d0 =>
            rw [y8 d0 rfl] at y4
            rw [h] at y4
            cases y4
          | fz d0 => cases y3
        · exact ⟨d, by rw [← po i z]; exact h⟩
    have pst : Pst K F1 H1 σ e1 F2 H2 e' := ⟨⟨st.ff, fun a o h1 h2 => st.hh a o h1 fun z => h2 (sub a z), fun a h1 h2 => st.old a h1 fun z => h2 (sub a z), st.dom⟩, r2, sh⟩
    exact q v F2 H2 (p1.trans pst) (RepR.wide rr p1.stp.dom)
end
theorem funD_lk {K : PySem.W.Frag} {x qual : Str} {params : Arguments} {body : List Stmt} {scope : Scope} {f : Addr} {fd : FuncData} (F : FunD K x qual params body scope [] [] f fd) : ∃ o, K.lookup f = some o ∧ o.data = .func fd := by
  obtain ⟨oc, od, dV, kV, doc, pm, an, cdv, ct, osl, e, lk, _⟩ := F.ex
  exact ⟨_, lk, rfl⟩
theorem same_fd {K : PySem.W.Frag} {f : Addr} {fd fd' : FuncData} (h : ∃ o, K.lookup f = some o ∧ o.data = .func fd) (h' : ∃ o, K.lookup f = some o ∧ o.data = .func fd') : fd = fd' := by
  obtain ⟨o, h1, h2⟩ := h
  obtain ⟨o', h3, h4⟩ := h'
  rw [h1] at h3
  cases h3
  rw [h2] at h4
  cases h4
  rfl
/-- a def of the text as its callers know it -/
structure Def (P : Program) (w : World) (K : PySem.W.Frag) (mg : Str → Option Value) (base : Heap) (name : Str) (ps : List Str) (k : Nat) (m : Mm) : Prop where
  ex : ∃ (f : Addr) (fd : FuncData), mg name = some (.ref f) ∧ PySem.W.keepIn K (.ref f) = true ∧ Binds K fd ps [] ∧ FnOk P w K mg base CX0 k f fd ps (spM K m) ∧ ∃ o, K.lookup f = some o ∧ o.data = .func fd
section
variable {ι : Type} {K : PySem.W.Frag} {X : ι → Cx} {a : Expr} {es : List Expr} {fs : M (List R)} {pos p : Pos} {x : Str} {P : Program} {w : World} {mg : Str → Option Value} {base : Heap} {ps : List Str} {k : Nat} {m : Mm}
theorem so_call (G : Def P w K mg base x ps k m) (hr : ∀ i, Room k (X i).A) (ha : SoP K X (a :: es) fs) (hX : ∀ i, (X i).prog = P ∧ (X i).w = w ∧ (X i).K = K ∧ (X i).mg = mg ∧ (X i).base = base := by intro _; exact ⟨rfl, rfl, rfl, rfl, rfl⟩)
    (hg : ∀ i, Gl (X i) x := by intro _; rfl) (hdb : (x == ("__debug__" : Str)) = false := by decide) (he : ∀ i, starEach (a :: es) (X i).env = (false, eval a (X i).env) :: starEach es (X i).env := by intro _; rfl) (hpl : ∀ i, (backTo pos (starEach es (X i).env)).any (·.1) = false := by intro _; rfl) :
    SoE K X (.Call (.Name x p) (a :: es) [] pos) (callP m fs) := by
  obtain ⟨f, fd, mf, kf, bf, F, _⟩ := G.ex
  obtain ⟨t, pa, ha⟩ := ha
  refine ⟨tCall (spM K m) [] E0 t, fun i => ?_, callP_sem ha⟩
  obtain ⟨h1, h2, h3, h4, h5⟩ := hX i
  subst h1 h2 h3 h4 h5
  exact pe_call F (hr i) (hg i) mf kf bf .nil pass0 (pa i) hdb (he i) (hpl i)
theorem so_callIO {sig : List Bool} (G : Def P w K mg base x ps k m) (hr : ∀ i, Room k (X i).A) (ha : SoP K X (a :: es) fs) (hX : ∀ i, (X i).prog = P ∧ (X i).w = w ∧ (X i).K = K ∧ (X i).mg = mg ∧ (X i).base = base := by intro _; exact ⟨rfl, rfl, rfl, rfl, rfl⟩)
    (hg : ∀ i, Gl (X i) x := by intro _; rfl) (hdb : (x == ("__debug__" : Str)) = false := by decide) (he : ∀ i, starEach (a :: es) (X i).env = (false, eval a (X i).env) :: starEach es (X i).env := by intro _; rfl) (hpl : ∀ i, (backTo pos (starEach es (X i).env)).any (·.1) = false := by intro _; rfl) :
    SoE K X (.Call (.Name x p) (a :: es) [] pos) (callIO sig m fs) := by
  obtain ⟨f, fd, mf, kf, bf, F, _⟩ := G.ex
  obtain ⟨t, pa, ha⟩ := ha
  refine ⟨tCall (spM K m) [] E0 t, fun i => ?_, callIO_sem ha⟩
  obtain ⟨h1, h2, h3, h4, h5⟩ := hX i
  subst h1 h2 h3 h4 h5
  exact pe_call F (hr i) (hg i) mf kf bf .nil pass0 (pa i) hdb (he i) (hpl i)
theorem so_call0 (G : Def P w K mg base x ps k m) (hr : ∀ i, Room k (X i).A) (hX : ∀ i, (X i).prog = P ∧ (X i).w = w ∧ (X i).K = K ∧ (X i).mg = mg ∧ (X i).base = base := by intro _; exact ⟨rfl, rfl, rfl, rfl, rfl⟩)
    (hg : ∀ i, Gl (X i) x := by intro _; rfl) (hdb : (x == ("__debug__" : Str)) = false := by decide) :
    SoE K X (.Call (.Name x p) [] [] pos) (callP m nilP) := by
  obtain ⟨f, fd, mf, kf, bf, F, _⟩ := G.ex
  refine ⟨tCall (spM K m) [] E0 tNil, fun i => ?_, callP_sem (fun F H σ e rs e' rel hf Q q => by
    cases hf
    exact q [] F H (Pst.refl rel) .nil)⟩
  obtain ⟨h1, h2, h3, h4, h5⟩ := hX i
  subst h1 h2 h3 h4 h5
  exact pe_call0 F (hr i) (hg i) mf kf bf .nil pass0 hdb
end
end Sl

set_option Elab.async false
set_option linter.all false
set_option maxRecDepth 100000
set_option maxHeartbeats 2000000
set_option autoImplicit false
/-! Operators. -/
namespace Sl
open PySem PySem.Spec PyProof.Rows L2 Evl
/-! ### lists joined, repeated, of any standing; tuples joined, empty ones too -/
def rCatS (K : PySem.W.Frag) : R2 := fun x y H Q => ∃ l b xs zs, x = .ref l ∧ y = .ref b ∧ SqL K H l xs ∧ SqL K H b zs ∧ xs.length + zs.length ≤ sizeLine ∧ ∀ p, H p = none → Q (.ref p) (upd H p (.lst (xs ++ zs)))
def rCatU (K : PySem.W.Frag) : R2 := fun x y H Q => ∃ a b xs ys, x = .ref a ∧ y = .ref b ∧ SqT K H a xs ∧ SqT K H b ys ∧ xs.length + ys.length ≤ sizeLine ∧
  (xs = [] → Q (.ref b) H) ∧ (xs ≠ [] → ys = [] → Q (.ref a) H) ∧ (xs ≠ [] → ys ≠ [] → ∀ p, H p = none → Q (.ref p) (upd H p (.tup (xs ++ ys))))
def rRepS (K : PySem.W.Frag) : R2 := fun x y H Q => ∃ l k xs, x = .ref l ∧ y = .int k ∧ SqL K H l xs ∧ -(2 ^ 63) ≤ k ∧ k < 2 ^ 63 ∧ xs.length * k.toNat ≤ sizeLine ∧
  ∀ p, H p = none → Q (.ref p) (upd H p (.lst (List.replicate k.toNat xs).flatten))
def rRepU (K : PySem.W.Frag) : R2 := fun x y H Q => ∃ l k xs, x = .ref l ∧ y = .int k ∧ SqT K H l xs ∧ 1 ≤ xs.length ∧ 2 ≤ k ∧ k.toNat * xs.length ≤ 1000000 ∧ ∀ p, H p = none → Q (.ref p) (upd H p (.tup (List.replicate k.toNat xs).flatten))
section
variable {X : Cx}
theorem op_catU : OpR X (binaryOp .Add) (rCatU X.K) := by
  intro pins s σ H x y v u Q I rx ry h
  obtain ⟨a, b, xs, ys, rfl, rfl, ha, hb, hz, q0, q1, q2⟩ := h
  by_cases hx : xs = []
  · cases rx
    cases ry
    obtain ⟨its, r1, p1, _⟩ := I.tuple ha
    obtain ⟨its2, r2, p2, _⟩ := I.tuple hb
    have hv : its = [] := r1.nil_iff.mpr hx
    obtain ⟨⟨cls, dd, data, sl⟩, ho, hc, n, hd⟩ := id p1
    obtain ⟨⟨cls2, dd2, data2, sl2⟩, ho2, hc2, n2, hd2⟩ := id p2
    simp only at hc hd hc2 hd2
    subst hc hd hc2 hd2
    exact concat_meets ⟨_, ho, rfl⟩ ⟨_, ho2, rfl⟩ noFill_tuple_add seq_tuple_add PySem.F.slot_tuple_add PySem.F.entry_tuple_add (PySem.F.args_tuple_add_2 _ _)
      (tuple_addW0 a b its.toArray its2.toArray n n2 dd dd2 sl sl2 (by simp [hv])) ⟨ho, ho2, ⟨.ref b, H, I, rfl, q0 hx⟩⟩
  · exact op_catT pins s σ H _ _ v u Q I rx ry ⟨a, b, xs, ys, rfl, rfl, ha, hb, hx, hz, q1 hx, q2 hx⟩
/-- a tuple, many times -/
theorem op_repU : OpR X (binaryOp .Mult) (rRepU X.K) := by
  intro pins s σ H x y v u Q I rx ry h
  obtain ⟨l, k, xs, rfl, rfl, hT, hne, h1, hz, q⟩ := h
  cases rx
  obtain ⟨t, rfl⟩ := ry
  obtain ⟨its, r, ⟨⟨cls, dd, data, sl⟩, ho, hc, n, hd⟩, _⟩ := I.tuple hT
  simp only at hc hd
  subst hc hd
  have hle : its.length = xs.length := r.length.symm
  have e0 : its.toArray.size = xs.length := by rw [List.size_toArray, hle]
  have hi : its.toArray.isEmpty = false := by
    cases its with
    | nil => rw [← hle] at hne; exact absurd hne (by decide)
    | cons a b => rfl
  have hzi : ((xs.length : Nat) : Int) * k ≤ 1000000 := by
    have e : ((k.toNat : Nat) : Int) = k := Int.toNat_of_nonneg (by omega)
    have a : ((k.toNat * xs.length : Nat) : Int) = ((xs.length : Nat) : Int) * k := by rw [Int.natCast_mul, e, Int.mul_comm]
    omega
  have fl : (List.replicate k.toNat its).flatten.length = k.toNat * xs.length := by rw [PyProof.Rows.lm_len_rep_flat, hle]
  have fx : (List.replicate k.toNat xs).flatten.length = k.toNat * xs.length := PyProof.Rows.lm_len_rep_flat ..
  have k1 : k ≤ 1000000 := by
    have a : 1 * k ≤ ((xs.length : Nat) : Int) * k := Int.mul_le_mul_of_nonneg_right (by omega) (by omega)
    omega
  have m := tuple_mulW l its.toArray n dd sl k t (by rw [decide_eq_false (by omega), decide_eq_false (by omega)]; rfl) (by rw [hi, Bool.false_or]; exact beq_eq_false_iff_ne.mpr (by omega)) (by rw [hi, Bool.or_false]; exact decide_eq_false (by omega))
    (by rw [e0]; omega) (by unfold Builtin.Tuple.tupleTooMany; rw [sizeLine_eq, e0]; exact decide_eq_false (by omega)) (by rw [size_rep, List.size_toArray, fl, sizeLine_eq]; omega)
  refine wpAny_binaryOp_repeat_ref (T := "tuple") (U := "int") (by decide) ⟨_, ho, rfl⟩ (fun s' => typeIs_int s' k t) noFill_tuple_mul PySem.F.fills_int_mul PySem.F.slot_int_rmul repeat_tuple PySem.F.slot_int_index.lookup
    (call_meets PySem.F.slot_int_rmul (typeIs_int s k t) PySem.F.entry_int_rmul (PySem.F.args_int_rmul_2 _ _) (int_rmul_tuple k t l its.toArray n dd sl)
      ⟨ho, rfl, ⟨_, ho, rfl⟩, call_meets PySem.F.slot_tuple_mul ⟨_, ho, rfl⟩ PySem.F.entry_tuple_mul (PySem.F.args_tuple_mul_2 _ _) m ⟨ho, ?_⟩⟩)
  rw [size_rep]
  refine ⟨.ref s.heap.objs.size, _, I.laid (t' := s.toks) (o := .tup (List.replicate k.toNat xs).flatten) (fun b ob q => Heap.get?_push_of_some _ q) (Nat.le_refl _) ?_, rfl, q _ (I.hok.fresh (Nat.le_refl _))⟩
  exact ⟨by rw [fx, sizeLine_eq]; omega, _, r.rep k.toNat, IsTup.new _ _⟩
theorem plain_get {h : Heap} {a : Addr} {items : Array Value} (p : PlainL h a items) : ∃ o n, h.get? a = some o ∧ o.cls = .type "list" ∧ o.dict = none ∧ o.data = .seq items n := p
end
/-! ### on data -/
def addD : D → D → Option R
  | .int i, .int j => some (.v (.int (i + j)))
  | .str a, .str b => if a.length + b.length ≤ sizeLine then some (.v (.str (a ++ b))) else none
  | .list a, .list b => if a.length + b.length ≤ sizeLine then some (.n (.list (a ++ b))) else none
  | .tuple a, .tuple b => if a.length + b.length ≤ sizeLine then some (.v (.tuple (a ++ b))) else none
  | _, _ => none
def subD : D → D → Option R
  | .int i, .int j => some (.v (.int (i - j)))
  | _, _ => none
def mulD : D → D → Option R
  | .int i, .int j => if (-(2 ^ 64) < i ∧ i < 2 ^ 64) ∨ (-(2 ^ 64) < j ∧ j < 2 ^ 64) then some (.v (.int (i * j))) else none
  | .list a, .int k => if -(2 ^ 63) ≤ k ∧ k < 2 ^ 63 ∧ a.length * k.toNat ≤ sizeLine then some (.n (.list (List.replicate k.toNat a).flatten)) else none
  | .tuple a, .int k => if 1 ≤ a.length ∧ 2 ≤ k ∧ k.toNat * a.length ≤ 1000000 then some (.v (.tuple (List.replicate k.toNat a).flatten)) else none
  | _, _ => none
def divD : D → D → Option R
  | .int i, .int j => if 0 < j ∧ j < 1073741824 then some (.v (.int (i / j))) else none
  | _, _ => none
def modD : D → D → Option R
  | .int i, .int j => if 0 < j then some (.v (.int (i % j))) else none
  | _, _ => none
def powD : D → D → Option R
  | .int i, .int j => if 0 ≤ j ∧ j ≤ 1000000 ∧ i.natAbs < 2 ^ 64 then some (.v (.int (i ^ j.toNat))) else none
  | _, _ => none
def negD : D → Option R
  | .int i => some (.v (.int (-i)))
  | _ => none
def ltD : D → D → Option R
  | .int i, .int j => some (.v (.bool (decide (i < j))))
  | _, _ => none
def leD : D → D → Option R
  | .int i, .int j => some (.v (.bool (decide (i ≤ j))))
  | _, _ => none
def gtD : D → D → Option R
  | .int i, .int j => some (.v (.bool (decide (j < i))))
  | _, _ => none
def geD : D → D → Option R
  | .int i, .int j => some (.v (.bool (decide (j ≤ i))))
  | _, _ => none
/-- two things compared -/
def eqD : D → D → Option Bool
  | .int i, .int j => some (decide (i = j))
  | .str i, .str j => some (decide (i = j))
  | .bool i, .bool j => some (decide (i = j))
  | a, b => if SeqAt.shaped a && SeqAt.shaped b then some (PyData.eqv a b) else none
def eqR (a b : D) : Option R := (eqD a b).map fun c => .v (.bool c)
def neR (a b : D) : Option R := (eqD a b).map fun c => .v (.bool !c)
/-- is None, is True: b is None, or a truth -/
def isD : D → D → Option Bool
  | .none, .none => some true
  | _, .none => some false
  | .bool a, .bool b => some (decide (a = b))
  | _, _ => none
def isR (a b : D) : Option R := (isD a b).map fun c => .v (.bool c)
def isntR (a b : D) : Option R := (isD a b).map fun c => .v (.bool !c)
def flatD : D → Bool
  | .none => true
  | .bool _ => true
  | .int _ => true
  | .str _ => true
  | _ => false
def inSeq (x : D) (ds : List D) : Option Bool := if flatD x && ds.all flatD then some (ds.any fun y => PyData.eqv y x) else none
def inQ : D → D → Option Bool
  | x, .tuple ds => inSeq x ds
  | x, .list ds => if flatD x && ds.all flatD then some (ds.any fun y => PyData.eqv y x) else if SeqAt.shaped x && SeqAt.shaped (.list ds) then some (ds.any fun y => PyData.eqv y x) else none
  | .str a, .str b => some (!(Builtin.Str.occurrences b a 0 b.length 1).isEmpty)
  | _, _ => none
def inD : D → D → Option Bool
  | x, .dict es => if keyB x = true ∧ nx es = true then some (dFind x es).isSome else none
  | x, y => inQ x y
def inR (a b : D) : Option R := (inD a b).map fun c => .v (.bool c)
def ninR (a b : D) : Option R := (inD a b).map fun c => .v (.bool !c)
def ixQ : D → D → Option R
  | .list ds, .int i => (atI ds i).map .v
  | .tuple ds, .int i => (atI ds i).map .v
  | .str z, .int i => if z.length ≤ sizeLine then (atI z.cps.toList i).map fun c => .v (.str ⟨#[c]⟩) else none
  | _, _ => none
def ixD : D → D → Option R
  | .dict es, k => if keyB k = true ∧ nx es = true then (dFind k es).map .v else none
  | x, y => ixQ x y
def cutD (ds : List D) (lo hi : Option Int) : List D := (ds.drop (HT.sIx ds.length 0 lo)).take (HT.sIx ds.length ds.length hi - HT.sIx ds.length 0 lo)
def slD : D → Option Int → Option Int → Option R
  | .list ds, lo, hi => some (.n (.list (cutD ds lo hi)))
  | .tuple ds, lo, hi => some (.v (.tuple (cutD ds lo hi)))
  | .str z, lo, hi => if z.length ≤ sizeLine then some (.v (.str (cutS z lo hi))) else none
  | _, _, _ => none
/-! ### links -/
section
variable {K : PySem.W.Frag}
theorem gr_v {F H : Hp} (s : Ex F H) {Q : VK} {v : V} {r : R} (q : ∀ v F' H', Grow F H F' H' → RepR K F' H' H [] v r → Q v H') (h : RepR K F H H [] v r) : Q v H := q v F H (Grow.refl s) h
theorem gr_l {F H : Hp} (s : Ex F H) {Q : VK} {ds : List D} {xs : List V} (q : ∀ v F' H', Grow F H F' H' → RepR K F' H' H [] v (.n (.list ds)) → Q v H') (h : RepA K F xs ds) : ∀ p, H p = none → Q (.ref p) (upd H p (.lst xs)) := fun p hp =>
  q _ F _ (Grow.loose s hp) ⟨p, _, rfl, hp, fresh_back s hp, upd_same, h⟩
theorem gr_t {F H : Hp} (s : Ex F H) {Q : VK} {ds : List D} {xs : List V} (q : ∀ v F' H', Grow F H F' H' → RepR K F' H' H [] v (.v (.tuple ds)) → Q v H') (h : RepA K F xs ds) : ∀ p, H p = none → Q (.ref p) (upd H p (.tup xs)) := fun p hp =>
  let g := Grow.new (o := .tup xs) s hp
  q _ _ _ g (.tup (st_of upd_same) (h.mono g.ff))
/-- a value's data is told by what it is -/
theorem View.flat {F H : Hp} {v : V} {d : D} (h : View K F H v d) (f : flatD d = true) : Rep K F v d := by
  rcases h with h | ⟨a, o, rfl, _, ho⟩
  · exact h
  · rcases ho.any with ⟨_, _, _, rfl, _⟩ | ⟨_, _, _, _, rfl, _⟩ <;> cases f
theorem flat_V {F : Hp} {v : V} {d : D} (h : Rep K F v d) (f : flatD d = true) : flatV v = true := by
  cases h <;> first | rfl | exact absurd f Bool.false_ne_true
theorem flat_all {F : Hp} : ∀ {vs : List V} {ds : List D}, RepA K F vs ds → ds.all flatD = true → vs.all flatV = true
  | _, _, .nil, _ => rfl
  | _, _, .cons h r, f => by
    rw [List.all_cons, Bool.and_eq_true] at f
    rw [List.all_cons, flat_V h f.1, flat_all r f.2]
    rfl
theorem eqV_eqv {F : Hp} {x y : V} {d e : D} (h : Rep K F x d) (g : Rep K F y e) (f : flatD d = true) (f' : flatD e = true) : eqV x y = PyData.eqv d e := by
  cases h <;> first | exact absurd f Bool.false_ne_true | (cases g <;> first | exact absurd f' Bool.false_ne_true | rfl | simp [eqV, PyData.eqv])
theorem inV_any {F : Hp} {x : V} {d : D} (h : Rep K F x d) (f : flatD d = true) : ∀ {vs : List V} {ds : List D}, RepA K F vs ds → ds.all flatD = true → inV x vs = ds.any fun y => PyData.eqv y d
  | _, _, .nil, _ => rfl
  | _, _, .cons (v := v) (vs := vs) (d := e) (ds := ds) h' r, f' => by
    rw [List.all_cons, Bool.and_eq_true] at f'
    have ih := inV_any h f r f'.2
    unfold inV at ih ⊢
    rw [List.any_cons, List.any_cons, ih, eqV_eqv h' h f'.1 f]
def rAddS (K : PySem.W.Frag) : R2 := fun x y H Q => rI0 (fun i j => .int (i + j)) x y H Q ∨ ((∃ i j, x = .str i ∧ y = .str j ∧ i.length + j.length ≤ sizeLine ∧ Q (.str (i ++ j)) H) ∨ (rCatS K x y H Q ∨ rCatU K x y H Q))
theorem l_add : OpL K (rAddS K) addD := by
  intro F H x y dx dy res s hx hy ho Q q
  cases dx <;> cases dy <;> first | (simp [addD] at ho; done) | skip
  case int.int i j =>
    cases ho
    rw [hx.int, hy.int]
    exact .inl ⟨i, j, rfl, rfl, gr_v s q (.int _)⟩
  case str.str i j =>
    simp only [addD] at ho
    split at ho
    · rename_i hl
      cases ho
      rw [hx.str, hy.str]
      exact .inr (.inl ⟨i, j, rfl, rfl, hl, gr_v s q (.str _)⟩)
    · cases ho
  case list.list a b =>
    simp only [addD] at ho
    split at ho
    · rename_i hl
      cases ho
      obtain ⟨p, xs, rfl, h1, r1⟩ := hx.lst s
      obtain ⟨p2, ys, rfl, h2, r2⟩ := hy.lst s
      exact .inr (.inr (.inl ⟨p, p2, xs, ys, rfl, rfl, h1, h2, by rw [r1.length, r2.length]; exact hl, gr_l s q (r1.append r2)⟩))
    · cases ho
  case tuple.tuple a b =>
    simp only [addD] at ho
    split at ho
    · rename_i hl
      cases ho
      obtain ⟨p, xs, rfl, h1, r1⟩ := hx.tup s
      obtain ⟨p2, ys, rfl, h2, r2⟩ := hy.tup s
      refine .inr (.inr (.inr ⟨p, p2, xs, ys, rfl, rfl, h1, h2, by rw [r1.length, r2.length]; exact hl, fun z => ?_, fun _ z => ?_, fun _ _ => gr_t s q (r1.append r2)⟩))
      · subst z
        cases r1
        rw [List.nil_append] at q
        rcases hy with hy | ⟨_, _, _, _, ho⟩
        · exact gr_v s q hy
        · rcases ho.any with ⟨_, _, _, e, _⟩ | ⟨_, _, _, _, e, _⟩ <;> cases e
      · subst z
        cases r2
        rw [List.append_nil] at q
        rcases hx with hx | ⟨_, _, _, _, ho⟩
        · exact gr_v s q hx
        · rcases ho.any with ⟨_, _, _, e, _⟩ | ⟨_, _, _, _, e, _⟩ <;> cases e
    · cases ho
theorem l_sub : OpL K (rI0 fun i j => .int (i - j)) subD := by
  intro F H x y dx dy res s hx hy ho Q q
  cases dx <;> cases dy <;> first | (simp [subD] at ho; done) | skip
  cases ho
  rw [hx.int, hy.int]
  exact ⟨_, _, rfl, rfl, gr_v s q (.int _)⟩
def rMulS (K : PySem.W.Frag) : R2 := fun x y H Q => rI CMul (fun i j => .int (i * j)) x y H Q ∨ rRepS K x y H Q ∨ rRepU K x y H Q
theorem l_mul : OpL K (rMulS K) mulD := by
  intro F H x y dx dy res s hx hy ho Q q
  cases dx <;> cases dy <;> first | (simp [mulD] at ho; done) | skip
  case int.int i j =>
    simp only [mulD] at ho
    split at ho
    · rename_i hl
      cases ho
      rw [hx.int, hy.int]
      exact .inl ⟨i, j, rfl, rfl, hl, gr_v s q (.int _)⟩
    · cases ho
  case list.int a k =>
    simp only [mulD] at ho
    split at ho
    · rename_i hl
      cases ho
      obtain ⟨p, xs, rfl, h1, r1⟩ := hx.lst s
      rw [hy.int]
      exact .inr (.inl ⟨p, k, xs, rfl, rfl, h1, hl.1, hl.2.1, by rw [r1.length]; exact hl.2.2, gr_l s q (r1.rep k.toNat)⟩)
    · cases ho
  case tuple.int a k =>
    simp only [mulD] at ho
    split at ho
    · rename_i hl
      cases ho
      obtain ⟨p, xs, rfl, h1, r1⟩ := hx.tup s
      rw [hy.int]
      exact .inr (.inr ⟨p, k, xs, rfl, rfl, h1, by rw [r1.length]; exact hl.1, hl.2.1, by rw [r1.length]; exact hl.2.2, gr_t s q (r1.rep k.toNat)⟩)
    · cases ho
theorem l_div : OpL K (rI CDiv fun i j => .int (i / j)) divD := by
  intro F H x y dx dy res s hx hy ho Q q
  cases dx <;> cases dy <;> first | (simp [divD] at ho; done) | skip
  simp only [divD] at ho
  split at ho
  · rename_i hl
    cases ho
    rw [hx.int, hy.int]
    exact ⟨_, _, rfl, rfl, hl, gr_v s q (.int _)⟩
  · cases ho
theorem l_mod : OpL K (rI (fun _ j => 0 < j) fun i j => .int (i % j)) modD := by
  intro F H x y dx dy res s hx hy ho Q q
  cases dx <;> cases dy <;> first | (simp [modD] at ho; done) | skip
  simp only [modD] at ho
  split at ho
  · rename_i hl
    cases ho
    rw [hx.int, hy.int]
    exact ⟨_, _, rfl, rfl, hl, gr_v s q (.int _)⟩
  · cases ho
theorem l_pow : OpL K (rI CPow fun i j => .int (i ^ j.toNat)) powD := by
  intro F H x y dx dy res s hx hy ho Q q
  cases dx <;> cases dy <;> first | (simp [powD] at ho; done) | skip
  simp only [powD] at ho
  split at ho
  · rename_i hl
    cases ho
    rw [hx.int, hy.int]
    exact ⟨_, _, rfl, rfl, hl, gr_v s q (.int _)⟩
  · cases ho
theorem l_neg : UnL K (rU fun i => .int (-i)) negD := by
  intro F H x dx res s hx ho Q q
  cases dx <;> first | (simp [negD] at ho; done) | skip
  cases ho
  rw [hx.int]
  exact ⟨_, rfl, gr_v s q (.int _)⟩
theorem l_lt : OpL K (rI0 fun i j => .bl (decide (i < j))) ltD := by
  intro F H x y dx dy res s hx hy ho Q q
  cases dx <;> cases dy <;> first | (simp [ltD] at ho; done) | skip
  cases ho
  rw [hx.int, hy.int]
  exact ⟨_, _, rfl, rfl, gr_v s q (.bl _)⟩
theorem l_le : OpL K (rI0 fun i j => .bl (decide (i ≤ j))) leD := by
  intro F H x y dx dy res s hx hy ho Q q
  cases dx <;> cases dy <;> first | (simp [leD] at ho; done) | skip
  cases ho
  rw [hx.int, hy.int]
  exact ⟨_, _, rfl, rfl, gr_v s q (.bl _)⟩
theorem l_gt : OpL K (rI0 fun i j => .bl (decide (j < i))) gtD := by
  intro F H x y dx dy res s hx hy ho Q q
  cases dx <;> cases dy <;> first | (simp [gtD] at ho; done) | skip
  cases ho
  rw [hx.int, hy.int]
  exact ⟨_, _, rfl, rfl, gr_v s q (.bl _)⟩
theorem l_ge : OpL K (rI0 fun i j => .bl (decide (j ≤ i))) geD := by
  intro F H x y dx dy res s hx hy ho Q q
  cases dx <;> cases dy <;> first | (simp [geD] at ho; done) | skip
  cases ho
  rw [hx.int, hy.int]
  exact ⟨_, _, rfl, rfl, gr_v s q (.bl _)⟩
/-! ### ==, is, in -/
def rEqS (K : PySem.W.Frag) : R2 := fun x y H Q => rEq x y H Q ∨ rEqD K x y H Q
def rNeS (K : PySem.W.Frag) : R2 := fun x y H Q => rNe x y H Q ∨ rNeD K x y H Q
theorem eqD_gen {F H : Hp} {x y : V} {dx dy : D} {b : Bool} (s : Ex F H) (hx : View K F H x dx) (hy : View K F H y dy) (h : eqD dx dy = some b) :
    (scal x y = true ∧ decide (x = y) = b) ∨ (∃ d e, Dp K H x d ∧ Dp K H y e ∧ SeqAt.shaped d = true ∧ SeqAt.shaped e = true ∧ PyData.eqv d e = b) := by
  have gen : (if SeqAt.shaped dx && SeqAt.shaped dy then some (PyData.eqv dx dy) else none) = some b → (∃ d e, Dp K H x d ∧ Dp K H y e ∧ SeqAt.shaped d = true ∧ SeqAt.shaped e = true ∧ PyData.eqv d e = b) := fun h => by
    split at h
    · rename_i hs
      obtain ⟨h1, h2⟩ := Bool.and_eq_true_iff.mp hs
      exact ⟨dx, dy, hx.dp (SeqAt.canLay_of_shaped h1) s, hy.dp (SeqAt.canLay_of_shaped h2) s, h1, h2, Option.some.inj h⟩
    · cases h
  unfold eqD at h
  split at h
  · rw [hx.int, hy.int]
    left
    cases h
    exact ⟨rfl, by simp⟩
  · rw [hx.str, hy.str]
    left
    cases h
    exact ⟨rfl, by simp⟩
  · rw [hx.bl, hy.bl]
    left
    cases h
    exact ⟨rfl, by simp⟩
  · exact .inr (gen h)
theorem l_eq : OpL K (rEqS K) eqR := by
  intro F H x y dx dy res s hx hy ho Q q
  obtain ⟨b, h1, rfl⟩ := Option.map_eq_some_iff.mp ho
  rcases eqD_gen s hx hy h1 with ⟨z1, z2⟩ | ⟨d, e, z1, z2, z3, z4, z5⟩
  · exact .inl ⟨z1, by rw [z2]; exact gr_v s q (.bl _)⟩
  · exact .inr ⟨d, e, z1, z2, z3, z4, by rw [z5]; exact gr_v s q (.bl _)⟩
theorem l_ne : OpL K (rNeS K) neR := by
  intro F H x y dx dy res s hx hy ho Q q
  obtain ⟨b, h1, rfl⟩ := Option.map_eq_some_iff.mp ho
  rcases eqD_gen s hx hy h1 with ⟨z1, z2⟩ | ⟨d, e, z1, z2, z3, z4, z5⟩
  · exact .inl ⟨z1, by rw [z2]; exact gr_v s q (.bl _)⟩
  · exact .inr ⟨d, e, z1, z2, z3, z4, by rw [z5]; exact gr_v s q (.bl _)⟩
def rIsS : R2 := fun x y H Q => (y = .non ∧ Q (.bl (decide (x = .non))) H) ∨ rIsB x y H Q
def rIsntS : R2 := fun x y H Q => (y = .non ∧ Q (.bl (!decide (x = .non))) H) ∨ rNotB x y H Q
theorem isD_gen {F H : Hp} {x y : V} {dx dy : D} {b : Bool} (hx : View K F H x dx) (hy : View K F H y dy) (h : isD dx dy = some b) : (y = .non ∧ decide (x = .non) = b) ∨ ∃ i j, x = .bl i ∧ y = .bl j ∧ decide (i = j) = b := by
  cases dy with
  | none =>
    left
    refine ⟨hy.non, ?_⟩
    rw [hx.nonI]
    cases dx <;> (simp [isD] at h; simp [h])
  | bool j =>
    cases dx with
    | bool i =>
      right
      exact ⟨i, j, hx.bl, hy.bl, by simpa [isD] using h⟩
    | _ => simp [isD] at h
  | _ => cases dx <;> simp [isD] at h
theorem l_is : OpL K rIsS isR := by
  intro F H x y dx dy res s hx hy ho Q q
  obtain ⟨b, h1, rfl⟩ := Option.map_eq_some_iff.mp ho
  rcases isD_gen hx hy h1 with ⟨z1, z2⟩ | ⟨i, j, z1, z2, z3⟩
  · exact .inl ⟨z1, by rw [z2]; exact gr_v s q (.bl _)⟩
  · exact .inr ⟨i, j, z1, z2, by rw [z3]; exact gr_v s q (.bl _)⟩
theorem l_isnt : OpL K rIsntS isntR := by
  intro F H x y dx dy res s hx hy ho Q q
  obtain ⟨b, h1, rfl⟩ := Option.map_eq_some_iff.mp ho
  rcases isD_gen hx hy h1 with ⟨z1, z2⟩ | ⟨i, j, z1, z2, z3⟩
  · exact .inl ⟨z1, by rw [z2]; exact gr_v s q (.bl _)⟩
  · exact .inr ⟨i, j, z1, z2, by rw [z3]; exact gr_v s q (.bl _)⟩
def rInDct : R2 := fun x y H Q => ∃ a o, y = .ref a ∧ DGet H a x o ∧ Q (.bl o.isSome) H
def rNinDct : R2 := fun x y H Q => ∃ a o, y = .ref a ∧ DGet H a x o ∧ Q (.bl (!o.isSome)) H
def rIxDct : R2 := fun x y H Q => ∃ a v, x = .ref a ∧ DGet H a y (some v) ∧ Q v H
def rIxS (K : PySem.W.Frag) : R2 := fun x y H Q => rIx K x y H Q ∨ rIxDct x y H Q
def rInS (K : PySem.W.Frag) : R2 := fun x y H Q => rIn K false x y H Q ∨ (rInD K x y H Q ∨ ((∃ i j, x = .str i ∧ y = .str j ∧ Q (.bl (!(Builtin.Str.occurrences j i 0 j.length 1).isEmpty)) H) ∨ rInDct x y H Q))
def rNinS (K : PySem.W.Frag) : R2 := fun x y H Q => rIn K true x y H Q ∨ (rNotInD K x y H Q ∨ ((∃ i j, x = .str i ∧ y = .str j ∧ Q (.bl (!(!(Builtin.Str.occurrences j i 0 j.length 1).isEmpty))) H) ∨ rNinDct x y H Q))
theorem dct_get {F H : Hp} {x y : V} {es : List (D × D)} {k : D} (s : Ex F H) (hx : View K F H x (.dict es)) (hy : View K F H y k) (b : keyB k = true) (n : nx es = true) : ∃ a o, x = .ref a ∧ DGet H a y o ∧ match dFind k es with
    | some d => ∃ v, o = some v ∧ Rep K F v d
    | none => o = none := by
  obtain ⟨a, kvs, rfl, h1, h2, _⟩ := hx.dict s n
  obtain ⟨kk, rfl, rfl⟩ := hy.key b
  have h := h2.find (k := kk)
  refine ⟨a, _, rfl, DGet.k h1, ?_⟩
  cases z : dFind (kD kk) es with
  | none => rw [z] at h; exact h
  | some d => rw [z] at h; exact h
theorem inD_gen {F H : Hp} {x y : V} {dx dy : D} {b : Bool} (s : Ex F H) (hx : View K F H x dx) (hy : View K F H y dy) (h : inQ dx dy = some b) :
    (∃ p xs, y = .ref p ∧ (SqL K H p xs ∨ SqT K H p xs) ∧ flatV x = true ∧ xs.all flatV = true ∧ inV x xs = b) ∨ (∃ d ds, Dp K H x d ∧ Dp K H y (.list ds) ∧ SeqAt.shaped d = true ∧ SeqAt.shaped (.list ds) = true ∧ (ds.any fun z => PyData.eqv z d) = b) ∨
      ∃ i j, x = .str i ∧ y = .str j ∧ (!(Builtin.Str.occurrences j i 0 j.length 1).isEmpty) = b := by
  cases dy with
  | tuple ds =>
    left
    have h : inSeq dx ds = some b := by cases dx <;> exact h
    unfold inSeq at h
    split at h
    · rename_i hf
      obtain ⟨f1, f2⟩ := Bool.and_eq_true_iff.mp hf
      obtain ⟨p, xs, rfl, h1, r1⟩ := hy.tup s
      have hx' := hx.flat f1
      exact ⟨p, xs, rfl, .inr h1, flat_V hx' f1, flat_all r1 f2, by rw [inV_any hx' f1 r1 f2]; exact Option.some.inj h⟩
    · cases h
  | list ds =>
    have h : (if flatD dx && ds.all flatD then some (ds.any fun y => PyData.eqv y dx) else if SeqAt.shaped dx && SeqAt.shaped (.list ds) then some (ds.any fun y => PyData.eqv y dx) else none) = some b := by cases dx <;> exact h
    split at h
    · rename_i hf
      left
      obtain ⟨f1, f2⟩ := Bool.and_eq_true_iff.mp hf
      obtain ⟨p, xs, rfl, h1, r1⟩ := hy.lst s
      have hx' := hx.flat f1
      exact ⟨p, xs, rfl, .inl h1, flat_V hx' f1, flat_all r1 f2, by rw [inV_any hx' f1 r1 f2]; exact Option.some.inj h⟩
    · split at h
      · rename_i hs
        right
        left
        obtain ⟨f1, f2⟩ := Bool.and_eq_true_iff.mp hs
        exact ⟨dx, ds, hx.dp (SeqAt.canLay_of_shaped f1) s, hy.dp (SeqAt.canLay_of_shaped f2) s, f1, f2, Option.some.inj h⟩
      · cases h
  | str j =>
    cases dx with
    | str i => exact .inr (.inr ⟨i, j, hx.str, hy.str, Option.some.inj h⟩)
    | _ => cases h
  | _ => cases dx <;> cases h
theorem l_in : OpL K (rInS K) inR := by
  intro F H x y dx dy res s hx hy ho Q q
  obtain ⟨b, h1, rfl⟩ := Option.map_eq_some_iff.mp ho
  by_cases hd : ∃ es, dy = .dict es
  · obtain ⟨es, rfl⟩ := hd
    simp only [inD] at h1
    split at h1
    · rename_i hk
      obtain ⟨a, o, e1, e2, e3⟩ := dct_get s hy hx hk.1 hk.2
      refine .inr (.inr (.inr ⟨a, o, e1, e2, ?_⟩))
      have e4 : o.isSome = b := by
        cases z : dFind dx es with
        | none => rw [z] at e3 h1; rw [e3]; exact Option.some.inj h1
        | some d => rw [z] at e3 h1; obtain ⟨v, e5, _⟩ := e3; rw [e5]; exact Option.some.inj h1
      rw [e4]
      exact gr_v s q (.bl _)
    · cases h1
  have h1 : inQ dx dy = some b := by
    cases dy <;> first | exact h1 | exact (hd ⟨_, rfl⟩).elim
  rcases inD_gen s hx hy h1 with ⟨p, xs, z1, z2, z3, z4, z5⟩ | ⟨d, ds, z1, z2, z3, z4, z5⟩ | ⟨i, j, z1, z2, z3⟩
  · exact .inl ⟨p, xs, z1, z2, z3, z4, by simp only [Bool.false_eq_true, if_false]; rw [z5]; exact gr_v s q (.bl _)⟩
  · exact .inr (.inl ⟨d, ds, z1, z2, z3, z4, by rw [z5]; exact gr_v s q (.bl _)⟩)
  · exact .inr (.inr (.inl ⟨i, j, z1, z2, by rw [z3]; exact gr_v s q (.bl _)⟩))
theorem l_nin : OpL K (rNinS K) ninR := by
  intro F H x y dx dy res s hx hy ho Q q
  obtain ⟨b, h1, rfl⟩ := Option.map_eq_some_iff.mp ho
  by_cases hd : ∃ es, dy = .dict es
  · obtain ⟨es, rfl⟩ := hd
    simp only [inD] at h1
    split at h1
    · rename_i hk
      obtain ⟨a, o, e1, e2, e3⟩ := dct_get s hy hx hk.1 hk.2
      refine .inr (.inr (.inr ⟨a, o, e1, e2, ?_⟩))
      have e4 : o.isSome = b := by
        cases z : dFind dx es with
        | none => rw [z] at e3 h1; rw [e3]; exact Option.some.inj h1
        | some d => rw [z] at e3 h1; obtain ⟨v, e5, _⟩ := e3; rw [e5]; exact Option.some.inj h1
      rw [e4]
      exact gr_v s q (.bl _)
    · cases h1
  have h1 : inQ dx dy = some b := by
    cases dy <;> first | exact h1 | exact (hd ⟨_, rfl⟩).elim
  rcases inD_gen s hx hy h1 with ⟨p, xs, z1, z2, z3, z4, z5⟩ | ⟨d, ds, z1, z2, z3, z4, z5⟩ | ⟨i, j, z1, z2, z3⟩
  · exact .inl ⟨p, xs, z1, z2, z3, z4, by simp only [if_true]; rw [z5]; exact gr_v s q (.bl _)⟩
  · exact .inr (.inl ⟨d, ds, z1, z2, z3, z4, by rw [z5]; exact gr_v s q (.bl _)⟩)
  · exact .inr (.inr (.inl ⟨i, j, z1, z2, by rw [z3]; exact gr_v s q (.bl _)⟩))
/-! ### items, slices -/
theorem atI_rep {F : Hp} {vs : List V} {ds : List D} (r : RepA K F vs ds) {i : Int} {d : D} (h : atI ds i = some d) : ∃ v, atI vs i = some v ∧ Rep K F v d := by
  unfold atI at h ⊢
  rw [r.length]
  cases z : ixN ds.length i with
  | none => rw [z] at h; cases h
  | some j =>
    rw [z] at h
    exact r.get (show ds[j]? = some d from h)
theorem l_ixQ : OpL K (rIx K) ixQ := by
  intro F H x y dx dy res s hx hy ho Q q
  cases dx <;> cases dy <;> first | (simp [ixQ] at ho; done) | skip
  case list.int ds i =>
    obtain ⟨d, h1, rfl⟩ := Option.map_eq_some_iff.mp ho
    obtain ⟨p, xs, rfl, h2, r2⟩ := hx.lst s
    obtain ⟨v, h3, h4⟩ := atI_rep r2 h1
    rw [hy.int]
    exact .inl ⟨p, xs, i, v, rfl, rfl, h2, h3, gr_v s q h4⟩
  case tuple.int ds i =>
    obtain ⟨d, h1, rfl⟩ := Option.map_eq_some_iff.mp ho
    obtain ⟨p, xs, rfl, h2, r2⟩ := hx.tup s
    obtain ⟨v, h3, h4⟩ := atI_rep r2 h1
    rw [hy.int]
    exact .inr (.inl ⟨p, xs, i, v, rfl, rfl, h2, h3, gr_v s q h4⟩)
  case str.int z i =>
    simp only [ixQ] at ho
    split at ho
    · rename_i hl
      obtain ⟨c, h1, rfl⟩ := Option.map_eq_some_iff.mp ho
      rw [hx.str, hy.int]
      exact .inr (.inr ⟨z, i, c, rfl, rfl, hl, h1, gr_v s q (.str _)⟩)
    · cases ho
theorem l_ix : OpL K (rIxS K) ixD := by
  intro F H x y dx dy res s hx hy ho Q q
  by_cases hd : ∃ es, dx = .dict es
  · obtain ⟨es, rfl⟩ := hd
    simp only [ixD] at ho
    split at ho
    · rename_i hk
      obtain ⟨d, h1, rfl⟩ := Option.map_eq_some_iff.mp ho
      obtain ⟨a, o, e1, e2, e3⟩ := dct_get s hx hy hk.1 hk.2
      rw [h1] at e3
      obtain ⟨v, rfl, e5⟩ := e3
      exact .inr ⟨a, v, e1, e2, gr_v s q e5⟩
    · cases ho
  have h1 : ixQ dx dy = some res := by
    cases dx <;> first | exact ho | exact (hd ⟨_, rfl⟩).elim
  exact .inl (l_ixQ F H x y dx dy res s hx hy h1 Q q)
def rSlS' (K : PySem.W.Frag) : V → Option Int → Option Int → Hp → VK → Prop := fun x lo hi H Q => rSlL K x lo hi H Q ∨ (rSlA K x lo hi H Q ∨ rSlS x lo hi H Q)
theorem cut_rep {F : Hp} {vs : List V} {ds : List D} (r : RepA K F vs ds) (lo hi : Option Int) : RepA K F (cutV vs lo hi) (cutD ds lo hi) := by
  unfold cutV cutD
  rw [r.length]
  exact (r.drop _).take _
theorem l_sl : SlL K (rSlS' K) slD := by
  intro F H x dx lo hi res s hx ho Q q
  cases dx <;> first | (simp [slD] at ho; done) | skip
  case list ds =>
    cases ho
    obtain ⟨p, xs, rfl, h2, r2⟩ := hx.lst s
    exact .inl ⟨p, xs, rfl, h2, gr_l s q (cut_rep r2 lo hi)⟩
  case tuple ds =>
    cases ho
    have hR : Rep K F x (.tuple ds) := by
      rcases hx with hx | ⟨_, _, _, _, ho⟩
      · exact hx
      · rcases ho.any with ⟨_, _, _, e, _⟩ | ⟨_, _, _, _, e, _⟩ <;> cases e
    obtain ⟨p, xs, rfl, h2, r2⟩ := hx.tup s
    refine .inr (.inl ⟨p, xs, rfl, h2, fun hw => ?_, fun _ => gr_t s q (cut_rep r2 lo hi)⟩)
    rw [r2.length] at hw
    have e : cutD ds lo hi = ds := by
      unfold cutD
      rw [hw.1, hw.2, List.drop_zero, Nat.sub_zero, List.take_length]
    rw [e] at q
    exact gr_v s q hR
  case str z =>
    simp only [slD] at ho
    split at ho
    · rename_i hl
      cases ho
      rw [hx.str]
      exact .inr (.inr ⟨z, rfl, hl, gr_v s q (.str _)⟩)
    · cases ho
end
end Sl

set_option Elab.async false
set_option linter.all false
set_option maxRecDepth 100000
set_option maxHeartbeats 2000000
set_option autoImplicit false
/-! Operators in a context; built-in functions. -/
namespace Sl
open PySem PySem.Spec PyProof.Rows L2 Evl
section
variable {X : Cx}
theorem op_catS : OpR X (binaryOp .Add) (rCatS X.K) := by
  intro pins s σ H x y v u Q I rx ry h
  obtain ⟨l, b, xs, zs, rfl, rfl, hH, hB, hz, q⟩ := h
  cases rx
  cases ry
  obtain ⟨its, r1, p1, _⟩ := I.list hH
  obtain ⟨its2, r2, p2, _⟩ := I.list hB
  obtain ⟨⟨cls, dd, data, sl⟩, ho, hc, n, hd⟩ := id p1.isList
  obtain ⟨⟨cls2, dd2, data2, sl2⟩, ho2, hc2, n2, hd2⟩ := id p2.isList
  simp only at hc hd hc2 hd2
  subst hc hd hc2 hd2
  have e : its.toArray ++ its2.toArray = (its ++ its2).toArray := by simp
  have l1 := r1.length
  have l2 := r2.length
  refine concat_meets ⟨_, ho, rfl⟩ ⟨_, ho2, rfl⟩ noFill_list_add seq_list_add PySem.F.slot_list_add PySem.F.entry_list_add (PySem.F.args_list_add_2 _ _) (list_addW l b its.toArray its2.toArray n n2 dd dd2 sl sl2 (by simp only [List.size_toArray]; omega)) ⟨ho, ho2, ?_⟩
  rw [e]
  exact ⟨.ref _, _, I.lnew (t' := s.toks) (r1.append r2) (by rw [List.length_append]; omega), rfl, q _ I.fresh⟩
theorem op_repS : OpR X (binaryOp .Mult) (rRepS X.K) := by
  intro pins s σ H x y v u Q I rx ry h
  obtain ⟨l, k, xs, rfl, rfl, hH, h1, h2, hz, q⟩ := h
  cases rx
  obtain ⟨t, rfl⟩ := ry
  obtain ⟨its, r1, p1, _⟩ := I.list hH
  obtain ⟨⟨cls, dd, data, sl⟩, ho, hc, n, hd⟩ := id p1.isList
  simp only at hc hd
  subst hc hd
  have hl := r1.length
  have hlen : its.toArray.size * k.toNat ≤ sizeLine := by rw [List.size_toArray, ← hl]; exact hz
  have hlen' : its.toArray.size * k.toNat ≤ 16777216 := by rw [sizeLine_eq] at hlen; exact hlen
  refine wpAny_binaryOp_repeat_ref (T := "list") (U := "int") (by decide) ⟨_, ho, rfl⟩ (fun s' => typeIs_int s' k t) noFill_list_mul F.fills_int_mul F.slot_int_rmul repeat_list F.slot_int_index.lookup
    (call_meets F.slot_int_rmul (typeIs_int s k t) F.entry_int_rmul (F.args_int_rmul_2 _ _) (lm_int_rmul_list_any k t l its.toArray n dd sl)
      ⟨ho, rfl, ⟨_, ho, rfl⟩, call_meets F.slot_list_mul ⟨_, ho, rfl⟩ F.entry_list_mul (F.args_list_mul_2 _ _)
        (lm_list_mul_any l its.toArray n dd sl k t (by simp [Builtin.List.listFitsIndex]; omega) (by omega) (by rw [notLongL hlen]; exact Bool.false_ne_true))
        ⟨ho, ?_⟩⟩)
  have e : List.foldl (fun x1 x2 => x1 ++ x2) #[] (List.replicate (if its.toArray.isEmpty = true then 0 else k.toNat) its.toArray) = (List.replicate k.toNat its).flatten.toArray := by
    rw [listMul_foldl_if]
  rw [e]
  exact ⟨.ref _, _, I.lnew (t' := s.toks) (r1.rep k.toNat) (by rw [PyProof.Rows.lm_len_rep_flat, Nat.mul_comm]; exact hz), rfl, q _ I.fresh⟩
theorem op_addS : OpR X (binaryOp .Add) (rAddS X.K) := op_add.or (op_add_str.or (op_catS.or op_catU))
theorem op_mulS : OpR X (binaryOp .Mult) (rMulS X.K) := op_mul.or (op_repS.or op_repU)
theorem op_eqS (hu : X.A.units + 64 < cLine) : OpR X (compareOp .Eq) (rEqS X.K) := op_eq.or (op_eqD hu)
theorem op_neS (hu : X.A.units + 64 < cLine) : OpR X (compareOp .NotEq) (rNeS X.K) := op_ne.or (op_neD hu)
theorem op_isS : OpR X (compareOp .Is) rIsS := op_isN.or op_isBl
theorem op_isntS : OpR X (compareOp .IsNot) rIsntS := op_notN.or op_notBl
theorem op_in_dct (hu : X.A.units + 1 < cLine) : OpR X (compareOp .In) rInDct := by
  intro pins s σ H x y v u Q I rx ry h
  obtain ⟨a, o, rfl, g, q⟩ := h
  cases (show u = Value.ref a from ry)
  exact d_in hu I g rx fun s' I' => ⟨.bl o.isSome, H, I', rfl, q⟩
theorem op_nin_dct (hu : X.A.units + 1 < cLine) : OpR X (compareOp .NotIn) rNinDct := by
  intro pins s σ H x y v u Q I rx ry h
  obtain ⟨a, o, rfl, g, q⟩ := h
  cases (show u = Value.ref a from ry)
  exact d_notIn hu I g rx fun s' I' => ⟨.bl (!o.isSome), H, I', rfl, q⟩
theorem ix_dct (hu : X.A.units + 1 < cLine) : IxR X rIxDct := by
  intro value slice pins s σ H x y v u Q I rx ry h hs
  obtain ⟨a, z, rfl, g, q⟩ := h
  cases (show v = Value.ref a from rx)
  exact tail_any (dict_typeIs I g) PySem.F.slot_dict_getitem.lookup (d_getItem hu I g ry fun w' s' I' rw' => ⟨z, H, I', rw', q⟩) hs
theorem ix_all (hu : X.A.units + 1 < cLine) : IxR X (rIxS X.K) := ix_seq.or (ix_dct hu)
theorem op_inS (hu : X.A.units + 65 < cLine) : OpR X (compareOp .In) (rInS X.K) := op_in_seq.or ((op_inD hu).or (op_in_str.or (op_in_dct (by omega))))
theorem op_ninS (hu : X.A.units + 65 < cLine) : OpR X (compareOp .NotIn) (rNinS X.K) := op_notIn_seq.or ((op_notInD hu).or (op_notIn_str.or (op_nin_dct (by omega))))
theorem sl_all : SlR X (rSlS' X.K) := sl_list.or (sl_tupA.or sl_str)
end
/-! ### the same, over a family -/
section
variable {ι : Type} {K : PySem.W.Frag} {X : ι → Cx} {a b : Expr} {f g : M R} {pos : Pos}
/-- there is room -/
def HU {ι : Type} (X : ι → Cx) : Prop := ∀ i, (X i).A.units + 65 < cLine
theorem so_add (ha : SoE K X a f) (hb : SoE K X b g) (hK : ∀ i, (X i).K = K := by intro _; rfl) : SoE K X (.BinOp a .Add b pos) (bin addD f g) := so_op (fun i => by have := op_addS (X := X i); rw [hK i] at this; exact this) l_add ha hb
theorem so_sub (ha : SoE K X a f) (hb : SoE K X b g) : SoE K X (.BinOp a .Sub b pos) (bin subD f g) := so_op (fun i => op_sub) l_sub ha hb
theorem so_mul (ha : SoE K X a f) (hb : SoE K X b g) (hK : ∀ i, (X i).K = K := by intro _; rfl) : SoE K X (.BinOp a .Mult b pos) (bin mulD f g) := so_op (fun i => by have := op_mulS (X := X i); rw [hK i] at this; exact this) l_mul ha hb
theorem so_div (ha : SoE K X a f) (hb : SoE K X b g) : SoE K X (.BinOp a .FloorDiv b pos) (bin divD f g) := so_op (fun i => op_fdiv) l_div ha hb
theorem so_mod (ha : SoE K X a f) (hb : SoE K X b g) : SoE K X (.BinOp a .Mod b pos) (bin modD f g) := so_op (fun i => op_mod) l_mod ha hb
theorem so_pow (ha : SoE K X a f) (hb : SoE K X b g) : SoE K X (.BinOp a .Pow b pos) (bin powD f g) := so_op (fun i => op_pow) l_pow ha hb
theorem so_neg (ha : SoE K X a f) : SoE K X (.UnaryOp .USub a pos) (una negD f) := so_un (fun i => un_neg) l_neg ha
theorem so_lt (ha : SoE K X a f) (hb : SoE K X b g) : SoE K X (.Compare a [.Lt] [b] pos) (bin ltD f g) := so_cmp (fun i => op_lt) l_lt ha hb (nomark _)
theorem so_le (ha : SoE K X a f) (hb : SoE K X b g) : SoE K X (.Compare a [.LtE] [b] pos) (bin leD f g) := so_cmp (fun i => op_le) l_le ha hb (nomark _)
theorem so_gt' (ha : SoE K X a f) (hb : SoE K X b g) : SoE K X (.Compare a [.Gt] [b] pos) (bin gtD f g) := so_cmp (fun i => op_gt) l_gt ha hb (nomark _)
theorem so_ge (ha : SoE K X a f) (hb : SoE K X b g) : SoE K X (.Compare a [.GtE] [b] pos) (bin geD f g) := so_cmp (fun i => op_ge) l_ge ha hb (nomark _)
theorem so_eq (hu : HU X) (ha : SoE K X a f) (hb : SoE K X b g) (hK : ∀ i, (X i).K = K := by intro _; rfl) : SoE K X (.Compare a [.Eq] [b] pos) (bin eqR f g) := so_cmp (fun i => by have := op_eqS (X := X i) (Nat.lt_of_succ_lt (hu i)); rw [hK i] at this; exact this) l_eq ha hb (nomark _)
theorem so_ne (hu : HU X) (ha : SoE K X a f) (hb : SoE K X b g) (hK : ∀ i, (X i).K = K := by intro _; rfl) : SoE K X (.Compare a [.NotEq] [b] pos) (bin neR f g) := so_cmp (fun i => by have := op_neS (X := X i) (Nat.lt_of_succ_lt (hu i)); rw [hK i] at this; exact this) l_ne ha hb (nomark _)
theorem so_is (ha : SoE K X a f) (hb : SoE K X b g) : SoE K X (.Compare a [.Is] [b] pos) (bin isR f g) := so_cmp (fun i => op_isS) l_is ha hb (nomark _)
theorem so_isnt (ha : SoE K X a f) (hb : SoE K X b g) : SoE K X (.Compare a [.IsNot] [b] pos) (bin isntR f g) := so_cmp (fun i => op_isntS) l_isnt ha hb (nomark _)
theorem so_in (hu : HU X) (ha : SoE K X a f) (hb : SoE K X b g) (hK : ∀ i, (X i).K = K := by intro _; rfl) (hm : behindInMarks .In b = false := by rfl) : SoE K X (.Compare a [.In] [b] pos) (bin inR f g) := so_cmp (fun i => by have := op_inS (X := X i) (hu i); rw [hK i] at this; exact this) l_in ha hb hm
theorem so_nin (hu : HU X) (ha : SoE K X a f) (hb : SoE K X b g) (hK : ∀ i, (X i).K = K := by intro _; rfl) (hm : behindInMarks .NotIn b = false := by rfl) : SoE K X (.Compare a [.NotIn] [b] pos) (bin ninR f g) := so_cmp (fun i => by have := op_ninS (X := X i) (hu i); rw [hK i] at this; exact this) l_nin ha hb hm
theorem st_lt (ha : SoE K X a f) (hb : SoE K X b g) : SoT K X (.Compare a [.Lt] [b] pos) (tst (bin ltD f g)) := so_tcmp (fun i => op_lt) l_lt ha hb (nomark _)
theorem st_le (ha : SoE K X a f) (hb : SoE K X b g) : SoT K X (.Compare a [.LtE] [b] pos) (tst (bin leD f g)) := so_tcmp (fun i => op_le) l_le ha hb (nomark _)
theorem st_gt (ha : SoE K X a f) (hb : SoE K X b g) : SoT K X (.Compare a [.Gt] [b] pos) (tst (bin gtD f g)) := so_tcmp (fun i => op_gt) l_gt ha hb (nomark _)
theorem st_ge (ha : SoE K X a f) (hb : SoE K X b g) : SoT K X (.Compare a [.GtE] [b] pos) (tst (bin geD f g)) := so_tcmp (fun i => op_ge) l_ge ha hb (nomark _)
theorem st_eq (hu : HU X) (ha : SoE K X a f) (hb : SoE K X b g) (hK : ∀ i, (X i).K = K := by intro _; rfl) : SoT K X (.Compare a [.Eq] [b] pos) (tst (bin eqR f g)) := so_tcmp (fun i => by have := op_eqS (X := X i) (Nat.lt_of_succ_lt (hu i)); rw [hK i] at this; exact this) l_eq ha hb (nomark _)
theorem st_ne (hu : HU X) (ha : SoE K X a f) (hb : SoE K X b g) (hK : ∀ i, (X i).K = K := by intro _; rfl) : SoT K X (.Compare a [.NotEq] [b] pos) (tst (bin neR f g)) := so_tcmp (fun i => by have := op_neS (X := X i) (Nat.lt_of_succ_lt (hu i)); rw [hK i] at this; exact this) l_ne ha hb (nomark _)
theorem st_is (ha : SoE K X a f) (hb : SoE K X b g) : SoT K X (.Compare a [.Is] [b] pos) (tst (bin isR f g)) := so_tcmp (fun i => op_isS) l_is ha hb (nomark _)
theorem st_isnt (ha : SoE K X a f) (hb : SoE K X b g) : SoT K X (.Compare a [.IsNot] [b] pos) (tst (bin isntR f g)) := so_tcmp (fun i => op_isntS) l_isnt ha hb (nomark _)
theorem st_in (hu : HU X) (ha : SoE K X a f) (hb : SoE K X b g) (hK : ∀ i, (X i).K = K := by intro _; rfl) (hm : behindInMarks .In b = false := by rfl) : SoT K X (.Compare a [.In] [b] pos) (tst (bin inR f g)) := so_tcmp (fun i => by have := op_inS (X := X i) (hu i); rw [hK i] at this; exact this) l_in ha hb hm
theorem st_nin (hu : HU X) (ha : SoE K X a f) (hb : SoE K X b g) (hK : ∀ i, (X i).K = K := by intro _; rfl) (hm : behindInMarks .NotIn b = false := by rfl) : SoT K X (.Compare a [.NotIn] [b] pos) (tst (bin ninR f g)) := so_tcmp (fun i => by have := op_ninS (X := X i) (hu i); rw [hK i] at this; exact this) l_nin ha hb hm
theorem so_item (hu : HU X) (ha : SoE K X a f) (hb : SoE K X b g) (hK : ∀ i, (X i).K = K := by intro _; rfl) (hs : PlainIx b := by intro _ _; rfl) : SoE K X (.Subscript a b pos) (bin ixD f g) := so_ix (fun i => by have := ix_all (X := X i) (by have := hu i; omega); rw [hK i] at this; exact this) l_ix ha hb hs
theorem so_cut {lo hi : Option Expr} {gl gh : M (Option Int)} {p2 : Pos} (ha : SoE K X a f) (h1 : SoO K X lo gl) (h2 : SoO K X hi gh) (hK : ∀ i, (X i).K = K := by intro _; rfl) : SoE K X (.Subscript a (.Slice lo hi none p2) pos) (slc slD f gl gh) :=
  so_slc (fun i => by have := sl_all (X := X i); rw [hK i] at this; exact this) l_sl ha h1 h2
/-! ### chains of two -/
def chn (o o' : D → D → Option R) (fa fb fc : M R) : M R := fun e => (fa e).bind fun p => (fb p.2).bind fun q => (p.1.get q.2).bind fun x => (q.1.get q.2).bind fun y => (o x y).bind fun r => match r with
  | .v (.bool true) => (fc q.2).bind fun s => (q.1.get s.2).bind fun y' => (s.1.get s.2).bind fun z => (o' y' z).map fun r' => (r', s.2)
  | .v (.bool false) => some (.v (.bool false), q.2)
  | _ => none
end
end Sl

set_option Elab.async false
set_option linter.all false
set_option maxRecDepth 100000
set_option maxHeartbeats 2000000
set_option autoImplicit false
/-! Built-in functions, chains. -/
namespace Sl
open PySem PySem.Spec PyProof.Rows L2 Evl
section
variable {ι : Type} {K : PySem.W.Frag} {X : ι → Cx} {a b c : Expr} {f g h : M R} {pos : Pos}
theorem chn_sem {ta tb tc : TE} {r r' : R2} {o o' : D → D → Option R} (l : OpL K r o) (l' : OpL K r' o') (ha : SemE K ta f) (hb : SemE K tb g) (hc : SemE K tc h) (hs : ∀ x y z, o x y = some z → ∃ b, z = .v (.bool b)) : SemE K (tChain r r' ta tb tc) (chn o o' f g h) := by
  intro F H σ e res e' rel hf Q q
  obtain ⟨⟨r1, e1⟩, h1, hf⟩ := bind_some hf
  obtain ⟨⟨r2, e2⟩, h2, hf⟩ := bind_some hf
  obtain ⟨x, h3, hf⟩ := bind_some hf
  obtain ⟨y, h4, hf⟩ := bind_some hf
  obtain ⟨z, h5, hf⟩ := bind_some hf
  obtain ⟨bb, rfl⟩ := hs x y z h5
  refine ha F H σ e r1 e1 rel h1 _ fun v F1 H1 p1 rv => ?_
  obtain ⟨F1', p1', rv', _⟩ := rv.nf p1 rel
  refine hb F1' H1 σ e1 r2 e2 p1'.rel h2 _ fun w F2 H2 p2 rw1 => ?_
  obtain ⟨F2', p2', rw', f22⟩ := rw1.nf p2 p1'.rel
  have pp := p1'.trans p2'
  have gx' : r1.nf.get e2 = some x := by cases r1 <;> exact h3
  have gy' : r2.nf.get e2 = some y := by cases r2 <;> exact h4
  refine l F2' H2 v w x y _ pp.rel.sub (pp.rel.view (H := H) (rv'.stay (R.nf_still _) p2'.stp.ff) gx') (pp.rel.view (H := H) (rw'.stay (R.nf_still _) (Ex.refl _)) gy') h5 _ fun u F3 H3 gr rr => ?_
  have p3 := pp.trans (gr.pst pp.rel)
  have ru : Rep K F3 u (.bool bb) := rr
  cases ru
  refine ⟨bb, rfl, ?_⟩
  cases bb with
  | false =>
    cases hf
    exact q _ F3 H3 p3 (.bl false)
  | true =>
    obtain ⟨⟨r3, e3⟩, h6, hf⟩ := bind_some hf
    obtain ⟨y', h7, hf⟩ := bind_some hf
    obtain ⟨z, h8, hf⟩ := bind_some hf
    obtain ⟨res', h9, h10⟩ := Option.map_eq_some_iff.mp hf
    cases h10
    refine hc F3 H3 σ e2 r3 e3 p3.rel h6 _ fun w' F4 H4 p4 rw4 => ?_
    have p5 := p3.trans p4
    have gy2 : r2.nf.get e3 = some y' := by cases r2 <;> exact h7
    exact l' F4 H4 w w' y' z _ p5.rel.sub (p5.rel.view (H := H) (rw'.stay (R.nf_still _) (gr.ff.trans p4.stp.ff)) gy2) (p4.rel.view rw4 h8) h9 Q fun u' F5 H5 gr' rr' => q u' F5 H5 (p5.trans (gr'.pst p5.rel)) (rr'.wide p5.stp.dom)
theorem so_chn {op op' : CmpOp} {r r' : R2} {o o' : D → D → Option R} (ho : ∀ i, OpR (X i) (compareOp op) r) (ho' : ∀ i, OpR (X i) (compareOp op') r') (l : OpL K r o) (l' : OpL K r' o') (hs : ∀ x y z, o x y = some z → ∃ b, z = .v (.bool b)) (ha : SoE K X a f) (hb : SoE K X b g) (hc : SoE K X c h)
    (hm : lastMarks [op, op'] [b, c] = false) : SoE K X (.Compare a [op, op'] [b, c] pos) (chn o o' f g h) := by
  obtain ⟨ta, pa, ha⟩ := ha
  obtain ⟨tb, pb, hb⟩ := hb
  obtain ⟨tc, pc, hc⟩ := hc
  exact ⟨_, fun i => pe_chain (ho i) (ho' i) (pa i) (pb i) (pc i) hm, chn_sem l l' ha hb hc hs⟩
theorem st_chn {op op' : CmpOp} {r r' : R2} {o o' : D → D → Option R} (ho : ∀ i, OpR (X i) (compareOp op) r) (ho' : ∀ i, OpR (X i) (compareOp op') r') (l : OpL K r o) (l' : OpL K r' o') (hs : ∀ x y z, o x y = some z → ∃ b, z = .v (.bool b)) (ha : SoE K X a f) (hb : SoE K X b g) (hc : SoE K X c h)
    (hm : lastMarks [op, op'] [b, c] = false) : SoT K X (.Compare a [op, op'] [b, c] pos) (tst (chn o o' f g h)) := by
  obtain ⟨ta, pa, ha⟩ := ha
  obtain ⟨tb, pb, hb⟩ := hb
  obtain ⟨tc, pc, hc⟩ := hc
  refine ⟨_, fun i => pt_chain (ho i) (ho' i) (pa i) (pb i) (pc i) hm, fun F H σ e bb e' rel hf Q q => ?_⟩
  obtain ⟨rr, hf, hg⟩ := tst_get hf
  exact chn_sem l l' ha hb hc hs F H σ e rr e' rel hf _ fun v F' H' p rv => ⟨bb, (p.rel.view rv hg).bl, q F' H' p⟩
theorem bl_lt : ∀ x y z, ltD x y = some z → ∃ b, z = .v (.bool b) := by
  intro x y z hz
  cases x <;> cases y <;> first | (simp [ltD] at hz; done) | (cases hz; exact ⟨_, rfl⟩)
theorem bl_le : ∀ x y z, leD x y = some z → ∃ b, z = .v (.bool b) := by
  intro x y z hz
  cases x <;> cases y <;> first | (simp [leD] at hz; done) | (cases hz; exact ⟨_, rfl⟩)
theorem so_lele (ha : SoE K X a f) (hb : SoE K X b g) (hc : SoE K X c h) (hm : lastMarks [.LtE, .LtE] [b, c] = false := by with_unfolding_all rfl) : SoE K X (.Compare a [.LtE, .LtE] [b, c] pos) (chn leD leD f g h) := so_chn (fun _ => op_le) (fun _ => op_le) l_le l_le bl_le ha hb hc hm
theorem so_lelt (ha : SoE K X a f) (hb : SoE K X b g) (hc : SoE K X c h) (hm : lastMarks [.LtE, .Lt] [b, c] = false := by with_unfolding_all rfl) : SoE K X (.Compare a [.LtE, .Lt] [b, c] pos) (chn leD ltD f g h) := so_chn (fun _ => op_le) (fun _ => op_lt) l_le l_lt bl_le ha hb hc hm
theorem so_ltle (ha : SoE K X a f) (hb : SoE K X b g) (hc : SoE K X c h) (hm : lastMarks [.Lt, .LtE] [b, c] = false := by with_unfolding_all rfl) : SoE K X (.Compare a [.Lt, .LtE] [b, c] pos) (chn ltD leD f g h) := so_chn (fun _ => op_lt) (fun _ => op_le) l_lt l_le bl_lt ha hb hc hm
theorem so_ltlt (ha : SoE K X a f) (hb : SoE K X b g) (hc : SoE K X c h) (hm : lastMarks [.Lt, .Lt] [b, c] = false := by with_unfolding_all rfl) : SoE K X (.Compare a [.Lt, .Lt] [b, c] pos) (chn ltD ltD f g h) := so_chn (fun _ => op_lt) (fun _ => op_lt) l_lt l_lt bl_lt ha hb hc hm
theorem st_lele (ha : SoE K X a f) (hb : SoE K X b g) (hc : SoE K X c h) (hm : lastMarks [.LtE, .LtE] [b, c] = false := by with_unfolding_all rfl) : SoT K X (.Compare a [.LtE, .LtE] [b, c] pos) (tst (chn leD leD f g h)) := st_chn (fun _ => op_le) (fun _ => op_le) l_le l_le bl_le ha hb hc hm
theorem st_lelt (ha : SoE K X a f) (hb : SoE K X b g) (hc : SoE K X c h) (hm : lastMarks [.LtE, .Lt] [b, c] = false := by with_unfolding_all rfl) : SoT K X (.Compare a [.LtE, .Lt] [b, c] pos) (tst (chn leD ltD f g h)) := st_chn (fun _ => op_le) (fun _ => op_lt) l_le l_lt bl_le ha hb hc hm
theorem st_ltle (ha : SoE K X a f) (hb : SoE K X b g) (hc : SoE K X c h) (hm : lastMarks [.Lt, .LtE] [b, c] = false := by with_unfolding_all rfl) : SoT K X (.Compare a [.Lt, .LtE] [b, c] pos) (tst (chn ltD leD f g h)) := st_chn (fun _ => op_lt) (fun _ => op_le) l_lt l_le bl_lt ha hb hc hm
theorem st_ltlt (ha : SoE K X a f) (hb : SoE K X b g) (hc : SoE K X c h) (hm : lastMarks [.Lt, .Lt] [b, c] = false := by with_unfolding_all rfl) : SoT K X (.Compare a [.Lt, .Lt] [b, c] pos) (tst (chn ltD ltD f g h)) := st_chn (fun _ => op_lt) (fun _ => op_lt) l_lt l_lt bl_lt ha hb hc hm
end
/-! ### built-ins on data -/
def lenD : List D → Option R
  | [.list ds] => some (.v (.int ds.length))
  | [.tuple ds] => some (.v (.int ds.length))
  | [.str z] => if z.length ≤ sizeLine then some (.v (.int z.length)) else none
  | [.dict es] => if nx es = true then some (.v (.int es.length)) else none
  | _ => none
def maxD : List D → Option R
  | [.int i, .int j] => some (.v (.int (if j > i then j else i)))
  | _ => none
def minD : List D → Option R
  | [.int i, .int j] => some (.v (.int (if j < i then j else i)))
  | _ => none
def absD : List D → Option R
  | [.int i] => some (.v (.int (if i < 0 then -i else i)))
  | _ => none
def bools : List D → Option (List Bool)
  | [] => some []
  | .bool b :: ds => (bools ds).map (b :: ·)
  | _ => none
def intsD : List D → Option (List Int)
  | [] => some []
  | .int b :: ds => (intsD ds).map (b :: ·)
  | _ => none
def allD : List D → Option R
  | [.list ds] => (bools ds).map fun bs => .v (.bool (bs.all id))
  | _ => none
def anyD : List D → Option R
  | [.list ds] => (bools ds).map fun bs => .v (.bool (bs.any id))
  | _ => none
def sumD : List D → Option R
  | [.list ds] => (intsD ds).map fun ns => .v (.int ns.sum)
  | _ => none
def sortI (ns : List Int) : List Int := ns.mergeSort fun a b => decide (a ≤ b)
def sortedD : List D → Option R
  | [.list ds] => (intsD ds).map fun ns => .n (.list ((sortI ns).map .int))
  | _ => none
def listD : List D → Option R
  | [.list ds] => some (.n (.list ds))
  | [.tuple ds] => some (.n (.list ds))
  | _ => none
def tupleD : List D → Option R
  | [.list ds] => some (.v (.tuple ds))
  | [.tuple ds] => some (.v (.tuple ds))
  | _ => none
def intD : List D → Option R
  | [.int i] => some (.v (.int i))
  | [.bool b] => some (.v (.int (if b then 1 else 0)))
  | _ => none
def strD : List D → Option R
  | [.int i] => if i.natAbs.log2 < 1920 then some (.v (.str (toString i))) else none
  | _ => none
def divmodD : List D → Option R
  | [.int i, .int j] => if 0 < j ∧ j < 1073741824 then some (.v (.tuple [.int (i / j), .int (i % j)])) else none
  | _ => none
/-! ### links -/
section
variable {K : PySem.W.Frag}
theorem vw1 {F H : Hp} {vs : List V} {d : D} (h : ViewA K F H vs [d]) : ∃ v, vs = [v] ∧ View K F H v d := by
  cases h with
  | cons h hs =>
    cases hs
    exact ⟨_, rfl, h⟩
theorem vw2 {F H : Hp} {vs : List V} {d d' : D} (h : ViewA K F H vs [d, d']) : ∃ v v', vs = [v, v'] ∧ View K F H v d ∧ View K F H v' d' := by
  cases h with
  | cons h hs =>
    cases hs with
    | cons h' hs =>
      cases hs
      exact ⟨_, _, rfl, h, h'⟩
theorem bools_rep {F : Hp} : ∀ {vs : List V} {ds : List D} {bs : List Bool}, RepA K F vs ds → bools ds = some bs → vs = bs.map V.bl
  | _, _, _, .nil, h => by cases h; rfl
  | _, _, _, .cons (d := d) h r, hb => by
    cases d with
    | bool b =>
      obtain ⟨bs, h1, rfl⟩ := Option.map_eq_some_iff.mp (show (bools _).map (b :: ·) = some _ from hb)
      cases h
      rw [bools_rep r h1]
      rfl
    | _ => cases hb
theorem intsD_rep {F : Hp} : ∀ {vs : List V} {ds : List D} {bs : List Int}, RepA K F vs ds → intsD ds = some bs → vs = bs.map V.int
  | _, _, _, .nil, h => by cases h; rfl
  | _, _, _, .cons (d := d) h r, hb => by
    cases d with
    | int b =>
      obtain ⟨bs, h1, rfl⟩ := Option.map_eq_some_iff.mp (show (intsD _).map (b :: ·) = some _ from hb)
      cases h
      rw [intsD_rep r h1]
      rfl
    | _ => cases hb
theorem ints_repA {F : Hp} : ∀ ns : List Int, RepA K F (ns.map V.int) (ns.map PyData.int)
  | [] => .nil
  | n :: ns => .cons (.int n) (ints_repA ns)
theorem sortI_uniq {ns ns' : List Int} (p : ns'.Perm ns) (s : ns'.Pairwise (· ≤ ·)) : ns' = sortI ns := by
  have h1 : (sortI ns).Pairwise fun a b => (decide (a ≤ b)) = true := List.pairwise_mergeSort (fun a b c h1 h2 => by simp at *; omega) (fun a b => by simp; omega) ns
  have h2 : (sortI ns).Pairwise (· ≤ ·) := h1.imp fun h => by simpa using h
  exact (p.trans (List.mergeSort_perm ns _).symm).eq_of_pairwise (fun a b _ _ h1 h2 => Int.le_antisymm h1 h2) s h2
def rLenD (K : PySem.W.Frag) : List V → Hp → VK → Prop := fun xs H Q => ∃ x n, xs = [x] ∧ LenV K x H n ∧ Q (.int n) H
def rLenDct : List V → Hp → VK → Prop := fun xs H Q => ∃ a kvs, xs = [V.ref a] ∧ H a = some (.dK kvs) ∧ Q (.int kvs.length) H
def rLenS (K : PySem.W.Frag) : List V → Hp → VK → Prop := fun xs H Q => rLenD K xs H Q ∨ rLenDct xs H Q
theorem l_len : CaL K (rLenS K) lenD := by
  intro F H vs ds res s hv ho Q q
  unfold lenD at ho
  split at ho
  · cases ho
    obtain ⟨v, rfl, h⟩ := vw1 hv
    obtain ⟨a, xs, rfl, h1, r1⟩ := h.lst s
    exact .inl ⟨_, _, rfl, .inl ⟨xs, h1, rfl⟩, by rw [r1.length]; exact gr_v s q (.int _)⟩
  · cases ho
    obtain ⟨v, rfl, h⟩ := vw1 hv
    obtain ⟨a, xs, rfl, h1, r1⟩ := h.tup s
    exact .inl ⟨_, _, rfl, .inr ⟨xs, h1, rfl⟩, by rw [r1.length]; exact gr_v s q (.int _)⟩
  · split at ho
    · rename_i hl
      cases ho
      obtain ⟨v, rfl, h⟩ := vw1 hv
      rw [h.str]
      exact .inl ⟨_, _, rfl, ⟨hl, rfl⟩, gr_v s q (.int _)⟩
    · cases ho
  · split at ho
    · rename_i hn
      cases ho
      obtain ⟨v, rfl, h⟩ := vw1 hv
      obtain ⟨a, kvs, rfl, h1, r, _⟩ := h.dict s hn
      exact .inr ⟨a, kvs, rfl, h1, by rw [r.length]; exact gr_v s q (.int _)⟩
    · cases ho
  · cases ho
theorem l_max : CaL K (fun xs H Q => ∃ i j, xs = [.int i, .int j] ∧ Q (.int (if j > i then j else i)) H) maxD := by
  intro F H vs ds res s hv ho Q q
  unfold maxD at ho
  split at ho
  · cases ho
    obtain ⟨v, v', rfl, h, h'⟩ := vw2 hv
    rw [h.int, h'.int]
    exact ⟨_, _, rfl, gr_v s q (.int _)⟩
  · cases ho
theorem l_min : CaL K (fun xs H Q => ∃ i j, xs = [.int i, .int j] ∧ Q (.int (if j < i then j else i)) H) minD := by
  intro F H vs ds res s hv ho Q q
  unfold minD at ho
  split at ho
  · cases ho
    obtain ⟨v, v', rfl, h, h'⟩ := vw2 hv
    rw [h.int, h'.int]
    exact ⟨_, _, rfl, gr_v s q (.int _)⟩
  · cases ho
theorem l_abs : CaL K (fun xs H Q => ∃ i, xs = [.int i] ∧ Q (.int (if i < 0 then -i else i)) H) absD := by
  intro F H vs ds res s hv ho Q q
  unfold absD at ho
  split at ho
  · cases ho
    obtain ⟨v, rfl, h⟩ := vw1 hv
    rw [h.int]
    exact ⟨_, rfl, gr_v s q (.int _)⟩
  · cases ho
theorem l_all : CaL K (rAll K) allD := by
  intro F H vs ds res s hv ho Q q
  unfold allD at ho
  split at ho
  · obtain ⟨bs, h1, rfl⟩ := Option.map_eq_some_iff.mp ho
    obtain ⟨v, rfl, h⟩ := vw1 hv
    obtain ⟨a, xs, rfl, h2, r1⟩ := h.lst s
    exact ⟨a, bs, rfl, by rw [← bools_rep r1 h1]; exact h2, gr_v s q (.bl _)⟩
  · cases ho
theorem l_any : CaL K (rAny K) anyD := by
  intro F H vs ds res s hv ho Q q
  unfold anyD at ho
  split at ho
  · obtain ⟨bs, h1, rfl⟩ := Option.map_eq_some_iff.mp ho
    obtain ⟨v, rfl, h⟩ := vw1 hv
    obtain ⟨a, xs, rfl, h2, r1⟩ := h.lst s
    exact ⟨a, bs, rfl, by rw [← bools_rep r1 h1]; exact h2, gr_v s q (.bl _)⟩
  · cases ho
theorem l_sum : CaL K (rSum K) sumD := by
  intro F H vs ds res s hv ho Q q
  unfold sumD at ho
  split at ho
  · obtain ⟨bs, h1, rfl⟩ := Option.map_eq_some_iff.mp ho
    obtain ⟨v, rfl, h⟩ := vw1 hv
    obtain ⟨a, xs, rfl, h2, r1⟩ := h.lst s
    exact ⟨a, bs, rfl, by rw [← intsD_rep r1 h1]; exact h2, gr_v s q (.int _)⟩
  · cases ho
theorem l_sorted : CaL K (rSortedI K) sortedD := by
  intro F H vs ds res s hv ho Q q
  unfold sortedD at ho
  split at ho
  · obtain ⟨bs, h1, rfl⟩ := Option.map_eq_some_iff.mp ho
    obtain ⟨v, rfl, h⟩ := vw1 hv
    obtain ⟨a, xs, rfl, h2, r1⟩ := h.lst s
    refine ⟨a, bs, rfl, by rw [← intsD_rep r1 h1]; exact h2, fun ns' p h3 h4 hp => ?_⟩
    rw [sortI_uniq h3 h4]
    exact gr_l s q (ints_repA _) p hp
  · cases ho
theorem l_list : CaL K (fun xs H Q => ∃ p ys, xs = [.ref p] ∧ (SqL K H p ys ∨ SqT K H p ys) ∧ ∀ l, H l = none → Q (.ref l) (upd H l (.lst ys))) listD := by
  intro F H vs ds res s hv ho Q q
  unfold listD at ho
  split at ho
  · cases ho
    obtain ⟨v, rfl, h⟩ := vw1 hv
    obtain ⟨a, xs, rfl, h1, r1⟩ := h.lst s
    exact ⟨a, xs, rfl, .inl h1, gr_l s q r1⟩
  · cases ho
    obtain ⟨v, rfl, h⟩ := vw1 hv
    obtain ⟨a, xs, rfl, h1, r1⟩ := h.tup s
    exact ⟨a, xs, rfl, .inr h1, gr_l s q r1⟩
  · cases ho
theorem l_tuple : CaL K (fun xs H Q => ∃ p ys, xs = [.ref p] ∧ ((SqL K H p ys ∧ ∀ l, H l = none → Q (.ref l) (upd H l (.tup ys))) ∨ (SqT K H p ys ∧ Q (.ref p) H))) tupleD := by
  intro F H vs ds res s hv ho Q q
  unfold tupleD at ho
  split at ho
  · cases ho
    obtain ⟨v, rfl, h⟩ := vw1 hv
    obtain ⟨a, xs, rfl, h1, r1⟩ := h.lst s
    exact ⟨a, xs, rfl, .inl ⟨h1, gr_t s q r1⟩⟩
  · cases ho
    obtain ⟨v, rfl, h⟩ := vw1 hv
    have h0 := h
    obtain ⟨a, xs, rfl, h1, r1⟩ := h.tup s
    refine ⟨a, xs, rfl, .inr ⟨h1, ?_⟩⟩
    rcases h0 with h0 | ⟨_, _, _, _, ho⟩
    · exact gr_v s q h0
    · rcases ho.any with ⟨_, _, _, e, _⟩ | ⟨_, _, _, _, e, _⟩ <;> cases e
  · cases ho
theorem l_int : CaL K (fun xs H Q => (∃ i, xs = [.int i] ∧ Q (.int i) H) ∨ ∃ k, xs = [.bl k] ∧ Q (.int (if k then 1 else 0)) H) intD := by
  intro F H vs ds res s hv ho Q q
  unfold intD at ho
  split at ho
  · cases ho
    obtain ⟨v, rfl, h⟩ := vw1 hv
    rw [h.int]
    exact .inl ⟨_, rfl, gr_v s q (.int _)⟩
  · cases ho
    obtain ⟨v, rfl, h⟩ := vw1 hv
    rw [h.bl]
    exact .inr ⟨_, rfl, gr_v s q (.int _)⟩
  · cases ho
theorem l_str : CaL K (fun xs H Q => ∃ i, xs = [.int i] ∧ i.natAbs.log2 < 1920 ∧ Q (.str (toString i)) H) strD := by
  intro F H vs ds res s hv ho Q q
  unfold strD at ho
  split at ho
  · split at ho
    · rename_i hl
      cases ho
      obtain ⟨v, rfl, h⟩ := vw1 hv
      rw [h.int]
      exact ⟨_, rfl, hl, gr_v s q (.str _)⟩
    · cases ho
  · cases ho
theorem l_divmod : CaL K (fun xs H Q => ∃ i j, xs = [.int i, .int j] ∧ CDiv i j ∧ ∀ p, H p = none → Q (.ref p) (upd H p (.tup [.int (i / j), .int (i % j)]))) divmodD := by
  intro F H vs ds res s hv ho Q q
  unfold divmodD at ho
  split at ho
  · split at ho
    · rename_i hl
      cases ho
      obtain ⟨v, v', rfl, h, h'⟩ := vw2 hv
      rw [h.int, h'.int]
      exact ⟨_, _, rfl, hl, gr_t s q (.cons (.int _) (.cons (.int _) .nil))⟩
    · cases ho
  · cases ho
end
/-! ### in a context -/
section
variable {ι : Type} {K : PySem.W.Frag} {X : ι → Cx} {a b : Expr} {es : List Expr} {fs : M (List R)} {pos p : Pos}
theorem so_len (hm : ∀ i, (X i).mg "len" = none) (ha : SoP K X [a] fs) (hK : ∀ i, (X i).K = K := by intro _; rfl) (hg : ∀ i, Gl (X i) "len" := by intro _; rfl) (he : ∀ i, starEach [a] (X i).env = (false, eval a (X i).env) :: starEach [] (X i).env := by intro _; rfl) : SoE K X (.Call (.Name "len" p) [a] [] pos) (blt lenD fs) :=
  so_blt (fun i => by have := (call_len (X := X i)).or call_lenD; rw [hK i] at this; exact this) l_len hm PySem.boot_len ha hg (he := he)
theorem so_max (hm : ∀ i, (X i).mg "max" = none) (ha : SoP K X [a, b] fs) (hc : ∀ i, (X i).calm = true := by intro _; rfl) (hg : ∀ i, Gl (X i) "max" := by intro _; rfl) (he : ∀ i, starEach [a, b] (X i).env = (false, eval a (X i).env) :: starEach [b] (X i).env := by intro _; rfl) (hpl : ∀ i, (backTo pos (starEach [b] (X i).env)).any (·.1) = false := by intro _; rfl) : SoE K X (.Call (.Name "max" p) [a, b] [] pos) (blt maxD fs) :=
  so_blt (fun i => call_max2 (hc i)) l_max hm (by decide +kernel) ha hg (he := he) (hpl := hpl)
theorem so_min (hm : ∀ i, (X i).mg "min" = none) (ha : SoP K X [a, b] fs) (hc : ∀ i, (X i).calm = true := by intro _; rfl) (hg : ∀ i, Gl (X i) "min" := by intro _; rfl) (he : ∀ i, starEach [a, b] (X i).env = (false, eval a (X i).env) :: starEach [b] (X i).env := by intro _; rfl) (hpl : ∀ i, (backTo pos (starEach [b] (X i).env)).any (·.1) = false := by intro _; rfl) : SoE K X (.Call (.Name "min" p) [a, b] [] pos) (blt minD fs) :=
  so_blt (fun i => call_min2 (hc i)) l_min hm (by decide +kernel) ha hg (he := he) (hpl := hpl)
theorem so_abs (hm : ∀ i, (X i).mg "abs" = none) (ha : SoP K X [a] fs) (hg : ∀ i, Gl (X i) "abs" := by intro _; rfl) (he : ∀ i, starEach [a] (X i).env = (false, eval a (X i).env) :: starEach [] (X i).env := by intro _; rfl) : SoE K X (.Call (.Name "abs" p) [a] [] pos) (blt absD fs) :=
  so_blt (fun i => call_abs) l_abs hm (by decide +kernel) ha hg (he := he)
theorem so_all (hm : ∀ i, (X i).mg "all" = none) (ha : SoP K X [a] fs) (hc : ∀ i, (X i).calm = true := by intro _; rfl) (hK : ∀ i, (X i).K = K := by intro _; rfl) (hg : ∀ i, Gl (X i) "all" := by intro _; rfl) (he : ∀ i, starEach [a] (X i).env = (false, eval a (X i).env) :: starEach [] (X i).env := by intro _; rfl) : SoE K X (.Call (.Name "all" p) [a] [] pos) (blt allD fs) :=
  so_blt (fun i => by have := cr_all (hc i); rw [hK i] at this; exact this) l_all hm (by decide +kernel) ha hg (he := he)
theorem so_any (hm : ∀ i, (X i).mg "any" = none) (ha : SoP K X [a] fs) (hc : ∀ i, (X i).calm = true := by intro _; rfl) (hK : ∀ i, (X i).K = K := by intro _; rfl) (hg : ∀ i, Gl (X i) "any" := by intro _; rfl) (he : ∀ i, starEach [a] (X i).env = (false, eval a (X i).env) :: starEach [] (X i).env := by intro _; rfl) : SoE K X (.Call (.Name "any" p) [a] [] pos) (blt anyD fs) :=
  so_blt (fun i => by have := cr_any (hc i); rw [hK i] at this; exact this) l_any hm (by decide +kernel) ha hg (he := he)
theorem so_sum (hm : ∀ i, (X i).mg "sum" = none) (ha : SoP K X [a] fs) (hc : ∀ i, (X i).calm = true := by intro _; rfl) (hK : ∀ i, (X i).K = K := by intro _; rfl) (hg : ∀ i, Gl (X i) "sum" := by intro _; rfl) (he : ∀ i, starEach [a] (X i).env = (false, eval a (X i).env) :: starEach [] (X i).env := by intro _; rfl) : SoE K X (.Call (.Name "sum" p) [a] [] pos) (blt sumD fs) :=
  so_blt (fun i => by have := cr_sum (hc i); rw [hK i] at this; exact this) l_sum hm (by decide +kernel) ha hg (he := he)
theorem so_sorted (hm : ∀ i, (X i).mg "sorted" = none) (ha : SoP K X [a] fs) (hK : ∀ i, (X i).K = K := by intro _; rfl) (hg : ∀ i, Gl (X i) "sorted" := by intro _; rfl) (he : ∀ i, starEach [a] (X i).env = (false, eval a (X i).env) :: starEach [] (X i).env := by intro _; rfl) : SoE K X (.Call (.Name "sorted" p) [a] [] pos) (blt sortedD fs) :=
  so_blt (fun i => by have := cr_sortedI (X := X i); rw [hK i] at this; exact this) l_sorted hm (by decide +kernel) ha hg (he := he)
theorem so_divmod (hm : ∀ i, (X i).mg "divmod" = none) (ha : SoP K X [a, b] fs) (hg : ∀ i, Gl (X i) "divmod" := by intro _; rfl) (he : ∀ i, starEach [a, b] (X i).env = (false, eval a (X i).env) :: starEach [b] (X i).env := by intro _; rfl) (hpl : ∀ i, (backTo pos (starEach [b] (X i).env)).any (·.1) = false := by intro _; rfl) : SoE K X (.Call (.Name "divmod" p) [a, b] [] pos) (blt divmodD fs) :=
  so_blt (fun i => call_divmod) l_divmod hm (by decide +kernel) ha hg (he := he) (hpl := hpl)
theorem so_list (hm : ∀ i, (X i).mg "list" = none) (ha : SoP K X [a] fs) (hK : ∀ i, (X i).K = K := by intro _; rfl) (hg : ∀ i, Gl (X i) "list" := by intro _; rfl) (he : ∀ i, starEach [a] (X i).env = (false, eval a (X i).env) :: starEach [] (X i).env := by intro _; rfl) : SoE K X (.Call (.Name "list" p) [a] [] pos) (blt listD fs) :=
  so_ty (fun i => by have := call_list_of (X := X i); rw [hK i] at this; exact this) l_list hm (by decide +kernel) ha hg (he := he)
theorem so_tuple (hm : ∀ i, (X i).mg "tuple" = none) (ha : SoP K X [a] fs) (hK : ∀ i, (X i).K = K := by intro _; rfl) (hg : ∀ i, Gl (X i) "tuple" := by intro _; rfl) (he : ∀ i, starEach [a] (X i).env = (false, eval a (X i).env) :: starEach [] (X i).env := by intro _; rfl) : SoE K X (.Call (.Name "tuple" p) [a] [] pos) (blt tupleD fs) :=
  so_ty (fun i => by have := call_tuple_of (X := X i); rw [hK i] at this; exact this) l_tuple hm (by decide +kernel) ha hg (he := he)
theorem so_intC (hm : ∀ i, (X i).mg "int" = none) (ha : SoP K X [a] fs) (hg : ∀ i, Gl (X i) "int" := by intro _; rfl) (he : ∀ i, starEach [a] (X i).env = (false, eval a (X i).env) :: starEach [] (X i).env := by intro _; rfl) : SoE K X (.Call (.Name "int" p) [a] [] pos) (blt intD fs) :=
  so_ty (fun i => call_int1) l_int hm (by decide +kernel) ha hg (he := he)
theorem so_strC (hm : ∀ i, (X i).mg "str" = none) (ha : SoP K X [a] fs) (hg : ∀ i, Gl (X i) "str" := by intro _; rfl) (he : ∀ i, starEach [a] (X i).env = (false, eval a (X i).env) :: starEach [] (X i).env := by intro _; rfl) : SoE K X (.Call (.Name "str" p) [a] [] pos) (blt strD fs) :=
  so_ty (fun i => call_str_int) l_str hm (by decide +kernel) ha hg (he := he)
end
/-! ### isinstance -/
def tyD : D → String
  | .none => "NoneType"
  | .bool _ => "bool"
  | .int _ => "int"
  | .str _ => "str"
  | .list _ => "list"
  | .tuple _ => "tuple"
  | .dict es => if nx es = true then "dict" else "ValueError"
def isiD (T : String) (d : D) : Option R := (kitB (tyD d) T).map fun b => .v (.bool b)
def isi (T : String) (f : M R) : M R := fun e => (f e).bind fun p => (p.1.get p.2).bind fun d => (isiD T d).map fun r => (r, p.2)
section
variable {ι : Type} {K : PySem.W.Frag} {X : ι → Cx} {a b : Expr} {f : M R} {pos p p2 : Pos} {T : String} {x : Str}
/-- a thing whose type is asked: no exception, or one -/
inductive TyZ (K : PySem.W.Frag) (H : Hp) : V → Value → Prop
  | base {v : V} {t : Value} : TyX K H v t → TyZ K H v t
  | exc {a C : Addr} {n : Str} : ExcCls K n C → H a = some (ExT (.ref C) none a) → TyZ K H (.ref a) (.ref C)
  | excA {a C dx : Addr} {n : Str} {fs : List (Str × V)} : ExcCls K n C → H a = some (ExT (.ref C) (some dx) a) → H dx = some (.xd fs) → TyZ K H (.ref a) (.ref C)
theorem kit_ofZ {X : Cx} {pins : List (Addr × Obj)} {σ : L2.St} {H : Hp} {s : Shared} {x : V} {u t : Value} (I : Inv X pins σ H s) (rx : RelV x u) (ty : TyZ X.K H x t) : ∃ P : Heap → Prop, PySem.W.KitX X.K u t P ∧ P s.heap ∧ u ≠ .builtin "__main__.__loader__#opaque" := by
  cases ty with
  | base h => exact kit_of I rx h
  | @exc a C n ec ea =>
    cases (show u = Value.ref a from rx)
    obtain ⟨⟨oe, vs, h1, ⟨h2, h3⟩, h4⟩, _, _⟩ := (show ObjOk X.prog X.w H s.heap a (ExT (.ref C) none a) from I.hok a _ ea)
    obtain ⟨gt, hk⟩ := ec.hk
    refine ⟨_, PySem.W.kitx_exc (od := none) (ox := oe) ec.cl ec.hg hk ec.hs ec.ha ec.hn ec.ht ec.hm, ⟨h1, h2, by unfold PySem.W.notCls; rw [h4], by rw [h3]; trivial⟩, fun z => nomatch z⟩
  | @excA a C dx n fs ec ea ed =>
    cases (show u = Value.ref a from rx)
    obtain ⟨⟨oe, vs, h1, ⟨h2, h3⟩, h4⟩, _, _⟩ := (show ObjOk X.prog X.w H s.heap a (ExT (.ref C) (some dx) a) from I.hok a _ ea)
    obtain ⟨_, ⟨o, _, _, h5, _⟩, _⟩ := (show ObjOk X.prog X.w H s.heap dx (.xd fs) from I.hok dx _ ed)
    obtain ⟨gt, hk⟩ := ec.hk
    refine ⟨_, PySem.W.kitx_exc (od := some o) (ox := oe) ec.cl ec.hg hk ec.hs ec.ha ec.hn ec.ht ec.hm, ⟨h1, h2, by unfold PySem.W.notCls; rw [h4], by rw [h3]; exact h5⟩, fun z => nomatch z⟩
/-- isinstance(x, c), one class -/
def rIsZ (K : PySem.W.Frag) : List V → Hp → VK → Prop := fun xs H Q => ∃ (x c : V) (t u : Value) (b : Bool), xs = [x, c] ∧ ClsV c u ∧ TyZ K H x t ∧ PySem.W.kitOne K t u = some b ∧ Q (.bl b) H
def rIsZT (K : PySem.W.Frag) : List V → Hp → VK → Prop := fun xs H Q => ∃ (x : V) (tp : Addr) (cs : List V) (t : Value) (us : List Value) (b : Bool), xs = [x, .ref tp] ∧ H tp = some (.tup cs) ∧ Paired ClsV cs us ∧ TyZ K H x t ∧ PySem.W.kitAny K t us = some b ∧ Q (.bl b) H
theorem call_isZ {X : Cx} : CallR X (.builtin "isinstance") (rIsZ X.K) := by
  intro pins s σ H xs us Q I r h
  obtain ⟨x, c, t, u, b, rfl, k, ty, e, q⟩ := h
  obtain ⟨u1, u2, rfl, r1, r2⟩ := vals2 r
  have e2 := k.eq r2
  subst e2
  obtain ⟨P, Z, p, hx⟩ := kit_ofZ I r1 ty
  exact PySem.W.kia_one Z I.kIn p e hx fun tk => ⟨.bl b, H, I.tok tk, rfl, q⟩
theorem call_isZT {X : Cx} : CallR X (.builtin "isinstance") (rIsZT X.K) := by
  intro pins s σ H xs us Q I r h
  obtain ⟨x, tp, cs, t, ws, b, rfl, hT, k, ty, e, q⟩ := h
  obtain ⟨u1, u2, rfl, r1, r2⟩ := vals2 r
  cases (show u2 = Value.ref tp from r2)
  obtain ⟨P, Z, p, hx⟩ := kit_ofZ I r1 ty
  obtain ⟨_, its, rv, o, h1, h2, n, h3⟩ := (show ObjOk X.prog X.w H s.heap tp (.tup cs) from I.hok tp _ hT)
  have e3 := ClsV.all k rv
  subst e3
  obtain ⟨oc, od, dt, sl⟩ := o
  simp only at h2 h3
  subst h2 h3
  exact PySem.W.kia_tup Z I.kIn p h1 e hx fun tk => ⟨.bl b, H, I.tok tk, rfl, q⟩
theorem tyD_nx {es : List (D × D)} (h : nx es = true) : tyD (.dict es) = "dict" := if_pos h
/-- what has the type's answers: the type, or an own class of ValueErrors -/
def Answers (K : PySem.W.Frag) (t : Value) (n : String) : Prop := ∀ (T : String) (b : Bool), kitB n T = some b → PySem.W.kitOne K t (.type T) = some b
theorem tyZ_of {F H : Hp} {v : V} {d : D} (s : Ex F H) (h : View K F H v d) : ∃ t, TyZ K H v t ∧ Answers K t (tyD d) := by
  have lst : ∀ {a xs}, SqL K H a xs → TyX K H (.ref a) (.type "list") := fun {a xs} h => by
    rcases h with (h | ⟨o, h⟩) | ⟨o, its, n, h1, h2, _⟩
    · exact .base (.lst h)
    · exact .base (.frz h)
    · exact .kList h1 h2
  have ans : ∀ n, Answers K (.type n) n := fun n T b h => kit_ty h
  rcases h with h | ⟨a, o, rfl, ha, ho⟩
  · cases h with
    | non => exact ⟨_, .base (.base .non), ans _⟩
    | bl b => exact ⟨_, .base (.base (.bl b)), ans _⟩
    | int i => exact ⟨_, .base (.base (.int i)), ans _⟩
    | str z => exact ⟨_, .base (.base (.str z)), ans _⟩
    | lst hs r => exact ⟨_, .base (lst (ex_l s hs)), ans _⟩
    | tup hs r =>
      rcases ex_t s hs with (h | ⟨o, h⟩) | ⟨o, its, n, h1, h2, _⟩
      · exact ⟨_, .base (.base (.tup h)), ans _⟩
      · exact ⟨_, .base (.fTuple h), ans _⟩
      · exact ⟨_, .base (.kTuple h1 h2), ans _⟩
    | dct h l n r => exact ⟨_, .base (.base (.dK (s _ _ h))), by rw [tyD_nx nx_kD]; exact ans _⟩
    | exc h g => exact ⟨_, .exc h (s _ _ g), h.ty⟩
    | excA h g k => exact ⟨_, .excA h (s _ _ g) (s _ _ k), h.ty⟩
  · cases d with
    | dict es =>
      obtain ⟨kvs, rfl, _⟩ := ho.dict
      exact ⟨_, .base (.base (.dK ha)), by rw [tyD_nx ho.nx]; exact ans _⟩
    | list ds =>
      obtain ⟨vs, rfl, _⟩ := ho.list
      exact ⟨_, .base (lst (sq_of ha)), ans _⟩
    | _ => cases o <;> exact ho.elim
theorem isiD_dict {T : String} {b : Bool} (h1 : kitB "dict" T = some b) (h2 : kitB "ValueError" T = some b) {es : List (D × D)} : isiD T (.dict es) = some (.v (.bool b)) := by
  by_cases h : nx es = true
  · unfold isiD; rw [tyD_nx h, h1]; rfl
  · have e : tyD (.dict es) = "ValueError" := if_neg h
    unfold isiD; rw [e, h2]; rfl
theorem so_isi (hm : ∀ i, (X i).mg "isinstance" = none) (hmT : ∀ i, (X i).mg x = none) (hv : bootBuiltins x = some (.type T)) (ha : SoE K X a f) (hK : ∀ i, (X i).K = K := by intro _; rfl) (hg : ∀ i, Gl (X i) "isinstance" := by intro _; rfl) (hgT : ∀ i, Gl (X i) x := by intro _; rfl)
    (he : ∀ i, starEach [a, .Name x p2] (X i).env = (false, eval a (X i).env) :: starEach [.Name x p2] (X i).env := by intro _; rfl) (hn : x ≠ "__name__" := by decide) (hd : (x == ("__debug__" : Str)) = false := by decide) : SoE K X (.Call (.Name "isinstance" p) [a, .Name x p2] [] pos) (isi T f) := by
  obtain ⟨ta, pa, ha⟩ := ha
  refine ⟨tCB (rIsZ K) (tCons ta (tCons (tC (.ty T)) tNil)), fun i => ?_, fun F H σ e r e' rel hf Q q => ?_⟩
  · have := pe_callB (p := p) (pos := pos) (call_isZ (X := X i)) (hg i) (hm i) (by decide +kernel) (pa_cons (pa i) (pa_cons (pe_bltn (pos := p2) (v := .ty T) (hgT i) (hmT i) hv rfl hn hd) pa_nil (by rfl)) (he i)) (he := he i)
    rw [hK i] at this
    exact this
  · obtain ⟨⟨r1, e1⟩, h1, hf⟩ := bind_some hf
    obtain ⟨d, h2, hf⟩ := bind_some hf
    obtain ⟨z, h3, h4⟩ := Option.map_eq_some_iff.mp hf
    obtain ⟨b, h5, rfl⟩ := Option.map_eq_some_iff.mp h3
    cases h4
    refine ha F H σ e r1 e1 rel h1 _ fun v F1 H1 p1 rv => ?_
    obtain ⟨t, h6, h7⟩ := tyZ_of p1.rel.sub (p1.rel.view rv h2)
    exact ⟨v, .ty T, t, .type T, b, rfl, .ty T, h6, h7 _ _ h5, q _ F1 H1 p1 (.bl b)⟩
/-- one of two types -/
def isi2 (T T2 : String) (f : M R) : M R := fun e => (f e).bind fun p => (p.1.nf.get p.2).bind fun d => (PySem.W.kitAny [] (.type (tyD d)) [.type T, .type T2]).map fun b => (.v (.bool b), p.2)
end
end Sl

set_option Elab.async false
set_option linter.all false
set_option maxRecDepth 100000
set_option maxHeartbeats 2000000
set_option autoImplicit false
/-! The text's facts, the end of a law. -/
namespace Sl
open PySem PySem.Spec PyProof.Rows L2 Evl
/-! ### constants of the top -/
mutual
def kRep (K : PySem.W.Frag) : D → Value → Bool
  | .none, .none => true
  | .bool b, .bool c => b == c
  | .int i, .int j _ => decide (i = j)
  | .str x, .str y _ => decide (x = y)
  | .tuple ds, .ref a => (match K.lookup a with
    | some ⟨.type c, none, .seq its _, _⟩ => decide (c = "tuple") && (decide (its.size ≤ sizeLine) && kReps K ds its.toList)
    | _ => false)
  | _, _ => false
def kReps (K : PySem.W.Frag) : List D → List Value → Bool
  | [], [] => true
  | d :: ds, u :: us => kRep K d u && kReps K ds us
  | _, _ => false
end
mutual
theorem kRep_ok {K : PySem.W.Frag} : ∀ {d : D} {u : Value}, kRep K d u = true → ∃ v, RelV v u ∧ ∀ F, Rep K F v d
  | .none, .none, _ => ⟨.non, rfl, fun _ => .non⟩
  | .bool b, .bool c, h => ⟨.bl b, by rw [eq_of_beq (show (b == c) = true by simpa [kRep] using h)]; rfl, fun _ => .bl b⟩
  | .int i, .int j t, h => ⟨.int i, ⟨t, by rw [of_decide_eq_true (show decide (i = j) = true by simpa [kRep] using h)]⟩, fun _ => .int i⟩
  | .str i, .str j t, h => ⟨.str i, ⟨t, by rw [of_decide_eq_true (show decide (i = j) = true by simpa [kRep] using h)]⟩, fun _ => .str i⟩
  | .tuple ds, .ref a, h => by
    unfold kRep at h
    cases q : K.lookup a with
    | none => simp [q] at h
    | some o =>
      obtain ⟨oc, od, dt, osl⟩ := o
      rw [q] at h
      cases oc with
      | type c =>
        cases od with
        | none =>
          cases dt with
          | seq its n =>
            simp only [Bool.and_eq_true, decide_eq_true_eq] at h
            obtain ⟨h1, h2, h3⟩ := h
            obtain ⟨vs, r, rp⟩ := kReps_ok h3
            exact ⟨.ref a, rfl, fun F => .tup (.inr ⟨_, its, n, q, congrArg Value.type h1, rfl, h2, r⟩) (rp F)⟩
          | _ => simp at h
        | some _ => cases dt <;> simp at h
      | _ => cases od <;> cases dt <;> simp at h
theorem kReps_ok {K : PySem.W.Frag} : ∀ {ds : List D} {us : List Value}, kReps K ds us = true → ∃ vs, Vals vs us ∧ ∀ F, RepA K F vs ds
  | [], [], _ => ⟨[], .nil, fun _ => .nil⟩
  | d :: ds, u :: us, h => by
    unfold kReps at h
    obtain ⟨h1, h2⟩ := Bool.and_eq_true_iff.mp h
    obtain ⟨v, r, p⟩ := kRep_ok h1
    obtain ⟨vs, rs, ps⟩ := kReps_ok h2
    exact ⟨v :: vs, .cons r rs, fun F => .cons (p F) (ps F)⟩
end
def conOk (K : PySem.W.Frag) (p : Str × D) : Bool := match PySem.W.nsIn K mainGlobals p.1 with
  | some (some u) => kRep K p.2 u
  | _ => false
/-! ### the Hook -/
def obsS (fa : List He.Fa) (fn : List He.DefD) (cs : List (Str × D)) (K : PySem.W.Frag) : He.AlD × Bool := (He.obsD fa fn K, cs.all (conOk K))
def obsSG (n : Nat) (fa : List He.Fa) (fn : List He.DefD) (cs : List (Str × D)) (g : Addr → Option Obj) : He.AlD × Bool := obsS fa fn cs (He.frG g (He.asD g n))
/-- what a law's defs lean on -/
structure Txt (fa : List He.Fa) (fn : List He.DefD) (cs : List (Str × D)) (K : PySem.W.Frag) (mg : Str → Option Value) : Prop where
  says : He.SaysD fa fn K
  con : cs.all (conOk K) = true
  mg : ∃ h : Heap, K.In h ∧ h.Ns mainGlobals mg
def hookS (n : Nat) (fa : List He.Fa) (fn : List He.DefD) (cs : List (Str × D)) : PySem.W.Hook where
  α := He.AlD × Bool
  obs := fun s => obsSG n fa fn cs s.heap.get?
  val := fun _ => (He.valD fn, true)
  says := fun _ h => ∃ K : PySem.W.Frag, K.In h ∧ obsS fa fn cs K = (He.valD fn, true)
  of := fun _ _ e => ⟨_, He.frG_in, e⟩
  keeps := fun _ _ _ ⟨K, hK, c⟩ k => ⟨K, PySem.W.Frag.In.keeps hK k, c⟩
theorem obsSG_eq {n : Nat} {fa : List He.Fa} {fn : List He.DefD} {cs : List (Str × D)} {g : Addr → Option Obj} {s : Shared} (h : ∀ a, g a = s.heap.get? a) : obsSG n fa fn cs g = (hookS n fa fn cs).obs s := by
  have e : g = s.heap.get? := funext h
  rw [e] <;> rfl
section
variable {fa : List He.Fa} {fn : List He.DefD} {cs : List (Str × D)} {K : PySem.W.Frag} {mg : Str → Option Value}
theorem Txt.free (T : Txt fa fn cs K mg) (i : Nat) {x : Str} (h : fa[i]? = some (.free x) := by rfl) : mg x = none := by
  obtain ⟨h0, KX, G⟩ := T.mg
  exact He.free_ok KX G (T.says.fact i h)
theorem Txt.glo (T : Txt fa fn cs K mg) (i : Nat) {x : Str} (h : fa[i]? = some (.glo x) := by rfl) : mg x = some (.ref (He.ga K x)) := by
  obtain ⟨h0, KX, G⟩ := T.mg
  exact He.glo_ok KX G (T.says.fact i h)
theorem Txt.cst (T : Txt fa fn cs K mg) (i : Nat) {x : Str} {d : D} (h : cs[i]? = some (x, d) := by rfl) : ∃ u v, mg x = some u ∧ RelV v u ∧ ∀ F, Rep K F v d := by
  obtain ⟨h0, KX, G⟩ := T.mg
  have c := List.all_eq_true.mp T.con _ (List.mem_of_getElem? h)
  unfold conOk at c
  cases q : PySem.W.nsIn K mainGlobals x with
  | none => simp [q] at c
  | some o =>
    cases o with
    | none => simp [q] at c
    | some u =>
      simp only [q] at c
      obtain ⟨v, r, p⟩ := kRep_ok c
      exact ⟨u, v, PySem.W.mg_of KX G q, r, p⟩
theorem kRep_tup {K : PySem.W.Frag} {ds : List D} {u : Value} (h : kRep K (.tuple ds) u = true) : ∃ a o, u = .ref a ∧ K.lookup a = some o ∧ o.cls = .type "tuple" ∧ o.dict = none ∧ ∀ F, Rep K F (.ref a) (.tuple ds) := by
  have hh := h
  cases u with
  | ref a =>
    unfold kRep at h
    cases q : K.lookup a with
    | none => simp [q] at h
    | some o =>
      obtain ⟨v, r, rp⟩ := kRep_ok hh
      obtain ⟨oc, od, dt, osl⟩ := o
      rw [q] at h
      cases oc with
      | type c =>
        cases od with
        | none =>
          cases dt with
          | seq its n =>
            simp only [Bool.and_eq_true, decide_eq_true_eq] at h
            obtain ⟨h1, h2, h3⟩ := h
            refine ⟨a, ⟨.type c, none, .seq its n, osl⟩, rfl, by first | exact q | rfl, congrArg Value.type h1, rfl, fun F => ?_⟩
            obtain ⟨vs, r2, rp2⟩ := kReps_ok h3
            exact .tup (.inr ⟨_, its, n, q, congrArg Value.type h1, rfl, h2, r2⟩) (rp2 F)
          | _ => simp at h
        | some _ => cases dt <;> simp at h
      | _ => cases od <;> cases dt <;> simp at h
  | _ => simp [kRep] at h
theorem Txt.cstT (T : Txt fa fn cs K mg) (i : Nat) {x : Str} {ds : List D} (h : cs[i]? = some (x, .tuple ds) := by rfl) : ∃ a o, mg x = some (.ref a) ∧ K.lookup a = some o ∧ o.cls = .type "tuple" ∧ o.dict = none ∧ ∀ F, Rep K F (.ref a) (.tuple ds) := by
  obtain ⟨h0, KX, G⟩ := T.mg
  have c := List.all_eq_true.mp T.con _ (List.mem_of_getElem? h)
  unfold conOk at c
  cases q : PySem.W.nsIn K mainGlobals x with
  | none => simp [q] at c
  | some o =>
    cases o with
    | none => simp [q] at c
    | some u =>
      simp only [q] at c
      obtain ⟨a, o, rfl, h1, h2, h3, h4⟩ := kRep_tup c
      exact ⟨a, o, PySem.W.mg_of KX G q, h1, h2, h3, h4⟩
end
section
variable {ι : Type} {K : PySem.W.Frag} {X : ι → Cx} {pos : Pos} {x : Str} {mg : Str → Option Value} {d : D}
theorem so_glob (h : ∃ u v, mg x = some u ∧ RelV v u ∧ ∀ F, Rep K F v d) (hm : ∀ i, (X i).mg = mg := by intro _; rfl) (hg : ∀ i, Gl (X i) x := by intro _; rfl) (hd : (x == ("__debug__" : Str)) = false := by decide) : SoE K X (.Name x pos) (con d) := by
  obtain ⟨u, v, h1, h2, h3⟩ := h
  exact so_con (fun i => pe_glob (hg i) (by rw [hm i]; exact h1) h2 hd) h3
end
theorem hu_room {k : Nat} {A : Around} (r : Room k A) : A.units + 65 < cLine := by
  have := r.un
  omega
/-- the law's promise -/
theorem spM_law {K : PySem.W.Frag} {H : Hp} {a : Addr} {ns : List Int} {m : Mm} {out : List Cel} {E : XK} (hS : SqL K H a (ns.map V.int)) (h : m [.fz (.list (ns.map .int))] = some (.v (.bool true), out)) : spM K m [.ref a] H (fun v _ => v = .bl true) E := by
  refine ⟨H, [.fz (.list (ns.map .int))], _, out, ⟨rfl, Ex.refl H, fun i d h => ?_, fun i s h hs => ?_, fun i j s t a h1 h2 _ _ _ _ => ?_⟩, h, fun v F' H' _ _ rr => ?_⟩
  · rcases i with _ | i
    · simp at h
      subst h
      exact ⟨_, rfl, .lst hS (ints_repA ns)⟩
    · simp at h
  · rcases i with _ | i
    · simp at h
      subst h
      cases hs
    · simp at h
  · rcases i with _ | i
    · simp at h1
      subst h1
      cases h2
    · simp at h1
  · have rr : Rep K F' v (.bool true) := rr
    cases rr
    rfl
end Sl

set_option Elab.async false
set_option linter.all false
set_option maxRecDepth 100000
set_option maxHeartbeats 2000000
set_option autoImplicit false
/-! Lists of one's own, changed. -/
namespace Sl
open PySem PySem.Spec PyProof.Rows L2 Evl
def FUEL : Nat := 100000
theorem lenA0 {e : En} {ds : List D} {e' : En} (h : nilA e = some (ds, e')) : ds.length = 0 := by
  cases h
  rfl
theorem lenAS {n : Nat} {f : M R} {g : M (List D)} (hg : ∀ {e : En} {ds : List D} {e' : En}, g e = some (ds, e') → ds.length = n) {e : En} {ds : List D} {e' : En} (h : consA f g e = some (ds, e')) : ds.length = n + 1 := by
  obtain ⟨p, h1, h⟩ := bind_some h
  obtain ⟨q, h2, h⟩ := bind_some h
  obtain ⟨s, h3, h⟩ := bind_some h
  cases h
  rw [List.length_cons, hg h3]
theorem lenG0 {ds : List D} {e e' : En} (h : gs0 ds e = some e') : ds.length = 0 := by
  cases ds with
  | nil => rfl
  | cons _ _ => cases h
theorem lenGS {n : Nat} {f : D → En → Option En} {g : List D → En → Option En} (hg : ∀ {ds : List D} {e e' : En}, g ds e = some e' → ds.length = n) {ds : List D} {e e' : En} (h : gs1 f g ds e = some e') : ds.length = n + 1 := by
  cases ds with
  | nil => cases h
  | cons d r =>
    obtain ⟨p, h1, h⟩ := bind_some h
    rw [List.length_cons, hg h]
theorem lenG1 {f : D → En → Option En} {ds : List D} {e e' : En} (h : gs1 f gs0 ds e = some e') : ds.length = 1 := lenGS lenG0 h
theorem lenG2 {f f2 : D → En → Option En} {ds : List D} {e e' : En} (h : gs1 f (gs1 f2 gs0) ds e = some e') : ds.length = 2 := lenGS (lenGS lenG0) h
theorem lenG3 {f f2 f3 : D → En → Option En} {ds : List D} {e e' : En} (h : gs1 f (gs1 f2 (gs1 f3 gs0)) ds e = some e') : ds.length = 3 := lenGS (lenGS (lenGS lenG0)) h
theorem lenG4 {f f2 f3 f4 : D → En → Option En} {ds : List D} {e e' : En} (h : gs1 f (gs1 f2 (gs1 f3 (gs1 f4 gs0))) ds e = some e') : ds.length = 4 := lenGS (lenGS (lenGS (lenGS lenG0))) h
theorem lenG5 {f f2 f3 f4 f5 : D → En → Option En} {ds : List D} {e e' : En} (h : gs1 f (gs1 f2 (gs1 f3 (gs1 f4 (gs1 f5 gs0)))) ds e = some e') : ds.length = 5 := lenGS (lenGS (lenGS (lenGS (lenGS lenG0)))) h
theorem lenA1 {f : M R} {e : En} {ds : List D} {e' : En} (h : consA f nilA e = some (ds, e')) : ds.length = 1 := lenAS lenA0 h
theorem lenA2 {f f2 : M R} {e : En} {ds : List D} {e' : En} (h : consA f (consA f2 nilA) e = some (ds, e')) : ds.length = 2 := lenAS (lenAS lenA0) h
theorem lenA3 {f f2 f3 : M R} {e : En} {ds : List D} {e' : En} (h : consA f (consA f2 (consA f3 nilA)) e = some (ds, e')) : ds.length = 3 := lenAS (lenAS (lenAS lenA0)) h
def setLD : D → D → D → Option D
  | .list ds, .int k, v => (ixN ds.length k).map fun j => .list (ds.set j v)
  | _, _, _ => none
def appD : D → List D → Option (D × D)
  | .list ds, [x] => if ds.length < sizeLine then some (.list (ds ++ [x]), .none) else none
  | _, _ => none
def popD : D → List D → Option (D × D)
  | .list ds, [] => (ds[ds.length - 1]?).map fun x => (.list ds.dropLast, x)
  | _, _ => none
def revD : D → List D → Option (D × D)
  | .list ds, [] => some (.list ds.reverse, .none)
  | _, _ => none
def clrD : D → List D → Option (D × D)
  | .list ds, [] => some (.list [], .none)
  | _, _ => none
def popAtD : D → List D → Option (D × D)
  | .list ds, [.int i] => if -(2 ^ 63) ≤ i ∧ i < 2 ^ 63 then (seqIndex? i ds.length).bind fun k => (ds[k]?).map fun x => (.list (ds.eraseIdx k), x) else none
  | _, _ => none
section
variable {K : PySem.W.Frag}
theorem LO {F : Hp} {o : HO} {d : D} (h : RepO K F o d) (n : ¬ ∃ es, d = .dict es) : ∃ vs ds, o = .lst vs ∧ d = .list ds ∧ RepA K F vs ds := by
  rcases h.any with h | ⟨_, _, _, _, rfl, _⟩
  · exact h
  · exact (n ⟨_, rfl⟩).elim
theorem l_setL : SeL K rSetL setLD := by
  intro F H a ob dx vi vv di dv dx' s ha ho hi hv h Q q
  obtain ⟨xs, ds, rfl, rfl, r⟩ := LO ho (by rintro ⟨es, rfl⟩; cases h)
  unfold setLD at h
  cases di with
  | int k =>
    obtain ⟨j, h1, rfl⟩ := Option.map_eq_some_iff.mp h
    rw [hi.int]
    exact ⟨a, xs, k, j, rfl, rfl, ha, by rw [r.length]; exact h1, q _ (r.set j hv)⟩
  | _ => cases h
theorem l_app : MuL K rAppend appD := by
  intro F H a ob dx vs ds dx' res s ha ho hv h Q q
  obtain ⟨xs, ds', rfl, rfl, r⟩ := LO ho (by rintro ⟨es, rfl⟩; cases h)
  cases hv with
  | nil => cases h
  | cons h1 hs =>
    cases hs with
    | cons _ _ => cases h
    | nil =>
      simp only [appD] at h
      split at h
      · rename_i hl
        cases h
        exact ⟨a, xs, _, rfl, rfl, ha, by rw [r.length]; exact hl, q .non (.lst _) (r.append (.cons h1 .nil)) .non⟩
      · cases h
theorem l_pop : MuL K rPop popD := by
  intro F H a ob dx vs ds dx' res s ha ho hv h Q q
  obtain ⟨xs, ds', rfl, rfl, r⟩ := LO ho (by rintro ⟨es, rfl⟩; cases h)
  cases hv with
  | cons _ _ => cases h
  | nil =>
    obtain ⟨x, h1, h2⟩ := Option.map_eq_some_iff.mp h
    cases h2
    obtain ⟨v, h3, h4⟩ := r.get h1
    exact ⟨a, xs, v, rfl, rfl, ha, by rw [r.length]; exact h3, q v (.lst _) r.dropLast h4⟩
theorem l_rev : MuL K rReverse revD := by
  intro F H a ob dx vs ds dx' res s ha ho hv h Q q
  obtain ⟨xs, ds', rfl, rfl, r⟩ := LO ho (by rintro ⟨es, rfl⟩; cases h)
  cases hv with
  | cons _ _ => cases h
  | nil =>
    cases h
    exact ⟨a, xs, rfl, rfl, ha, q .non (.lst _) r.reverse .non⟩
theorem l_clr : MuL K rClear clrD := by
  intro F H a ob dx vs ds dx' res s ha ho hv h Q q
  obtain ⟨xs, ds', rfl, rfl, r⟩ := LO ho (by rintro ⟨es, rfl⟩; cases h)
  cases hv with
  | cons _ _ => cases h
  | nil =>
    cases h
    exact ⟨a, xs, rfl, rfl, ha, q .non (.lst _) .nil .non⟩
theorem l_popAt : MuL K rPopAt popAtD := by
  intro F H a ob dx vs ds dx' res s ha ho hv h Q q
  obtain ⟨xs, ds', rfl, rfl, r⟩ := LO ho (by rintro ⟨es, rfl⟩; cases h)
  cases hv with
  | nil => cases h
  | cons h1 hs =>
    cases h1 with
    | int i =>
      cases hs with
      | cons _ _ => cases h
      | nil =>
        simp only [popAtD] at h
        split at h
        · rename_i hb
          obtain ⟨k, h2, h⟩ := bind_some h
          obtain ⟨x, h3, h4⟩ := Option.map_eq_some_iff.mp h
          cases h4
          obtain ⟨v, h5, h6⟩ := r.get h3
          exact ⟨a, xs, i, k, v, rfl, rfl, ha, hb.1, hb.2, by rw [r.length]; exact h2, h5, q v (.lst _) (r.eraseIdx k) h6⟩
        · cases h
    | _ => cases hs <;> cases h
end
section
variable {ι : Type} {K : PySem.W.Frag} {X : ι → Cx} {a b v : Expr} {f fo fi : M R} {fs : M (List D)} {pos apos tpos : Pos}
theorem so_setL (hv : SoE K X v f) (ho : SoE K X a fo) (hi : SoE K X b fi)
    (ha : ∀ i v, assign (.Subscript a b tpos) (X i).env v = (do
      let ov ← holding [v] (eval a (X i).env)
      let iv ← holding [v, ov] (eval b (X i).env)
      standAt tpos
      holding [v, ov, iv] (setItem ov iv v)
      release [v, ov, iv] []) := by intro _ _; rfl) (hs : ∀ i, swapsWithSole [.Subscript a b tpos] v pos.line (X i).env = pure false := by intro _; rfl) (hw : ∀ i, swappedStores [.Subscript a b tpos] v (X i).env = pure none := by intro _; rfl)
    (h1 : ∀ i, (assignEach [.Subscript a b tpos] (X i).env).map (·.2) = [assign (.Subscript a b tpos) (X i).env] := by intro _; rfl) : SoS K X (.Assign [.Subscript a b tpos] v pos) (setS setLD f fo fi) := so_setS (fun _ => set_list) l_setL hv ho hi ha hs hw h1
theorem so_app (ho : SoE K X a fo) (ha : SoA K X [v] fs) (hK : ∀ i, (X i).K = K := by intro _; rfl)
    (hbase : ∀ i, attributeBase a "append" (X i).env (eval a (X i).env) = eval a (X i).env := by intro _; rfl)
    (hfew : ∀ i, ((backTo pos (starEach [v] (X i).env)).all (fun x => !x.1) && (backToKw pos (keywordEach [] (X i).env)).all (fun x => x.1.isSome)
      && decide ([v].length + ([] : List Keyword).length + (if ([] : List Keyword).isEmpty then 0 else 1) < 30)) = true := by intro _; rfl)
    (hline : (apos.endLine == pos.line) = true := by rfl) (hs : ∀ i, starEach [v] (X i).env = (false, eval v (X i).env) :: starEach [] (X i).env := by intro _; rfl) : SoE K X (.Call (.Attribute a "append" apos) [v] [] pos) (mutM "list" appD fo fs) :=
  so_mut PySem.F.plainAttrs_list PySem.F.slot_list_append PySem.F.type_list_append (fun _ => mt_append) l_app ho ha hK hbase hfew hline hs
theorem so_popAt (ho : SoE K X a fo) (ha : SoA K X [v] fs) (hK : ∀ i, (X i).K = K := by intro _; rfl)
    (hbase : ∀ i, attributeBase a "pop" (X i).env (eval a (X i).env) = eval a (X i).env := by intro _; rfl)
    (hfew : ∀ i, ((backTo pos (starEach [v] (X i).env)).all (fun x => !x.1) && (backToKw pos (keywordEach [] (X i).env)).all (fun x => x.1.isSome)
      && decide ([v].length + ([] : List Keyword).length + (if ([] : List Keyword).isEmpty then 0 else 1) < 30)) = true := by intro _; rfl)
    (hline : (apos.endLine == pos.line) = true := by rfl) (hs : ∀ i, starEach [v] (X i).env = (false, eval v (X i).env) :: starEach [] (X i).env := by intro _; rfl) : SoE K X (.Call (.Attribute a "pop" apos) [v] [] pos) (mutM "list" popAtD fo fs) :=
  so_mut PySem.F.plainAttrs_list PySem.F.slot_list_pop PySem.F.type_list_pop (fun _ => mt_popAt) l_popAt ho ha hK hbase hfew hline hs
theorem so_pop (ho : SoE K X a fo) (hK : ∀ i, (X i).K = K := by intro _; rfl) (hbase : ∀ i, attributeBase a "pop" (X i).env (eval a (X i).env) = eval a (X i).env := by intro _; rfl) (hline : (apos.endLine == pos.line) = true := by rfl) :
    SoE K X (.Call (.Attribute a "pop" apos) [] [] pos) (mutM0 "list" popD fo) := so_mut0 PySem.F.plainAttrs_list PySem.F.slot_list_pop PySem.F.type_list_pop (fun _ => mt_pop) l_pop ho hK hbase hline
theorem so_rev (ho : SoE K X a fo) (hK : ∀ i, (X i).K = K := by intro _; rfl) (hbase : ∀ i, attributeBase a "reverse" (X i).env (eval a (X i).env) = eval a (X i).env := by intro _; rfl) (hline : (apos.endLine == pos.line) = true := by rfl) :
    SoE K X (.Call (.Attribute a "reverse" apos) [] [] pos) (mutM0 "list" revD fo) := so_mut0 PySem.F.plainAttrs_list PySem.F.slot_list_reverse PySem.F.type_list_reverse (fun _ => mt_reverse) l_rev ho hK hbase hline
theorem so_clr (ho : SoE K X a fo) (hK : ∀ i, (X i).K = K := by intro _; rfl) (hbase : ∀ i, attributeBase a "clear" (X i).env (eval a (X i).env) = eval a (X i).env := by intro _; rfl) (hline : (apos.endLine == pos.line) = true := by rfl) :
    SoE K X (.Call (.Attribute a "clear" apos) [] [] pos) (mutM0 "list" clrD fo) := so_mut0 PySem.F.plainAttrs_list PySem.F.slot_list_clear PySem.F.type_list_clear (fun _ => mt_clear) l_clr ho hK hbase hline
end
end Sl

set_option Elab.async false
set_option linter.all false
set_option maxRecDepth 100000
set_option maxHeartbeats 2000000
set_option autoImplicit false
/-! enumerate and zip, over lists and tuples alike. -/
namespace Sl
open PySem PySem.Spec PyProof.Rows L2 Evl
/-- a tuple (t) or a list -/
def SqG (t : Bool) (K : PySem.W.Frag) (H : Hp) (a : Addr) (xs : List V) : Prop := match t with
  | true => SqT K H a xs
  | false => SqL K H a xs
def IsSq (t : Bool) (h : Heap) (a : Addr) (its : Array Value) : Prop := match t with
  | true => h.IsTuple a its
  | false => h.IsList a its
def IsIt (t : Bool) (h : Heap) (it a : Addr) (i : Nat) : Prop := match t with
  | true => h.IsTupleIter it a i
  | false => h.IsListIter it a i
def itOb (t : Bool) (a : Addr) : Obj := match t with
  | true => { cls := .type "tuple_iterator", data := .fields #[.ref a, .int 0 0] }
  | false => { cls := .type "list_iterator", data := .fields #[.ref a, .int 0 0] }
section
variable {t : Bool} {h h' : Heap} {it a : Addr} {i : Nat} {its : Array Value}
theorem IsIt.at (x : IsIt t h it a i) (k : ∀ o, h.get? it = some o → h'.get? it = some o) : IsIt t h' it a i := by
  cases t
  · exact Heap.IsListIter.at x k
  · exact Heap.IsTupleIter.at x k
theorem IsIt.ob (x : IsIt t h it a i) : ∃ o, h.get? it = some o ∧ ∀ v, o.data ≠ .cell v := by
  cases t
  · obtain ⟨o, ho, _, hd⟩ := x
    exact ⟨o, ho, fun v q => by rw [hd] at q; cases q⟩
  · obtain ⟨o, ho, _, hd⟩ := x
    exact ⟨o, ho, fun v q => by rw [hd] at q; cases q⟩
theorem draws_sq {prog : Program} {w : World} {A : Around} (hh : A.handled = none) (t : Bool) (it a : Addr) (hne : a ≠ it) (items : Array Value) :
    Draws prog w A it [it, a] items.size (fun i v => items[i]? = some v) (fun i h => IsIt t h it a i ∧ IsSq t h a items) := by
  cases t
  · exact Draws.list hh it a hne items
  · exact Draws.tuple hh it a hne items
theorem begins_sq (t : Bool) (a : Addr) (items : Array Value) : Begins (.ref a) (itOb t a) fun h => IsSq t h a items := by
  cases t
  · exact begins_list a items
  · exact begins_tuple a items
theorem isIt_new (e : h.get? it = some (itOb t a)) : IsIt t h it a 0 := by
  cases t
  · exact ⟨_, e, rfl, rfl⟩
  · exact ⟨_, e, rfl, rfl⟩
end
section
variable {X : Cx} {pins : List (Addr × Obj)} {σ : L2.St} {H : Hp} {s : Shared} {a : Addr} {xs ys : List V} {t : Bool}
theorem inv_sq (I : Inv X pins σ H s) (h : SqG t X.K H a xs) : ∃ its : List Value, Vals xs its ∧ IsSq t s.heap a its.toArray ∧ xs.length ≤ sizeLine := by
  cases t
  · obtain ⟨its, r, p, z⟩ := I.list h
    exact ⟨its, r, p.isList, z⟩
  · obtain ⟨its, r, p, z⟩ := I.tuple h
    exact ⟨its, r, p, z⟩
theorem isSq_lt {its : Array Value} (h : IsSq t s.heap a its) : a < s.heap.objs.size := by
  cases t
  · obtain ⟨o, e, _⟩ := h
    exact Heap.lt_size e
  · obtain ⟨o, e, _⟩ := h
    exact Heap.lt_size e
end
/-- rows of known things, each given as a new tuple -/
def ItT (G : Hp → Prop) (rows : List (List V)) : It :=
  ⟨fun i H => G H ∧ i < rows.length, fun i H v H' => ∃ T vs, v = .ref T ∧ rows[i]? = some vs ∧ H T = none ∧ H' = upd H T (.tup vs), fun i H => G H ∧ i = rows.length⟩
/-- one turn of a walk that gives new tuples -/
theorem turn_step {X : Cx} {pins : List (Addr × Obj)} {s : Shared} {σ : L2.St} {H : Hp} {E : Value → Shared → Prop} {I : Addr} {fp wr ff : List Addr} {n i : Nat} {Pt : Nat → Array Value → Prop} {St : Nat → Heap → Prop} {Mid : Nat → Addr → Heap → Prop} {elts : List Expr} {kk : Nat} {tpos : Pos}
    (W : WalksT X.prog X.w X.A I fp wr n Pt St Mid) (Iv : Inv X pins σ H s) (hw : ∀ b ∈ wr, b ∈ ff) (hf : ∀ b ∈ ff, FpOk X pins H b) (hst : St i s.heap) (hi : i < n) {vs : List V} (hz : vs.length ≤ sizeLine) (hP : ∀ vals, Pt i vals → Vals vs vals.toList) (hl : ∀ b ∈ ff, ∃ o, s.heap.get? b = some o) :
    wpAny (model X.prog X.w) X.A (pyNext (.ref I)) (fun r s1 => ∃ u, r = some u ∧ wpAny (model X.prog X.w) X.A (letOwnedTupleGo (.Tuple elts kk tpos) (.ref I) u)
      (fun _ s2 => ∃ x H', Inv X pins σ H' s2 ∧ RelV x u ∧ (∃ T, x = .ref T ∧ H T = none ∧ H' = upd H T (.tup vs)) ∧ St (i + 1) s2.heap ∧ ∀ b ∈ ff, H' b = none) E s1) E s := by
  refine W.item i s _ E hi hst fun T vals h' tk hp hT hvals hm hk => ⟨.ref T, rfl, W.go elts kk tpos i T _ _ E hm fun h'' hst' hk' => ?_⟩
  have hT2 : h''.IsTuple T vals := hvals.at fun o e => hk' T o (W.apart i T h' hm) e
  have new : ObjOk X.prog X.w (upd H T (.tup vs)) h'' T (.tup vs) := ⟨hz, vals.toList, hP vals hp, by
    rw [show vals.toList.toArray = vals by simp]
    exact hT2⟩
  have I1 : Inv X pins σ (upd H T (.tup vs)) { s with heap := h'', toks := tk } :=
    Iv.turnedNew (ch := wr) (fun b o hb q => hk' b o hb (hk b o hb q)) (fun b hb => hf b (hw b hb)) hT new
  refine ⟨.ref T, _, I1, rfl, ⟨T, rfl, Iv.hok.fresh hT, rfl⟩, hst', fun b hb => ?_⟩
  have hb' : b ≠ T := by
    obtain ⟨o, e⟩ := hl b hb
    exact Nat.ne_of_lt (Nat.lt_of_lt_of_le (Heap.lt_size e) hT)
  rw [upd_ne hb']
  exact (hf b hb).1
theorem walk_end {X : Cx} {pins : List (Addr × Obj)} {s : Shared} {σ : L2.St} {H : Hp} {E : Value → Shared → Prop} {I : Addr} {fp wr : List Addr} {n : Nat} {Pt : Nat → Array Value → Prop} {St : Nat → Heap → Prop} {Mid : Nat → Addr → Heap → Prop}
    (W : WalksT X.prog X.w X.A I fp wr n Pt St Mid) (Iv : Inv X pins σ H s) (hf : ∀ b ∈ wr, FpOk X pins H b) (hst : St n s.heap) :
    wpAny (model X.prog X.w) X.A (pyNext (.ref I)) (fun r s1 => r = none ∧ Inv X pins σ H s1) E s := by
  refine W.done s _ E hst fun h' tk hk => ⟨rfl, ?_⟩
  exact Iv.turnedL (t' := tk) (ch := wr) (fun c o hb q => hk c o hb q) hf
/-! ### enumerate -/
def eRows (i : Nat) : List V → List (List V)
  | [] => []
  | x :: xs => [.int (i : Nat), x] :: eRows (i + 1) xs
theorem eRows_len : ∀ (xs : List V) (k : Nat), (eRows k xs).length = xs.length
  | [], _ => rfl
  | x :: xs, k => by rw [eRows, List.length_cons, List.length_cons, eRows_len]
theorem eRows_get : ∀ (xs : List V) (k i : Nat) (x : V), xs[i]? = some x → (eRows k xs)[i]? = some [.int ((k + i : Nat) : Int), x]
  | [], _, _, _, h => by simp at h
  | y :: xs, k, 0, x, h => by simp at h; subst h; rfl
  | y :: xs, k, i + 1, x, h => by
    have := eRows_get xs (k + 1) i x (by simpa using h)
    rw [eRows, List.getElem?_cons_succ, this]
    have e : k + 1 + i = k + (i + 1) := by omega
    rw [e]
theorem turn_enumG {P : Program} {w : World} {K : PySem.W.Frag} {elts : List Expr} {kk : Nat} {tpos : Pos} (t : Bool) (a e it : Addr) (xs : List V) (hei : e ≠ it) (hea : e ≠ a) (hia : a ≠ it) :
    Turn P w K (.Tuple elts kk tpos) (ItT (fun H => SqG t K H a xs) (eRows 0 xs)) [e, it] e (fun i h => (∃ old, IsEnum h e it (0 + ((i : Nat) : Int)) old) ∧ IsIt t h it a i) where
  mem := by simp
  obj := fun i h st b hb => by
    obtain ⟨⟨old, he⟩, hit⟩ := st
    have e' : b = e ∨ b = it := by simpa using hb
    rcases e' with z | z
    · rw [z]; exact ⟨_, he, fun v q => nomatch q⟩
    · rw [z]; exact hit.ob
  keep := fun i h h' st k => ⟨st.1.elim fun old he => ⟨old, k e (by simp) _ he⟩, st.2.at fun o q => k it (by simp) o q⟩
  item := by
    intro X hP hw hK hc i pins s σ H E I hf st hg
    subst hP hw hK
    obtain ⟨hq, hi⟩ := hg
    rw [eRows_len] at hi
    obtain ⟨its, rv, p, hz⟩ := inv_sq I hq
    have hx : xs[i]? = some xs[i] := List.getElem?_eq_getElem hi
    obtain ⟨u, hu, ru⟩ := rv.get hx
    have D := draws_sq (prog := X.prog) (w := X.w) (A := X.A.in1) (I.ok.hd hc) t it a hia its.toArray
    have W := WalksT.enumFrom (A := X.A) 0 D e hei (by simp [hei, hea]) (by simp)
    refine thn (turn_step W I (fun _ h => h) hf ⟨st.1, st.2, p⟩ (by have := rv.length; simp; omega) (vs := [.int ((i : Nat) : Int), xs[i]]) (by show 2 ≤ sizeLine; decide) (fun vals hv => ?_) (fun b hb => ?_)) fun r s1 ⟨u', hu', q⟩ => ⟨u', hu', thn q fun _ s2 ⟨x, H', q1, q2, ⟨T, q3, q4, q5⟩, q6, q7⟩ => ⟨x, H', q1, q2, ⟨T, _, q3, ?_, q4, q5⟩, ⟨q6.1, q6.2.1⟩, q7⟩⟩
    · obtain ⟨tk, y, hy, rfl⟩ := hv
      have : y = u := by
        have e1 : its[i]? = some y := by simpa using hy
        rw [hu] at e1
        exact (Option.some.inj e1).symm
      subst this
      exact .cons ⟨tk, by simp⟩ (.cons ru .nil)
    · have e' : b = e ∨ b = it := by simpa using hb
      rcases e' with z | z
      · rw [z]; obtain ⟨old, he⟩ := st.1; exact ⟨_, he⟩
      · rw [z]; obtain ⟨o, ho, _⟩ := st.2.ob; exact ⟨o, ho⟩
    · have := eRows_get xs 0 i _ hx
      rw [Nat.zero_add] at this
      exact this
  done := by
    intro X hP hw hK hc i pins s σ H E I hf st hg
    subst hP hw hK
    obtain ⟨hq, hi⟩ := hg
    rw [eRows_len] at hi
    subst hi
    obtain ⟨its, rv, p, hz⟩ := inv_sq I hq
    have D := draws_sq (prog := X.prog) (w := X.w) (A := X.A.in1) (I.ok.hd hc) t it a hia its.toArray
    have W := WalksT.enumFrom (A := X.A) 0 D e hei (by simp [hei, hea]) (by simp)
    have hn : its.toArray.size = xs.length := by simp [rv.length]
    rw [hn] at W
    exact walk_end W I hf ⟨st.1, st.2, p⟩
  self := fun A i s Q E st h => let ⟨⟨_, he⟩, _⟩ := st; wpAny_pyIter_enum he h
theorem meets_enum1 {v : Value} {o : Obj} {H : Heap → Prop} (B : Begins v o H) :
    Meets (Builtin.«enumerate.__new__» ⟨[.type "enumerate", v], []⟩) (fun _ R s => H s.heap ∧
      R (.ok (.ret (.ref (s.heap.push o).objs.size))) { s with heap := (s.heap.push o).push { cls := .type "enumerate", data := .fields #[.none, .bool false, .ref s.heap.objs.size, rawInt 0, .none, .none] } }) :=
  .of_wp fun prog w A R s h => by
    obtain ⟨hp, g, d, tk, os⟩ := s; obtain ⟨h1, h⟩ := h
    have hsub := sub_enumerate
    have q1 : ∀ {A' : Around} {E : Value → Shared → Prop} {Q : Value → Shared → Prop}, Q (.ref hp.objs.size) ⟨hp.push o, g, d, tk, os⟩ → wpAny (model prog w) A' (pyIter v) Q E ⟨hp, g, d, tk, os⟩ :=
      fun q => B.iter prog w _ _ ⟨hp, g, d, tk, os⟩ _ h1 q
    wp_walk using q1
    refine wpAny_stack_any fun st => wpAny_pure ?_
    split
    · rename_i c _ _ _ _ _
      cases (c == Value.type "enumerate")
      · wp_walk using q1
        exact ⟨_, rfl, h⟩
      · wp_walk using q1
        exact ⟨_, rfl, h⟩
    · wp_walk using q1
      exact ⟨_, rfl, h⟩
theorem call_enum1 {prog : Program} {w : World} {A : Around} {E : Value → Shared → Prop} {s : Shared} {v : Value} {o : Obj} {H : Heap → Prop} {Q : Value → Shared → Prop} (B : Begins v o H) (h1 : H s.heap)
    (h : ∀ h', IsEnum h' (s.heap.objs.size + 1) s.heap.objs.size 0 .none → h'.get? s.heap.objs.size = some o → (∀ b o, s.heap.get? b = some o → h'.get? b = some o) → Q (.ref (s.heap.objs.size + 1)) { s with heap := h' }) :
    wpAny (model prog w) A (call (.type "enumerate") [v]) Q E s := by
  refine callType_new F.called_enumerate (by decide) (F.typeCall_enumerate_1 _) (F.newCall_enumerate_1 _) (fun obj => F.args_object_init_2 obj _) F.entry_enumerate_new (meets_enum1 B) ⟨h1, ?_⟩
  have hz : (s.heap.push o).objs.size = s.heap.objs.size + 1 := Heap.size_push ..
  show _ ∧ _
  rw [hz]
  have he : IsEnum ((s.heap.push o).push { cls := .type "enumerate", data := .fields #[.none, .bool false, .ref s.heap.objs.size, rawInt 0, .none, .none] }) (s.heap.objs.size + 1) s.heap.objs.size 0 .none := by
    have := Heap.get?_push_size (s.heap.push o) (o := { cls := .type "enumerate", data := .fields #[.none, .bool false, .ref s.heap.objs.size, rawInt 0, .none, .none] }) rfl
    rw [hz] at this; exact this
  exact ⟨⟨_, he, rfl⟩, h _ he (Heap.get?_push_of_some _ (Heap.get?_push_size _ B.free)) fun b o x => Heap.get?_push_of_some _ (Heap.get?_push_of_some _ x)⟩
def iEnumG (K : PySem.W.Frag) (ta : TA) : TI := fun σ H R => ta σ H fun vs H1 => ∃ t a xs, vs = [.ref a] ∧ SqG t K H1 a xs ∧ (xs.length ≤ sizeLine → R (ItT (fun H => SqG t K H a xs) (eRows 0 xs)) H1)
theorem pi_enumG {X : Cx} {e : Expr} {ta : TA} {p pos tpos : Pos} {elts : List Expr} {kk : Nat} (hg : Gl X "enumerate") (hm : X.mg "enumerate" = none) (ha : PA X [e] ta) (hs : starEach [e] X.env = [(false, eval e X.env)] := by rfl) :
    PI X (.Tuple elts kk tpos) (.Call (.Name "enumerate" p) [e] [] pos) (iEnumG X.K ta) := by
  refine ⟨fun pins s σ H R I h => ?_⟩
  refine Call_ (ld_blt I hg hm boot_enumerate (PyProof.Rows.callWith_type1 (thn (ha.run pos pins s σ H _ I h) fun us s1 ⟨vs, H1, I1, r1, q1⟩ => ?_) hs rfl))
  obtain ⟨t, a, xs, ex, hq, q⟩ := q1
  subst ex
  cases r1 with
  | cons r rr =>
    cases rr
    cases r
    obtain ⟨its, rv, p', hz⟩ := inv_sq I1 hq
    have hlt : a < s1.heap.objs.size := isSq_lt p'
    refine call_enum1 (begins_sq t a its.toArray) p' fun h' he hit hk => wpAny_pyIter_enum he ?_
    have I2 : Inv X pins σ H1 { s1 with heap := h' } := I1.kept (t' := s1.toks) hk
    refine ⟨s1.heap.objs.size + 1, [s1.heap.objs.size + 1, s1.heap.objs.size], _, _, H1, rfl, I2, turn_enumG t a (s1.heap.objs.size + 1) s1.heap.objs.size xs (Nat.succ_ne_self _) (Nat.ne_of_gt (Nat.lt_succ_of_lt hlt)) (Nat.ne_of_lt hlt), ⟨⟨.none, he⟩, isIt_new hit⟩, fun b hb => ?_, q hz⟩
    have e' : b = s1.heap.objs.size + 1 ∨ b = s1.heap.objs.size := by simpa using hb
    have hle : s1.heap.objs.size ≤ b := by
      rcases e' with z | z
      · rw [z]; exact Nat.le_succ _
      · rw [z]; exact Nat.le_refl _
    exact I1.fpOk hle (I1.hok.fresh hle)
/-! ### zip of two -/
def zRows : List V → List V → List (List V)
  | x :: xs, y :: ys => [x, y] :: zRows xs ys
  | _, _ => []
theorem zRows_len : ∀ (xs ys : List V), (zRows xs ys).length = min xs.length ys.length
  | [], _ => by simp [zRows]
  | _ :: _, [] => by simp [zRows]
  | x :: xs, y :: ys => by rw [zRows, List.length_cons, zRows_len, List.length_cons, List.length_cons]; omega
theorem zRows_get : ∀ (xs ys : List V) (i : Nat) (x y : V), xs[i]? = some x → ys[i]? = some y → (zRows xs ys)[i]? = some [x, y]
  | [], _, _, _, _, h, _ => by simp at h
  | _ :: _, [], _, _, _, _, h => by simp at h
  | _ :: _, _ :: _, 0, _, _, h, g => by simp at h g; subst h g; rfl
  | a :: xs, b :: ys, i + 1, x, y, h, g => by
    have := zRows_get xs ys i x y (by simpa using h) (by simpa using g)
    rw [zRows, List.getElem?_cons_succ, this]
theorem turn_zipG {P : Program} {w : World} {K : PySem.W.Frag} {elts : List Expr} {kk : Nat} {tpos : Pos} (t t' : Bool) {a b z TI TO i1 i2 : Addr} (xs ys : List V) (S : ZipSep2 z TI TO i1 i2 [i1, a] [i2, b]) (h1 : a ≠ i1) (h2 : b ≠ i2) :
    Turn P w K (.Tuple elts kk tpos) (ItT (fun H => SqG t K H a xs ∧ SqG t' K H b ys) (zRows xs ys)) [z, TI, TO, i1, i2] z
      (fun i h => IsZip h z TI TO .none ∧ IsTupOf2 h TI (.ref i1) (.ref i2) ∧ (∃ x y, IsTupOf2 h TO x y) ∧ IsIt t h i1 a i ∧ IsIt t' h i2 b i) where
  mem := by simp
  obj := fun i h st c hc => by
    obtain ⟨hz, hTI, ⟨x, y, hTO⟩, g1, g2⟩ := st
    have e' : c = z ∨ c = TI ∨ c = TO ∨ c = i1 ∨ c = i2 := by simpa using hc
    rcases e' with q | q | q | q | q
    · rw [q]; exact ⟨_, hz, fun v q => nomatch q⟩
    · rw [q]; exact ⟨_, hTI, fun v q => nomatch q⟩
    · rw [q]; exact ⟨_, hTO, fun v q => nomatch q⟩
    · rw [q]; exact g1.ob
    · rw [q]; exact g2.ob
  keep := fun i h h' st k => by
    obtain ⟨hz, hTI, ⟨x, y, hTO⟩, g1, g2⟩ := st
    exact ⟨k z (by simp) _ hz, k TI (by simp) _ hTI, ⟨x, y, k TO (by simp) _ hTO⟩, g1.at fun o q => k i1 (by simp) o q, g2.at fun o q => k i2 (by simp) o q⟩
  item := by
    intro X hP hw hK hc i pins s σ H E I hf st hg
    subst hP hw hK
    obtain ⟨⟨hq, hq2⟩, hi⟩ := hg
    rw [zRows_len] at hi
    obtain ⟨its, rv, p, hz⟩ := inv_sq I hq
    obtain ⟨its2, rv2, p2, hz2⟩ := inv_sq I hq2
    have hx : xs[i]? = some (xs[i]'(by omega)) := List.getElem?_eq_getElem (by omega)
    have hy : ys[i]? = some (ys[i]'(by omega)) := List.getElem?_eq_getElem (by omega)
    obtain ⟨u, hu, ru⟩ := rv.get hx
    obtain ⟨u2, hu2, ru2⟩ := rv2.get hy
    have D1 := draws_sq (prog := X.prog) (w := X.w) (A := X.A.in1) (I.ok.hd hc) t i1 a h1 its.toArray
    have D2 := draws_sq (prog := X.prog) (w := X.w) (A := X.A.in1) (I.ok.hd hc) t' i2 b h2 its2.toArray
    have W := WalksT.zipD2 (A := X.A) S D1 D2
    obtain ⟨sz, sTI, sTO, g1, g2⟩ := st
    have l1 := rv.length
    have l2 := rv2.length
    refine thn (turn_step W I (ff := [z, TI, TO, i1, i2]) (fun c hc => by simp at hc ⊢; rcases hc with h | h | h | h <;> simp [h]) hf ⟨sz, sTI, sTO, ⟨g1, p⟩, g2, p2⟩ (by simp; omega) (vs := [xs[i]'(by omega), ys[i]'(by omega)]) (by show 2 ≤ sizeLine; decide) (fun vals hv => ?_) (fun c hc => ?_)) fun r s1 ⟨u', hu', q⟩ => ⟨u', hu', thn q fun _ s2 ⟨x, H', q1, q2, ⟨T, q3, q4, q5⟩, q6, q7⟩ => ⟨x, H', q1, q2, ⟨T, _, q3, zRows_get xs ys i _ _ hx hy, q4, q5⟩, ⟨q6.1, q6.2.1, q6.2.2.1, q6.2.2.2.1.1, q6.2.2.2.2.1⟩, q7⟩⟩
    · obtain ⟨x1, x2, e1, e2, rfl⟩ := hv
      have e1' : its[i]? = some x1 := by simpa using e1
      have e2' : its2[i]? = some x2 := by simpa using e2
      rw [hu] at e1'
      rw [hu2] at e2'
      cases e1'
      cases e2'
      exact .cons ru (.cons ru2 .nil)
    · have e' : c = z ∨ c = TI ∨ c = TO ∨ c = i1 ∨ c = i2 := by simpa using hc
      rcases e' with q | q | q | q | q
      · rw [q]; exact ⟨_, sz⟩
      · rw [q]; exact ⟨_, sTI⟩
      · rw [q]; obtain ⟨_, _, e⟩ := sTO; exact ⟨_, e⟩
      · rw [q]; obtain ⟨o, ho, _⟩ := g1.ob; exact ⟨o, ho⟩
      · rw [q]; obtain ⟨o, ho, _⟩ := g2.ob; exact ⟨o, ho⟩
  done := by
    intro X hP hw hK hc i pins s σ H E I hf st hg
    subst hP hw hK
    obtain ⟨⟨hq, hq2⟩, hi⟩ := hg
    rw [zRows_len] at hi
    subst hi
    obtain ⟨its, rv, p, hz⟩ := inv_sq I hq
    obtain ⟨its2, rv2, p2, hz2⟩ := inv_sq I hq2
    have D1 := draws_sq (prog := X.prog) (w := X.w) (A := X.A.in1) (I.ok.hd hc) t i1 a h1 its.toArray
    have D2 := draws_sq (prog := X.prog) (w := X.w) (A := X.A.in1) (I.ok.hd hc) t' i2 b h2 its2.toArray
    have W := WalksT.zipD2 (A := X.A) S D1 D2
    have hn : min its.toArray.size its2.toArray.size = min xs.length ys.length := by simp [rv.length, rv2.length]
    rw [hn] at W
    obtain ⟨sz, sTI, sTO, g1, g2⟩ := st
    have hf' : ∀ c ∈ [z, TO, i1, i2], FpOk X pins H c := fun c hc => hf c (by simp at hc ⊢; rcases hc with h | h | h | h <;> simp [h])
    exact walk_end W I hf' ⟨sz, sTI, sTO, ⟨g1, p⟩, g2, p2⟩
  self := fun A i s Q E st h => wpAny_pyIter_zip st.1 h
theorem zs2 (n a b : Nat) (la : a < n) (lb : b < n) : ZipSep2 (n + 4) (n + 2) (n + 3) n (n + 1) [n, a] [n + 1, b] where
  TIz := fun (e : n + 2 = n + 4) => by omega
  TOz := fun (e : n + 3 = n + 4) => by omega
  TITO := fun (e : n + 2 = n + 3) => by omega
  TIi1 := fun (e : n + 2 = n) => by omega
  mem1 := by simp
  zf1 := fun h => by
    have h : n + 4 = n ∨ n + 4 = a := by simpa using h
    omega
  Tf1 := fun h => by
    have h : n + 3 = n ∨ n + 3 = a := by simpa using h
    omega
  TIi2 := fun (e : n + 2 = n + 1) => by omega
  mem2 := by simp
  zf2 := fun h => by
    have h : n + 4 = n + 1 ∨ n + 4 = b := by simpa using h
    omega
  Tf2 := fun h => by
    have h : n + 3 = n + 1 ∨ n + 3 = b := by simpa using h
    omega
  sep1_2 := fun h => by
    have h : n = n + 1 ∨ n = b := by simpa using h
    omega
  sep2_1 := fun h => by
    have h : n + 1 = n ∨ n + 1 = a := by simpa using h
    omega
theorem zs3 (n a b c : Nat) (la : a < n) (lb : b < n) (lc : c < n) : ZipSep3 (n + 5) (n + 3) (n + 4) n (n + 1) (n + 2) [n, a] [n + 1, b] [n + 2, c] where
  TIz := fun (e : n + 3 = n + 5) => by omega
  TOz := fun (e : n + 4 = n + 5) => by omega
  TITO := fun (e : n + 3 = n + 4) => by omega
  TIi1 := fun (e : n + 3 = n) => by omega
  mem1 := by simp
  zf1 := fun h => by
    have h : n + 5 = n ∨ n + 5 = a := by simpa using h
    omega
  Tf1 := fun h => by
    have h : n + 4 = n ∨ n + 4 = a := by simpa using h
    omega
  TIi2 := fun (e : n + 3 = n + 1) => by omega
  mem2 := by simp
  zf2 := fun h => by
    have h : n + 5 = n + 1 ∨ n + 5 = b := by simpa using h
    omega
  Tf2 := fun h => by
    have h : n + 4 = n + 1 ∨ n + 4 = b := by simpa using h
    omega
  TIi3 := fun (e : n + 3 = n + 2) => by omega
  mem3 := by simp
  zf3 := fun h => by
    have h : n + 5 = n + 2 ∨ n + 5 = c := by simpa using h
    omega
  Tf3 := fun h => by
    have h : n + 4 = n + 2 ∨ n + 4 = c := by simpa using h
    omega
  sep1_2 := fun h => by
    have h : n = n + 1 ∨ n = b := by simpa using h
    omega
  sep1_3 := fun h => by
    have h : n = n + 2 ∨ n = c := by simpa using h
    omega
  sep2_1 := fun h => by
    have h : n + 1 = n ∨ n + 1 = a := by simpa using h
    omega
  sep2_3 := fun h => by
    have h : n + 1 = n + 2 ∨ n + 1 = c := by simpa using h
    omega
  sep3_1 := fun h => by
    have h : n + 2 = n ∨ n + 2 = a := by simpa using h
    omega
  sep3_2 := fun h => by
    have h : n + 2 = n + 1 ∨ n + 2 = b := by simpa using h
    omega
def iZipG (K : PySem.W.Frag) (ta : TA) : TI := fun σ H R => ta σ H fun vs H1 => ∃ t t' a b xs ys, vs = [.ref a, .ref b] ∧ SqG t K H1 a xs ∧ SqG t' K H1 b ys ∧ (xs.length ≤ sizeLine → R (ItT (fun H => SqG t K H a xs ∧ SqG t' K H b ys) (zRows xs ys)) H1)
theorem pi_zipG {X : Cx} {e e2 : Expr} {ta : TA} {p pos tpos : Pos} {elts : List Expr} {kk : Nat} (hg : Gl X "zip") (hm : X.mg "zip" = none) (ha : PA X [e, e2] ta)
    (hs : starEach [e, e2] X.env = (false, eval e X.env) :: starEach [e2] X.env := by rfl) (hpl : (backTo pos (starEach [e2] X.env)).any (·.1) = false := by rfl) :
    PI X (.Tuple elts kk tpos) (.Call (.Name "zip" p) [e, e2] [] pos) (iZipG X.K ta) := by
  refine ⟨fun pins s σ H R I h => ?_⟩
  refine Call_ (ld_blt I hg hm PyProof.Rows.boot_zip (PyProof.Rows.callWith_type1 (thn (ha.run pos pins s σ H _ I h) fun us s1 ⟨vs, H1, I1, r1, q1⟩ => ?_) hs hpl))
  obtain ⟨t, t', a, b, xs, ys, ex, hqx, hqy, q⟩ := q1
  subst ex
  cases r1 with
  | cons r rr =>
    cases rr with
    | cons r' rr =>
      cases rr
      cases r
      cases r'
      obtain ⟨its, rv, p1, hlen⟩ := inv_sq I1 hqx
      obtain ⟨its2, rv2, p2, _⟩ := inv_sq I1 hqy
      have la : a < s1.heap.objs.size := isSq_lt p1
      have lb : b < s1.heap.objs.size := isSq_lt p2
      refine zip_begins2 (begins_sq t a its.toArray) (begins_sq t' b its2.toArray) p1 p2 fun h' hz hTI hTO g1 g2 hsz hk => wpAny_pyIter_zip hz ?_
      have I2 : Inv X pins σ H1 { s1 with heap := h' } := I1.kept (t' := s1.toks) hk
      refine ⟨s1.heap.objs.size + 4, [s1.heap.objs.size + 4, s1.heap.objs.size + 2, s1.heap.objs.size + 3, s1.heap.objs.size, s1.heap.objs.size + 1], _, _, H1, rfl, I2, turn_zipG t t' xs ys (zs2 _ a b la lb) (Nat.ne_of_lt la) (Nat.ne_of_lt (Nat.lt_succ_of_lt lb)), ⟨hz, hTI, ⟨_, _, hTO⟩, isIt_new g1, isIt_new g2⟩, fun c hcm => ?_, q hlen⟩
      have hle : s1.heap.objs.size ≤ c := by
        have e' : c = s1.heap.objs.size + 4 ∨ c = s1.heap.objs.size + 2 ∨ c = s1.heap.objs.size + 3 ∨ c = s1.heap.objs.size ∨ c = s1.heap.objs.size + 1 := by simpa using hcm
        rcases e' with z | z | z | z | z
        · rw [z]; exact Nat.le_add_right _ _
        · rw [z]; exact Nat.le_add_right _ _
        · rw [z]; exact Nat.le_add_right _ _
        · rw [z]; exact Nat.le_refl _
        · rw [z]; exact Nat.le_add_right _ _
      exact I1.fpOk hle (I1.hok.fresh hle)
/-! ### zip of three -/
def zRows3 : List V → List V → List V → List (List V)
  | x :: xs, y :: ys, z :: zs => [x, y, z] :: zRows3 xs ys zs
  | _, _, _ => []
theorem zRows3_len : ∀ (xs ys zs : List V), (zRows3 xs ys zs).length = min xs.length (min ys.length zs.length)
  | [], _, _ => by simp [zRows3]
  | _ :: _, [], _ => by simp [zRows3]
  | _ :: _, _ :: _, [] => by simp [zRows3]
  | x :: xs, y :: ys, z :: zs => by rw [zRows3, List.length_cons, zRows3_len, List.length_cons, List.length_cons, List.length_cons]; omega
theorem zRows3_get : ∀ (xs ys zs : List V) (i : Nat) (x y z : V), xs[i]? = some x → ys[i]? = some y → zs[i]? = some z → (zRows3 xs ys zs)[i]? = some [x, y, z]
  | [], _, _, _, _, _, _, h, _, _ => by simp at h
  | _ :: _, [], _, _, _, _, _, _, h, _ => by simp at h
  | _ :: _, _ :: _, [], _, _, _, _, _, _, h => by simp at h
  | _ :: _, _ :: _, _ :: _, 0, _, _, _, h, g, k => by simp at h g k; subst h g k; rfl
  | a :: xs, b :: ys, c :: zs, i + 1, x, y, z, h, g, k => by
    have := zRows3_get xs ys zs i x y z (by simpa using h) (by simpa using g) (by simpa using k)
    rw [zRows3, List.getElem?_cons_succ, this]
theorem turn_zipG3 {P : Program} {w : World} {K : PySem.W.Frag} {elts : List Expr} {kk : Nat} {tpos : Pos} (t t' t3 : Bool) {a b c3 z TI TO i1 i2 i3 : Addr} (xs ys zs : List V) (S : ZipSep3 z TI TO i1 i2 i3 [i1, a] [i2, b] [i3, c3]) (h1 : a ≠ i1) (h2 : b ≠ i2) (h3 : c3 ≠ i3) :
    Turn P w K (.Tuple elts kk tpos) (ItT (fun H => SqG t K H a xs ∧ SqG t' K H b ys ∧ SqG t3 K H c3 zs) (zRows3 xs ys zs)) [z, TI, TO, i1, i2, i3] z
      (fun i h => IsZip h z TI TO .none ∧ IsTupOf3 h TI (.ref i1) (.ref i2) (.ref i3) ∧ (∃ x y u, IsTupOf3 h TO x y u) ∧ IsIt t h i1 a i ∧ IsIt t' h i2 b i ∧ IsIt t3 h i3 c3 i) where
  mem := by simp
  obj := fun i h st c hc => by
    obtain ⟨hz, hTI, ⟨x, y, u, hTO⟩, g1, g2, g3⟩ := st
    have e' : c = z ∨ c = TI ∨ c = TO ∨ c = i1 ∨ c = i2 ∨ c = i3 := by simpa using hc
    rcases e' with q | q | q | q | q | q
    · rw [q]; exact ⟨_, hz, fun v q => nomatch q⟩
    · rw [q]; exact ⟨_, hTI, fun v q => nomatch q⟩
    · rw [q]; exact ⟨_, hTO, fun v q => nomatch q⟩
    · rw [q]; exact g1.ob
    · rw [q]; exact g2.ob
    · rw [q]; exact g3.ob
  keep := fun i h h' st k => by
    obtain ⟨hz, hTI, ⟨x, y, u, hTO⟩, g1, g2, g3⟩ := st
    exact ⟨k z (by simp) _ hz, k TI (by simp) _ hTI, ⟨x, y, u, k TO (by simp) _ hTO⟩, g1.at fun o q => k i1 (by simp) o q, g2.at fun o q => k i2 (by simp) o q, g3.at fun o q => k i3 (by simp) o q⟩
  item := by
    intro X hP hw hK hc i pins s σ H E I hf st hg
    subst hP hw hK
    obtain ⟨⟨hq, hq2, hq3⟩, hi⟩ := hg
    rw [zRows3_len] at hi
    obtain ⟨its, rv, p, hz⟩ := inv_sq I hq
    obtain ⟨its2, rv2, p2, hz2⟩ := inv_sq I hq2
    obtain ⟨its3, rv3, p3, hz3⟩ := inv_sq I hq3
    have hx : xs[i]? = some (xs[i]'(by omega)) := List.getElem?_eq_getElem (by omega)
    have hy : ys[i]? = some (ys[i]'(by omega)) := List.getElem?_eq_getElem (by omega)
    have hw : zs[i]? = some (zs[i]'(by omega)) := List.getElem?_eq_getElem (by omega)
    obtain ⟨u, hu, ru⟩ := rv.get hx
    obtain ⟨u2, hu2, ru2⟩ := rv2.get hy
    obtain ⟨u3, hu3, ru3⟩ := rv3.get hw
    have D1 := draws_sq (prog := X.prog) (w := X.w) (A := X.A.in1) (I.ok.hd hc) t i1 a h1 its.toArray
    have D2 := draws_sq (prog := X.prog) (w := X.w) (A := X.A.in1) (I.ok.hd hc) t' i2 b h2 its2.toArray
    have D3 := draws_sq (prog := X.prog) (w := X.w) (A := X.A.in1) (I.ok.hd hc) t3 i3 c3 h3 its3.toArray
    have W := WalksT.zipD3 (A := X.A) S D1 D2 D3
    obtain ⟨sz, sTI, sTO, g1, g2, g3⟩ := st
    have l1 := rv.length
    have l2 := rv2.length
    have l3 := rv3.length
    refine thn (turn_step W I (ff := [z, TI, TO, i1, i2, i3]) (fun c hc => by simp at hc ⊢; rcases hc with h | h | h | h | h <;> simp [h]) hf ⟨sz, sTI, sTO, ⟨g1, p⟩, ⟨g2, p2⟩, g3, p3⟩ (by simp; omega) (vs := [xs[i]'(by omega), ys[i]'(by omega), zs[i]'(by omega)]) (by show 3 ≤ sizeLine; decide) (fun vals hv => ?_) (fun c hc => ?_)) fun r s1 ⟨u', hu', q⟩ => ⟨u', hu', thn q fun _ s2 ⟨x, H', q1, q2, ⟨T, q3, q4, q5⟩, q6, q7⟩ => ⟨x, H', q1, q2, ⟨T, _, q3, zRows3_get xs ys zs i _ _ _ hx hy hw, q4, q5⟩, ⟨q6.1, q6.2.1, q6.2.2.1, q6.2.2.2.1.1, q6.2.2.2.2.1.1, q6.2.2.2.2.2.1⟩, q7⟩⟩
    · obtain ⟨x1, x2, x3, e1, e2, e3, rfl⟩ := hv
      have e1' : its[i]? = some x1 := by simpa using e1
      have e2' : its2[i]? = some x2 := by simpa using e2
      have e3' : its3[i]? = some x3 := by simpa using e3
      rw [hu] at e1'
      rw [hu2] at e2'
      rw [hu3] at e3'
      cases e1'
      cases e2'
      cases e3'
      exact .cons ru (.cons ru2 (.cons ru3 .nil))
    · have e' : c = z ∨ c = TI ∨ c = TO ∨ c = i1 ∨ c = i2 ∨ c = i3 := by simpa using hc
      rcases e' with q | q | q | q | q | q
      · rw [q]; exact ⟨_, sz⟩
      · rw [q]; exact ⟨_, sTI⟩
      · rw [q]; obtain ⟨_, _, _, e⟩ := sTO; exact ⟨_, e⟩
      · rw [q]; obtain ⟨o, ho, _⟩ := g1.ob; exact ⟨o, ho⟩
      · rw [q]; obtain ⟨o, ho, _⟩ := g2.ob; exact ⟨o, ho⟩
      · rw [q]; obtain ⟨o, ho, _⟩ := g3.ob; exact ⟨o, ho⟩
  done := by
    intro X hP hw hK hc i pins s σ H E I hf st hg
    subst hP hw hK
    obtain ⟨⟨hq, hq2, hq3⟩, hi⟩ := hg
    rw [zRows3_len] at hi
    subst hi
    obtain ⟨its, rv, p, hz⟩ := inv_sq I hq
    obtain ⟨its2, rv2, p2, hz2⟩ := inv_sq I hq2
    obtain ⟨its3, rv3, p3, hz3⟩ := inv_sq I hq3
    have D1 := draws_sq (prog := X.prog) (w := X.w) (A := X.A.in1) (I.ok.hd hc) t i1 a h1 its.toArray
    have D2 := draws_sq (prog := X.prog) (w := X.w) (A := X.A.in1) (I.ok.hd hc) t' i2 b h2 its2.toArray
    have D3 := draws_sq (prog := X.prog) (w := X.w) (A := X.A.in1) (I.ok.hd hc) t3 i3 c3 h3 its3.toArray
    have W := WalksT.zipD3 (A := X.A) S D1 D2 D3
    have hn : min (min its.toArray.size its2.toArray.size) its3.toArray.size = min xs.length (min ys.length zs.length) := by simp [rv.length, rv2.length, rv3.length, Nat.min_assoc]
    rw [hn] at W
    obtain ⟨sz, sTI, sTO, g1, g2, g3⟩ := st
    have hf' : ∀ c ∈ [z, TO, i1, i2, i3], FpOk X pins H c := fun c hc => hf c (by simp at hc ⊢; rcases hc with h | h | h | h | h <;> simp [h])
    exact walk_end W I hf' ⟨sz, sTI, sTO, ⟨g1, p⟩, ⟨g2, p2⟩, g3, p3⟩
  self := fun A i s Q E st h => wpAny_pyIter_zip st.1 h
def iZipG3 (K : PySem.W.Frag) (ta : TA) : TI := fun σ H R => ta σ H fun vs H1 => ∃ t t' t3 a b c xs ys zs, vs = [.ref a, .ref b, .ref c] ∧ SqG t K H1 a xs ∧ SqG t' K H1 b ys ∧ SqG t3 K H1 c zs ∧ (xs.length ≤ sizeLine → R (ItT (fun H => SqG t K H a xs ∧ SqG t' K H b ys ∧ SqG t3 K H c zs) (zRows3 xs ys zs)) H1)
theorem pi_zipG3 {X : Cx} {e e2 e3 : Expr} {ta : TA} {p pos tpos : Pos} {elts : List Expr} {kk : Nat} (hg : Gl X "zip") (hm : X.mg "zip" = none) (ha : PA X [e, e2, e3] ta)
    (hs : starEach [e, e2, e3] X.env = (false, eval e X.env) :: starEach [e2, e3] X.env := by rfl) (hpl : (backTo pos (starEach [e2, e3] X.env)).any (·.1) = false := by rfl) :
    PI X (.Tuple elts kk tpos) (.Call (.Name "zip" p) [e, e2, e3] [] pos) (iZipG3 X.K ta) := by
  refine ⟨fun pins s σ H R I h => ?_⟩
  refine Call_ (ld_blt I hg hm PyProof.Rows.boot_zip (PyProof.Rows.callWith_type1 (thn (ha.run pos pins s σ H _ I h) fun us s1 ⟨vs, H1, I1, r1, q1⟩ => ?_) hs hpl))
  obtain ⟨t, t', t3, a, b, c3, xs, ys, zs, ex, hqx, hqy, hqz, q⟩ := q1
  subst ex
  cases r1 with
  | cons r rr =>
    cases rr with
    | cons r' rr =>
      cases rr with
      | cons r'' rr =>
        cases rr
        cases r
        cases r'
        cases r''
        obtain ⟨its, rv, p1, hlen⟩ := inv_sq I1 hqx
        obtain ⟨its2, rv2, p2, _⟩ := inv_sq I1 hqy
        obtain ⟨its3, rv3, p3, _⟩ := inv_sq I1 hqz
        have la : a < s1.heap.objs.size := isSq_lt p1
        have lb : b < s1.heap.objs.size := isSq_lt p2
        have lc : c3 < s1.heap.objs.size := isSq_lt p3
        refine zip_begins3 (begins_sq t a its.toArray) (begins_sq t' b its2.toArray) (begins_sq t3 c3 its3.toArray) p1 p2 p3 fun h' hz hTI hTO g1 g2 g3 hsz hk => wpAny_pyIter_zip hz ?_
        have I2 : Inv X pins σ H1 { s1 with heap := h' } := I1.kept (t' := s1.toks) hk
        refine ⟨s1.heap.objs.size + 5, [s1.heap.objs.size + 5, s1.heap.objs.size + 3, s1.heap.objs.size + 4, s1.heap.objs.size, s1.heap.objs.size + 1, s1.heap.objs.size + 2], _, _, H1, rfl, I2, turn_zipG3 t t' t3 xs ys zs (zs3 _ a b c3 la lb lc) (Nat.ne_of_lt la) (Nat.ne_of_lt (Nat.lt_succ_of_lt lb)) (Nat.ne_of_lt (Nat.lt_succ_of_lt (Nat.lt_succ_of_lt lc))), ⟨hz, hTI, ⟨_, _, _, hTO⟩, isIt_new g1, isIt_new g2, isIt_new g3⟩, fun c hcm => ?_, q hlen⟩
        have hle : s1.heap.objs.size ≤ c := by
          have e' : c = s1.heap.objs.size + 5 ∨ c = s1.heap.objs.size + 3 ∨ c = s1.heap.objs.size + 4 ∨ c = s1.heap.objs.size ∨ c = s1.heap.objs.size + 1 ∨ c = s1.heap.objs.size + 2 := by simpa using hcm
          rcases e' with z | z | z | z | z | z
          · rw [z]; exact Nat.le_add_right _ _
          · rw [z]; exact Nat.le_add_right _ _
          · rw [z]; exact Nat.le_add_right _ _
          · rw [z]; exact Nat.le_refl _
          · rw [z]; exact Nat.le_add_right _ _
          · rw [z]; exact Nat.le_add_right _ _
        exact I1.fpOk hle (I1.hok.fresh hle)
/-! ### on data -/
def seqD : D → Option (List D)
  | .list ds => some ds
  | .tuple ds => some ds
  | _ => none
def enumD (i : Nat) : List D → List D
  | [] => []
  | x :: xs => .tuple [.int (i : Nat), x] :: enumD (i + 1) xs
def zipD : List D → List D → List D
  | x :: xs, y :: ys => .tuple [x, y] :: zipD xs ys
  | _, _ => []
def zipD3 : List D → List D → List D → List D
  | x :: xs, y :: ys, z :: zs => .tuple [x, y, z] :: zipD3 xs ys zs
  | _, _, _ => []
def enumE (f : M (List D)) : M (List D) := fun e => (f e).bind fun p => match p.1 with
  | [d] => (seqD d).map fun ds => (enumD 0 ds, p.2)
  | _ => none
def zipE2 (f : M (List D)) : M (List D) := fun e => (f e).bind fun p => match p.1 with
  | [d, d2] => (seqD d).bind fun ds => (seqD d2).map fun es => (zipD ds es, p.2)
  | _ => none
def zipE3 (f : M (List D)) : M (List D) := fun e => (f e).bind fun p => match p.1 with
  | [d, d2, d3] => (seqD d).bind fun ds => (seqD d2).bind fun es => (seqD d3).map fun gs => (zipD3 ds es gs, p.2)
  | _ => none
section
variable {K : PySem.W.Frag} {F H : Hp}
theorem sq_rep {v : V} {d : D} {ds : List D} (s : Ex F H) (r : Rep K F v d) (h : seqD d = some ds) : ∃ t a xs, v = .ref a ∧ SqG t K H a xs ∧ (∀ H, Ex F H → SqG t K H a xs) ∧ RepA K F xs ds := by
  cases r with
  | lst hs rs =>
    cases h
    exact ⟨false, _, _, rfl, ex_l s hs, fun H s => ex_l s hs, rs⟩
  | tup hs rs =>
    cases h
    exact ⟨true, _, _, rfl, ex_t s hs, fun H s => ex_t s hs, rs⟩
  | _ => cases h
theorem walkD_rows {G : Hp → Prop} {rows : List (List V)} {ds : List D} (hl : ds.length = rows.length) (hz : rows.length ≤ sizeLine) (hG : ∀ H, Ex F H → G H) (hr : ∀ (i : Nat) (vs : List V), rows[i]? = some vs → ∃ es, ds[i]? = some (PyData.tuple es) ∧ RepA K F vs es) : WalkD K F (ItT G rows) ds := by
  refine ⟨by rw [hl]; exact hz, G, fun i H v H' => ∃ T vs, v = .ref T ∧ rows[i]? = some vs ∧ H T = none ∧ H' = upd H T (.tup vs), ⟨fun i H hi g => ⟨g, by rw [← hl]; exact hi⟩, fun H g => ⟨g, hl⟩, fun i H x H' _ _ y => y⟩, hG, fun i Fc Hc v Hc' hi f s y => ?_⟩
  obtain ⟨T, vs, rfl, h1, h2, rfl⟩ := y
  obtain ⟨es, h3, h4⟩ := hr i vs h1
  have g : Grow Fc Hc (upd Fc T (.tup vs)) (upd Hc T (.tup vs)) := Grow.new s h2
  exact ⟨_, _, g, h3, .tup (SqT.of upd_same) (h4.mono (f.trans g.ff))⟩
theorem enumD_len : ∀ (ds : List D) (k : Nat), (enumD k ds).length = ds.length
  | [], _ => rfl
  | x :: xs, k => by rw [enumD, List.length_cons, List.length_cons, enumD_len]
theorem enum_rep : ∀ {xs : List V} {ds : List D} (k i : Nat) (vs : List V), RepA K F xs ds → (eRows k xs)[i]? = some vs → ∃ es, (enumD k ds)[i]? = some (.tuple es) ∧ RepA K F vs es
  | _, _, _, _, _, .nil, h => by simp [eRows] at h
  | _, _, k, 0, vs, .cons r rs, h => by
    simp [eRows] at h
    subst h
    exact ⟨_, rfl, .cons (.int _) (.cons r .nil)⟩
  | _, _, k, i + 1, vs, .cons r rs, h => by
    obtain ⟨es, h1, h2⟩ := enum_rep (k + 1) i vs rs (by simpa [eRows] using h)
    exact ⟨es, by simpa [enumD] using h1, h2⟩
theorem zipD_len : ∀ (ds es : List D), (zipD ds es).length = min ds.length es.length
  | [], _ => by simp [zipD]
  | _ :: _, [] => by simp [zipD]
  | x :: xs, y :: ys => by rw [zipD, List.length_cons, zipD_len, List.length_cons, List.length_cons]; omega
theorem zip_rep : ∀ {xs ys : List V} {ds es : List D} (i : Nat) (vs : List V), RepA K F xs ds → RepA K F ys es → (zRows xs ys)[i]? = some vs → ∃ gs, (zipD ds es)[i]? = some (.tuple gs) ∧ RepA K F vs gs
  | _, _, _, _, _, _, .nil, _, h => by simp [zRows] at h
  | _, _, _, _, _, _, .cons _ _, .nil, h => by simp [zRows] at h
  | _, _, _, _, 0, vs, .cons r _, .cons r' _, h => by
    simp [zRows] at h
    subst h
    exact ⟨_, rfl, .cons r (.cons r' .nil)⟩
  | _, _, _, _, i + 1, vs, .cons _ rs, .cons _ rs', h => by
    obtain ⟨es, h1, h2⟩ := zip_rep i vs rs rs' (by simpa [zRows] using h)
    exact ⟨es, by simpa [zipD] using h1, h2⟩
theorem zipD3_len : ∀ (ds es gs : List D), (zipD3 ds es gs).length = min ds.length (min es.length gs.length)
  | [], _, _ => by simp [zipD3]
  | _ :: _, [], _ => by simp [zipD3]
  | _ :: _, _ :: _, [] => by simp [zipD3]
  | x :: xs, y :: ys, z :: zs => by rw [zipD3, List.length_cons, zipD3_len, List.length_cons, List.length_cons, List.length_cons]; omega
theorem zip3_rep : ∀ {xs ys zs : List V} {ds es gs : List D} (i : Nat) (vs : List V), RepA K F xs ds → RepA K F ys es → RepA K F zs gs → (zRows3 xs ys zs)[i]? = some vs → ∃ qs, (zipD3 ds es gs)[i]? = some (.tuple qs) ∧ RepA K F vs qs
  | _, _, _, _, _, _, _, _, .nil, _, _, h => by simp [zRows3] at h
  | _, _, _, _, _, _, _, _, .cons _ _, .nil, _, h => by simp [zRows3] at h
  | _, _, _, _, _, _, _, _, .cons _ _, .cons _ _, .nil, h => by simp [zRows3] at h
  | _, _, _, _, _, _, 0, vs, .cons r _, .cons r' _, .cons r'' _, h => by
    simp [zRows3] at h
    subst h
    exact ⟨_, rfl, .cons r (.cons r' (.cons r'' .nil))⟩
  | _, _, _, _, _, _, i + 1, vs, .cons _ rs, .cons _ rs', .cons _ rs'', h => by
    obtain ⟨es, h1, h2⟩ := zip3_rep i vs rs rs' rs'' (by simpa [zRows3] using h)
    exact ⟨es, by simpa [zipD3] using h1, h2⟩
end
section
variable {ι : Type} {K : PySem.W.Frag} {X : ι → Cx} {a b c : Expr} {fa : M (List D)} {pos p tpos : Pos} {elts : List Expr} {kk : Nat}
theorem si_enum (hm : ∀ i, (X i).mg "enumerate" = none) (ha : SoA K X [a] fa) (hK : ∀ i, (X i).K = K := by intro _; rfl) (hg : ∀ i, Gl (X i) "enumerate" := by intro _; rfl) (hs : ∀ i, starEach [a] (X i).env = [(false, eval a (X i).env)] := by intro _; rfl) : SoI K X (.Tuple elts kk tpos) (.Call (.Name "enumerate" p) [a] [] pos) (enumE fa) := by
  obtain ⟨ta, pa, ha⟩ := ha
  refine ⟨iEnumG K ta, fun i => by have := pi_enumG (p := p) (pos := pos) (tpos := tpos) (elts := elts) (kk := kk) (hg i) (hm i) (pa i) (hs i); rw [hK i] at this; exact this, fun F H σ e ds e' rel hf R q => ?_⟩
  obtain ⟨⟨ds1, e1⟩, h1, hf⟩ := bind_some hf
  refine ha F H σ e ds1 e1 rel h1 _ fun vs F1 H1 p1 rv => ?_
  cases rv with
  | nil => cases hf
  | cons r rs =>
    cases rs with
    | cons _ _ => cases hf
    | nil =>
      obtain ⟨es, h2, h3⟩ := Option.map_eq_some_iff.mp hf
      cases h3
      obtain ⟨t, a', xs, rfl, hq, hG, ra⟩ := sq_rep p1.rel.sub r h2
      exact ⟨t, a', xs, rfl, hq, fun hz => q _ F1 H1 p1 (walkD_rows (by rw [enumD_len, eRows_len, ra.length]) (by rw [eRows_len]; exact hz) hG fun i vs h => enum_rep 0 i vs ra h)⟩
theorem si_zip2 (hm : ∀ i, (X i).mg "zip" = none) (ha : SoA K X [a, b] fa) (hK : ∀ i, (X i).K = K := by intro _; rfl) (hg : ∀ i, Gl (X i) "zip" := by intro _; rfl) (hs : ∀ i, starEach [a, b] (X i).env = (false, eval a (X i).env) :: starEach [b] (X i).env := by intro _; rfl)
    (hpl : ∀ i, (backTo pos (starEach [b] (X i).env)).any (·.1) = false := by intro _; rfl) : SoI K X (.Tuple elts kk tpos) (.Call (.Name "zip" p) [a, b] [] pos) (zipE2 fa) := by
  obtain ⟨ta, pa, ha⟩ := ha
  refine ⟨iZipG K ta, fun i => by have := pi_zipG (p := p) (pos := pos) (tpos := tpos) (elts := elts) (kk := kk) (hg i) (hm i) (pa i) (hs i) (hpl i); rw [hK i] at this; exact this, fun F H σ e ds e' rel hf R q => ?_⟩
  obtain ⟨⟨ds1, e1⟩, h1, hf⟩ := bind_some hf
  refine ha F H σ e ds1 e1 rel h1 _ fun vs F1 H1 p1 rv => ?_
  match ds1, rv, hf with
  | [], _, hf => cases hf
  | [_], _, hf => cases hf
  | _ :: _ :: _ :: _, _, hf => cases hf
  | [d, d2], .cons r (.cons r2 .nil), hf =>
    obtain ⟨es, h2, hf⟩ := bind_some hf
    obtain ⟨gs, h3, h4⟩ := Option.map_eq_some_iff.mp hf
    cases h4
    obtain ⟨t, a', xs, rfl, hq, hG, ra⟩ := sq_rep p1.rel.sub r h2
    obtain ⟨t', b', ys, rfl, hq', hG', rb⟩ := sq_rep p1.rel.sub r2 h3
    exact ⟨t, t', a', b', xs, ys, rfl, hq, hq', fun hz => q _ F1 H1 p1 (walkD_rows (by rw [zipD_len, zRows_len, ra.length, rb.length]) (by rw [zRows_len]; omega) (fun H s => ⟨hG H s, hG' H s⟩) fun i vs h => zip_rep i vs ra rb h)⟩
theorem si_zip3 (hm : ∀ i, (X i).mg "zip" = none) (ha : SoA K X [a, b, c] fa) (hK : ∀ i, (X i).K = K := by intro _; rfl) (hg : ∀ i, Gl (X i) "zip" := by intro _; rfl) (hs : ∀ i, starEach [a, b, c] (X i).env = (false, eval a (X i).env) :: starEach [b, c] (X i).env := by intro _; rfl)
    (hpl : ∀ i, (backTo pos (starEach [b, c] (X i).env)).any (·.1) = false := by intro _; rfl) : SoI K X (.Tuple elts kk tpos) (.Call (.Name "zip" p) [a, b, c] [] pos) (zipE3 fa) := by
  obtain ⟨ta, pa, ha⟩ := ha
  refine ⟨iZipG3 K ta, fun i => by have := pi_zipG3 (p := p) (pos := pos) (tpos := tpos) (elts := elts) (kk := kk) (hg i) (hm i) (pa i) (hs i) (hpl i); rw [hK i] at this; exact this, fun F H σ e ds e' rel hf R q => ?_⟩
  obtain ⟨⟨ds1, e1⟩, h1, hf⟩ := bind_some hf
  refine ha F H σ e ds1 e1 rel h1 _ fun vs F1 H1 p1 rv => ?_
  match ds1, rv, hf with
  | [], _, hf => cases hf
  | [_], _, hf => cases hf
  | [_, _], _, hf => cases hf
  | _ :: _ :: _ :: _ :: _, _, hf => cases hf
  | [d, d2, d3], .cons r (.cons r2 (.cons r3 .nil)), hf =>
    obtain ⟨es, h2, hf⟩ := bind_some hf
    obtain ⟨gs, h3, hf⟩ := bind_some hf
    obtain ⟨ks, h4, h5⟩ := Option.map_eq_some_iff.mp hf
    cases h5
    obtain ⟨t, a', xs, rfl, hq, hG, ra⟩ := sq_rep p1.rel.sub r h2
    obtain ⟨t', b', ys, rfl, hq', hG', rb⟩ := sq_rep p1.rel.sub r2 h3
    obtain ⟨t3, c', zs, rfl, hq3, hG3, rc⟩ := sq_rep p1.rel.sub r3 h4
    exact ⟨t, t', t3, a', b', c', xs, ys, zs, rfl, hq, hq', hq3, fun hz => q _ F1 H1 p1 (walkD_rows (by rw [zipD3_len, zRows3_len, ra.length, rb.length, rc.length]) (by rw [zRows3_len]; omega) (fun H s => ⟨hG H s, hG' H s, hG3 H s⟩) fun i vs h => zip3_rep i vs ra rb rc h)⟩
end
end Sl

set_option Elab.async false
set_option linter.all false
set_option maxRecDepth 100000
set_option maxHeartbeats 2000000
set_option autoImplicit false
/-! isinstance of one of two types, lists of ranges, the greatest and least of a list. -/
namespace Sl
open PySem PySem.Spec PyProof.Rows L2 Evl
def isi2D (T T2 : String) (d : D) : Option R := ((kitB (tyD d) T).bind fun b => if b = true then some true else kitB (tyD d) T2).map fun b => .v (.bool b)
def isiP (T T2 : String) (f : M R) : M R := fun e => (f e).bind fun p => (p.1.get p.2).bind fun d => (isi2D T T2 d).map fun r => (r, p.2)
def lr1D : D → Option R
  | .int j => if -(2 ^ 62) ≤ j ∧ j ≤ 16777216 then some (.n (.list (rngD 0 j.toNat))) else none
  | _ => none
def lr2D : D → D → Option R
  | .int i, .int j => if -(2 ^ 62) ≤ i ∧ i < 2 ^ 62 ∧ -(2 ^ 62) ≤ j ∧ j < 2 ^ 62 ∧ j - i ≤ 16777216 then some (.n (.list (rngD i (j - i).toNat))) else none
  | _, _ => none
def maxI : Int → List Int → Int
  | m, [] => m
  | m, n :: ns => maxI (if m < n then n else m) ns
def minI : Int → List Int → Int
  | m, [] => m
  | m, n :: ns => minI (if n < m then n else m) ns
def maxLD : List D → Option R
  | [.list ds] => match intsD ds with
    | some (n :: ns) => some (.v (.int (maxI n ns)))
    | _ => none
  | _ => none
def minLD : List D → Option R
  | [.list ds] => match intsD ds with
    | some (n :: ns) => some (.v (.int (minI n ns)))
    | _ => none
  | _ => none
theorem maxI_mem : ∀ (ns : List Int) (m : Int), maxI m ns ∈ m :: ns ∧ ∀ y ∈ m :: ns, y ≤ maxI m ns
  | [], m => ⟨by simp [maxI], by simp [maxI]⟩
  | n :: ns, m => by
    obtain ⟨h1, h2⟩ := maxI_mem ns (if m < n then n else m)
    rw [maxI]
    constructor
    · rcases List.mem_cons.mp h1 with h | h
      · rw [h]; split <;> simp
      · exact List.mem_cons_of_mem _ (List.mem_cons_of_mem _ h)
    · intro y hy
      have h3 := h2 _ (List.mem_cons_self ..)
      rcases List.mem_cons.mp hy with h | hy
      · subst h; split at h3 <;> split <;> omega
      · rcases List.mem_cons.mp hy with h | hy
        · subst h; split at h3 <;> split <;> omega
        · exact h2 y (List.mem_cons_of_mem _ hy)
theorem minI_mem : ∀ (ns : List Int) (m : Int), minI m ns ∈ m :: ns ∧ ∀ y ∈ m :: ns, minI m ns ≤ y
  | [], m => ⟨by simp [minI], by simp [minI]⟩
  | n :: ns, m => by
    obtain ⟨h1, h2⟩ := minI_mem ns (if n < m then n else m)
    rw [minI]
    constructor
    · rcases List.mem_cons.mp h1 with h | h
      · rw [h]; split <;> simp
      · exact List.mem_cons_of_mem _ (List.mem_cons_of_mem _ h)
    · intro y hy
      have h3 := h2 _ (List.mem_cons_self ..)
      rcases List.mem_cons.mp hy with h | hy
      · subst h; split at h3 <;> split <;> omega
      · rcases List.mem_cons.mp hy with h | hy
        · subst h; split at h3 <;> split <;> omega
        · exact h2 y (List.mem_cons_of_mem _ hy)
section
variable {K : PySem.W.Frag}
theorem l_maxL : CaL K (rMax K) maxLD := by
  intro F H vs ds res s hv ho Q q
  unfold maxLD at ho
  split at ho
  · rename_i es
    split at ho
    · rename_i n ns hn
      cases ho
      obtain ⟨v, rfl, h⟩ := vw1 hv
      obtain ⟨a, xs, rfl, hs, r⟩ := h.lst s
      have e := intsD_rep r hn
      subst e
      refine ⟨a, n :: ns, rfl, hs, by simp, fun m hm1 hm2 => ?_⟩
      obtain ⟨g1, g2⟩ := maxI_mem ns n
      have : m = maxI n ns := Int.le_antisymm (g2 _ hm1) (hm2 _ g1)
      subst this
      exact gr_v s q (.int _)
    · cases ho
  · cases ho
theorem l_minL : CaL K (rMin K) minLD := by
  intro F H vs ds res s hv ho Q q
  unfold minLD at ho
  split at ho
  · rename_i es
    split at ho
    · rename_i n ns hn
      cases ho
      obtain ⟨v, rfl, h⟩ := vw1 hv
      obtain ⟨a, xs, rfl, hs, r⟩ := h.lst s
      have e := intsD_rep r hn
      subst e
      refine ⟨a, n :: ns, rfl, hs, by simp, fun m hm1 hm2 => ?_⟩
      obtain ⟨g1, g2⟩ := minI_mem ns n
      have : m = minI n ns := Int.le_antisymm (hm2 _ g1) (g2 _ hm1)
      subst this
      exact gr_v s q (.int _)
    · cases ho
  · cases ho
theorem rgV_rep {F : Hp} (i : Int) (n : Nat) : RepA K F ((List.range n).map fun k => V.int (i + (k : Nat))) (rngD i n) := by
  unfold rngD
  induction (List.range n) with
  | nil => exact .nil
  | cons k ks ih => exact .cons (.int _) ih
end
section
variable {ι : Type} {K : PySem.W.Frag} {X : ι → Cx} {a b : Expr} {f g : M R} {fs : M (List R)} {pos p p2 p3 p4 : Pos} {x y : Str} {T T2 : String} {kk : Nat}
theorem so_max1 (hm : ∀ i, (X i).mg "max" = none) (ha : SoP K X [a] fs) (hK : ∀ i, (X i).K = K := by intro _; rfl) (hc : ∀ i, (X i).calm = true := by intro _; rfl) (hg : ∀ i, Gl (X i) "max" := by intro _; rfl) (he : ∀ i, starEach [a] (X i).env = (false, eval a (X i).env) :: starEach [] (X i).env := by intro _; rfl) : SoE K X (.Call (.Name "max" p) [a] [] pos) (blt maxLD fs) :=
  so_blt (fun i => by have := cr_max (X := X i) (hc i); rw [hK i] at this; exact this) l_maxL hm (by decide +kernel) ha hg (he := he)
theorem so_min1 (hm : ∀ i, (X i).mg "min" = none) (ha : SoP K X [a] fs) (hK : ∀ i, (X i).K = K := by intro _; rfl) (hc : ∀ i, (X i).calm = true := by intro _; rfl) (hg : ∀ i, Gl (X i) "min" := by intro _; rfl) (he : ∀ i, starEach [a] (X i).env = (false, eval a (X i).env) :: starEach [] (X i).env := by intro _; rfl) : SoE K X (.Call (.Name "min" p) [a] [] pos) (blt minLD fs) :=
  so_blt (fun i => by have := cr_min (X := X i) (hc i); rw [hK i] at this; exact this) l_minL hm (by decide +kernel) ha hg (he := he)
theorem so_listRg1 (hm : ∀ i, (X i).mg "list" = none) (hm2 : ∀ i, (X i).mg "range" = none) (ha : SoE K X a f) (hc : ∀ i, (X i).calm = true := by intro _; rfl) (hg : ∀ i, Gl (X i) "list" := by intro _; rfl) (hg2 : ∀ i, Gl (X i) "range" := by intro _; rfl)
    (na : ∀ i, starEach [a] (X i).env = (false, eval a (X i).env) :: starEach [] (X i).env := by intro _; rfl) (nb : ∀ i, starEach [.Call (.Name "range" p) [a] [] p2] (X i).env = (false, eval (.Call (.Name "range" p) [a] [] p2) (X i).env) :: starEach [] (X i).env := by intro _; rfl) :
    SoE K X (.Call (.Name "list" p3) [.Call (.Name "range" p) [a] [] p2] [] pos) (una lr1D f) := by
  obtain ⟨ta, pa, ha⟩ := ha
  refine ⟨tLstRg (tRg1 ta), fun i => pe_listRg (hc i) (hg i) (hm i) (prg_1 (hg2 i) (hm2 i) (pa i) (na i)) (nb i), fun F H σ e r e' rel hf Q q => ?_⟩
  obtain ⟨⟨r1, e1⟩, h1, hf⟩ := bind_some hf
  obtain ⟨d, h2, hf⟩ := bind_some hf
  obtain ⟨z, h3, h4⟩ := Option.map_eq_some_iff.mp hf
  cases h4
  cases d with
  | int j =>
    simp only [lr1D] at h3
    split at h3
    · rename_i hj
      cases h3
      refine ha F H σ e r1 e1 rel h1 _ fun v F1 H1 p1 rv => ⟨j, (p1.rel.view rv h2).int, ⟨by omega, by omega, hj.1, by omega, by omega⟩, ?_⟩
      refine gr_l p1.rel.sub (fun v F3 H3 gr rr => q v F3 H3 (p1.trans (gr.pst p1.rel)) (rr.wide p1.stp.dom)) ?_
      unfold rgV
      rw [Int.sub_zero]
      exact rgV_rep 0 _
    · cases h3
  | _ => cases h3
theorem so_listRg2 (hm : ∀ i, (X i).mg "list" = none) (hm2 : ∀ i, (X i).mg "range" = none) (ha : SoE K X a f) (hb : SoE K X b g) (hc : ∀ i, (X i).calm = true := by intro _; rfl) (hg : ∀ i, Gl (X i) "list" := by intro _; rfl) (hg2 : ∀ i, Gl (X i) "range" := by intro _; rfl)
    (na : ∀ i, starEach [a, b] (X i).env = (false, eval a (X i).env) :: starEach [b] (X i).env := by intro _; rfl) (nb : ∀ i, starEach [b] (X i).env = (false, eval b (X i).env) :: starEach [] (X i).env := by intro _; rfl) (hp : ∀ i, (backTo p2 (starEach [b] (X i).env)).any (·.1) = false := by intro _; rfl)
    (nc : ∀ i, starEach [.Call (.Name "range" p) [a, b] [] p2] (X i).env = (false, eval (.Call (.Name "range" p) [a, b] [] p2) (X i).env) :: starEach [] (X i).env := by intro _; rfl) :
    SoE K X (.Call (.Name "list" p3) [.Call (.Name "range" p) [a, b] [] p2] [] pos) (Sl.bin lr2D f g) := by
  obtain ⟨ta, pa, ha⟩ := ha
  obtain ⟨tb, pb, hb⟩ := hb
  refine ⟨tLstRg (tRg2 ta tb), fun i => pe_listRg (hc i) (hg i) (hm i) (prg_2 (hg2 i) (hm2 i) (pa i) (pb i) (na i) (nb i) (hp i)) (nc i), fun F H σ e r e' rel hf Q q => ?_⟩
  obtain ⟨⟨r1, e1⟩, h1, hf⟩ := bind_some hf
  obtain ⟨⟨r2, e2⟩, h2, hf⟩ := bind_some hf
  obtain ⟨d1, h3, hf⟩ := bind_some hf
  obtain ⟨d2, h4, hf⟩ := bind_some hf
  obtain ⟨z, h5, h6⟩ := Option.map_eq_some_iff.mp hf
  cases h6
  cases d1 with
  | int i =>
    cases d2 with
    | int j =>
      simp only [lr2D] at h5
      split at h5
      · rename_i hj
        cases h5
        refine ha F H σ e r1 e1 rel h1 _ fun v F1 H1 p1 rv => ?_
        refine hb F1 H1 σ e1 r2 e2 p1.rel h2 _ fun v2 F2 H2 p2 rv2 => ?_
        have rv' := RepR.step rel p1 p2 rv
        refine ⟨i, j, (p2.rel.view rv' h3).int, (p2.rel.view rv2 h4).int, ⟨hj.1, hj.2.1, hj.2.2.1, hj.2.2.2.1, by omega⟩, ?_⟩
        have p12 := p1.trans p2
        refine gr_l p12.rel.sub (fun v F3 H3 gr rr => q v F3 H3 (p12.trans (gr.pst p12.rel)) (rr.wide p12.stp.dom)) ?_
        exact rgV_rep i _
      · cases h5
    | _ => cases h5
  | _ => cases h5
theorem so_isi2 (hm : ∀ i, (X i).mg "isinstance" = none) (hmT : ∀ i, (X i).mg x = none) (hmT2 : ∀ i, (X i).mg y = none) (hv : bootBuiltins x = some (.type T)) (hv2 : bootBuiltins y = some (.type T2)) (ha : SoE K X a f) (hK : ∀ i, (X i).K = K := by intro _; rfl) (hg : ∀ i, Gl (X i) "isinstance" := by intro _; rfl) (hgT : ∀ i, Gl (X i) x := by intro _; rfl) (hgT2 : ∀ i, Gl (X i) y := by intro _; rfl)
    (he : ∀ i, starEach [a, .Tuple [.Name x p2, .Name y p3] kk p4] (X i).env = (false, eval a (X i).env) :: starEach [.Tuple [.Name x p2, .Name y p3] kk p4] (X i).env := by intro _; rfl)
    (he2 : ∀ i, starEach [.Name x p2, .Name y p3] (X i).env = (false, eval (.Name x p2) (X i).env) :: starEach [.Name y p3] (X i).env := by intro _; rfl)
    (hn : x ≠ "__name__" := by decide) (hd : (x == ("__debug__" : Str)) = false := by decide) (hn2 : y ≠ "__name__" := by decide) (hd2 : (y == ("__debug__" : Str)) = false := by decide) : SoE K X (.Call (.Name "isinstance" p) [a, .Tuple [.Name x p2, .Name y p3] kk p4] [] pos) (isiP T T2 f) := by
  obtain ⟨ta, pa, ha⟩ := ha
  refine ⟨tCB (rIsZT K) (tCons ta (tCons (tTup (tCons (tC (.ty T)) (tCons (tC (.ty T2)) tNil))) tNil)), fun i => ?_, fun F H σ e r e' rel hf Q q => ?_⟩
  · have pt := pe_tup (x1 := kk) (pos := p4) (pa_cons (pe_bltn (pos := p2) (v := .ty T) (hgT i) (hmT i) hv rfl hn hd) (pa_cons (pe_bltn (pos := p3) (v := .ty T2) (hgT2 i) (hmT2 i) hv2 rfl hn2 hd2) pa_nil (by rfl)) (he2 i))
    have := pe_callB (p := p) (pos := pos) (call_isZT (X := X i)) (hg i) (hm i) (by decide +kernel) (pa_cons (pa i) (pa_cons pt pa_nil (by rfl)) (he i)) (he := he i)
    rw [hK i] at this
    exact this
  · obtain ⟨⟨r1, e1⟩, h1, hf⟩ := bind_some hf
    obtain ⟨d, h2, hf⟩ := bind_some hf
    obtain ⟨z, h3, h4⟩ := Option.map_eq_some_iff.mp hf
    obtain ⟨b, h5, rfl⟩ := Option.map_eq_some_iff.mp h3
    cases h4
    refine ha F H σ e r1 e1 rel h1 _ fun v F1 H1 p1 rv => ?_
    refine ⟨by show 2 ≤ sizeLine; decide, fun tp hp => ?_⟩
    have gr : Grow F1 H1 F1 (upd H1 tp (.tup [.ty T, .ty T2])) := Grow.loose p1.rel.sub hp
    have p2 := p1.trans (gr.pst p1.rel)
    have rv2 := RepR.step rel p1 (gr.pst p1.rel) rv
    obtain ⟨t, h8, h9⟩ := tyZ_of p2.rel.sub (p2.rel.view rv2 h2)
    refine ⟨v, tp, [.ty T, .ty T2], t, [.type T, .type T2], b, rfl, upd_same, .cons (.ty T) (.cons (.ty T2) .nil), h8, ?_, q _ F1 _ p2 (.bl b)⟩
    obtain ⟨b1, h6, h7⟩ := bind_some h5
    refine kitAny_cons (h9 _ _ h6) (fun hb => ?_) (fun hb => ?_)
    · subst hb
      refine kitAny_cons (h9 _ _ h7) (fun hb2 => ?_) (fun hb2 => hb2)
      rw [hb2]
      exact kitAny_nil
    · subst hb
      cases h7
      rfl
end
end Sl

set_option Elab.async false
set_option linter.all false
set_option maxRecDepth 100000
set_option maxHeartbeats 2000000
set_option autoImplicit false
/-! dicts of int and text keys: displays, stores, .get. -/
namespace Sl
open PySem PySem.Spec PyProof.Rows L2 Evl
/-! ### stores -/
def setXD : D → D → D → Option D
  | .dict es, k, v => if keyB k = true ∧ es.length < sizeLine then some (.dict (dPut k v es)) else none
  | x, k, v => setLD x k v
def rSetX : V → V → V → Hp → (Hp → Prop) → Prop := fun o i v H Q => rSetL o i v H Q ∨ rSetD o i v H Q
theorem set_all {X : Cx} (hu : X.A.units + 1 < cLine) : PSet X rSetX := by
  intro pins s σ H o i v ov iv u Q I ro ri rv h
  rcases h with h | h
  · exact set_list pins s σ H o i v ov iv u Q I ro ri rv h
  · exact set_dict hu pins s σ H o i v ov iv u Q I ro ri rv h
theorem l_setX {K : PySem.W.Frag} : SeL K rSetX setXD := by
  intro F H a ob dx vi vv di dv dx' s ha ho hi hv h Q q
  by_cases hd : ∃ es, dx = .dict es
  · obtain ⟨es, rfl⟩ := hd
    simp only [setXD] at h
    split at h
    · rename_i hk
      cases h
      obtain ⟨kvs, rfl, r, n⟩ := ho.dict
      obtain ⟨k, rfl, rfl⟩ := hi.key hk.1
      exact .inr ⟨a, _, rfl, DPut.k ha (by rw [r.length]; exact hk.2), q _ (RepO.of_dict (r.put hv n) (putK_nodup n))⟩
    · cases h
  · have h1 : setLD dx di dv = some dx' := by
      cases dx <;> first | exact h | exact (hd ⟨_, rfl⟩).elim
    exact .inl (l_setL F H a ob dx vi vv di dv dx' s ha ho hi hv h1 Q q)
/-! ### methods, the arguments frozen -/
def methF (T : String) (o : D → List D → Option R) (f : M R) (g : M (List D)) : M R := fun e => (f e).bind fun p => (p.1.get p.2).bind fun d0 => if isT T d0 then (g p.2).bind fun q => (p.1.nf.get q.2).bind fun d => (o d q.1).map fun r => (r, q.2) else none
def MeF (K : PySem.W.Frag) (r : V → List V → Hp → VK → Prop) (o : D → List D → Option R) : Prop := ∀ (F H : Hp) (x : V) (dx : D) (vs : List V) (ds : List D) (res : R), Ex F H → View K F H x dx → RepA K F vs ds → o dx ds = some res →
  ∀ Q : VK, (∀ v F' H', Grow F H F' H' → RepR K F' H' H [] v res → Q v H') → r x vs H Q
section
variable {ι : Type} {K : PySem.W.Frag} {X : ι → Cx} {a ob b v : Expr} {es : List Expr} {f fo fi : M R} {fs : M (List D)} {pos apos p tpos : Pos} {x name : Str} {T id : String}
theorem so_methF {r : V → List V → Hp → VK → Prop} {o : D → List D → Option R} (pa : PlainAttrs T) (slot : PySem.Slot T name id) (hty : typeOf (.builtin id) = pure (.type "method_descriptor")) (hm : ∀ i, MtR (X i) id r) (l : MeF K r o)
    (ho : SoE K X ob f) (ha : SoA K X (a :: es) fs) (hK : ∀ i, (X i).K = K := by intro _; rfl)
    (hbase : ∀ i, attributeBase ob name (X i).env (eval ob (X i).env) = eval ob (X i).env := by intro _; rfl)
    (hfew : ∀ i, ((backTo pos (starEach (a :: es) (X i).env)).all (fun x => !x.1) && (backToKw pos (keywordEach [] (X i).env)).all (fun x => x.1.isSome)
      && decide ((a :: es).length + ([] : List Keyword).length + (if ([] : List Keyword).isEmpty then 0 else 1) < 30)) = true := by intro _; rfl)
    (hline : (apos.endLine == pos.line) = true := by rfl) (hs : ∀ i, starEach (a :: es) (X i).env = (false, eval a (X i).env) :: starEach es (X i).env := by intro _; rfl) (hplain : ∀ i, (backTo pos (starEach es (X i).env)).any (·.1) = false := by intro _; rfl) :
    SoE K X (.Call (.Attribute ob name apos) (a :: es) [] pos) (methF T o f fs) := by
  obtain ⟨to, po, ho⟩ := ho
  obtain ⟨ta, pargs, ha⟩ := ha
  refine ⟨tBM K T r to ta, fun i => by have := pe_bm pa slot hty (hm i) (po i) (pargs i) (hbase i) (hfew i) hline (hs i) (hplain i); rw [hK i] at this; exact this, fun F H σ e r e' rel hf Q q => ?_⟩
  obtain ⟨⟨r1, e1⟩, h1, hf⟩ := bind_some hf
  obtain ⟨d0, h2, hf⟩ := bind_some hf
  split at hf
  · rename_i hT
    obtain ⟨⟨ds, e2⟩, h3, hf⟩ := bind_some hf
    obtain ⟨d, h4, hf⟩ := bind_some hf
    obtain ⟨z, h6, h7⟩ := Option.map_eq_some_iff.mp hf
    cases h7
    refine ho F H σ e r1 e1 rel h1 _ fun v F1 H1 p1 rv => ?_
    obtain ⟨F1', p1', rv', _⟩ := rv.nf p1 rel
    refine ⟨isT_ok p1.rel.sub (p1.rel.view rv h2) hT, ha F1' H1 σ e1 ds e2 p1'.rel h3 _ fun vs F2 H2 p2 rw' => ?_⟩
    have pp := p1'.trans p2
    exact l F2 H2 v d vs ds _ pp.rel.sub (pp.rel.view (H := H) (rv'.stay (R.nf_still _) p2.stp.ff) h4) rw' h6 Q fun u F3 H3 gr rr => q u F3 H3 (pp.trans (gr.pst pp.rel)) (rr.wide pp.stp.dom)
  · cases hf
end
/-! ### .get -/
def dgetD : D → List D → Option R
  | .dict es, [k] => if keyB k = true ∧ nx es = true then some (.v ((dFind k es).getD .none)) else none
  | .dict es, [k, x] => if keyB k = true ∧ nx es = true then some (.v ((dFind k es).getD x)) else none
  | _, _ => none
def rDGetM : V → List V → Hp → VK → Prop := fun x xs H Q => ∃ a, x = .ref a ∧ ((∃ y o, xs = [y] ∧ DGet H a y o ∧ Q (o.getD .non) H) ∨ ∃ y z o, xs = [y, z] ∧ DGet H a y o ∧ Q (o.getD z) H)
theorem mt_dget {X : Cx} (hu : X.A.units + 1 < cLine) : MtR X "dict.get" rDGetM := by
  intro pins s σ H x xs v us Q I rx rs h
  obtain ⟨a, rfl, h⟩ := h
  cases (show v = Value.ref a from rx)
  rcases h with ⟨y, o, rfl, g, q⟩ | ⟨y, z, o, rfl, g, q⟩
  · obtain ⟨u, rfl, ru⟩ := Vals.one rs
    exact d_get1 hu I g ru fun w' s' I' rw' => ⟨_, H, I', rw', q⟩
  · obtain ⟨u, u2, rfl, ru, ru2⟩ := Vals.two rs
    exact d_get2 hu I g ru ru2 fun w' s' I' rw' => ⟨_, H, I', rw', q⟩
theorem l_dget {K : PySem.W.Frag} : MeF K rDGetM dgetD := by
  intro F H x dx vs ds res s hx hv ho Q q
  unfold dgetD at ho
  split at ho
  · split at ho
    · rename_i es k hk
      cases ho
      cases hv with
      | cons h hs =>
        cases hs
        obtain ⟨a, o, e1, e2, e3⟩ := dct_get s hx (.inl h) hk.1 hk.2
        refine ⟨a, e1, .inl ⟨_, o, rfl, e2, ?_⟩⟩
        cases z : dFind k es with
        | none => rw [z] at e3 q; rw [e3]; exact gr_v s q .non
        | some d => rw [z] at e3 q; obtain ⟨v, e5, e6⟩ := e3; rw [e5]; exact gr_v s q e6
    · cases ho
  · split at ho
    · rename_i es k x hk
      cases ho
      cases hv with
      | cons h hs =>
        cases hs with
        | cons h2 hs =>
          cases hs
          obtain ⟨a, o, e1, e2, e3⟩ := dct_get s hx (.inl h) hk.1 hk.2
          refine ⟨a, e1, .inr ⟨_, _, o, rfl, e2, ?_⟩⟩
          cases z : dFind k es with
          | none => rw [z] at e3 q; rw [e3]; exact gr_v s q h2
          | some d => rw [z] at e3 q; obtain ⟨v, e5, e6⟩ := e3; rw [e5]; exact gr_v s q e6
    · cases ho
  · cases ho
/-! ### displays -/
def dpairs : List D → Option (List (D × D))
  | [] => some []
  | k :: v :: r => if keyB k = true then (dpairs r).map fun es => (k, v) :: es else none
  | _ => none
def dctE (f : M (List D)) : M R := fun e => (f e).bind fun p => (dpairs p.1).bind fun es => if es.length ≤ 15 then some (.n (.dict (es.foldl (fun acc q => dPut q.1 q.2 acc) [])), p.2) else none
def PairR (K : PySem.W.Frag) (F : Hp) : List (V × V) → List D → Prop
  | [], [] => True
  | p :: ps, k :: d :: ds => Rep K F p.1 k ∧ Rep K F p.2 d ∧ PairR K F ps ds
  | _, _ => False
theorem PairR.mono {K : PySem.W.Frag} {F F' : Hp} (e : Ex F F') : ∀ {ps : List (V × V)} {ds : List D}, PairR K F ps ds → PairR K F' ps ds
  | [], [], _ => trivial
  | _ :: _, _ :: _ :: _, ⟨h1, h2, h3⟩ => ⟨h1.mono e, h2.mono e, h3.mono e⟩
theorem pairs_kv {K : PySem.W.Frag} {F : Hp} : ∀ {ps : List (V × V)} {ds : List D} {es : List (D × D)}, PairR K F ps ds → dpairs ds = some es → ∃ kvs : List (Key × V), ps = kvs.map (fun kv => (kV kv.1, kv.2)) ∧ KvR K F kvs es
  | [], [], _, _, h => by cases h; exact ⟨[], rfl, trivial⟩
  | (u, w) :: ps, k :: d :: ds, es, ⟨h1, h2, h3⟩, h => by
    unfold dpairs at h
    split at h
    · rename_i hk
      obtain ⟨es', h4, rfl⟩ := Option.map_eq_some_iff.mp h
      obtain ⟨kvs, rfl, h5⟩ := pairs_kv h3 h4
      obtain ⟨kk, rfl, e⟩ := View.key (H := F) (.inl h1) hk
      cases (show u = kV kk from e)
      exact ⟨(kk, w) :: kvs, rfl, rfl, h2, h5⟩
    · cases h
theorem merge_rep {K : PySem.W.Frag} {F : Hp} : ∀ {more : List (Key × V)} {es : List (D × D)} {kvs : List (Key × V)} {acc : List (D × D)}, KvR K F more es → KvR K F kvs acc → (kvs.map (·.1)).Nodup → KvR K F (mergeK kvs more) (es.foldl (fun acc q => dPut q.1 q.2 acc) acc) ∧ ((mergeK kvs more).map (·.1)).Nodup
  | [], [], _, _, _, h, n => ⟨h, n⟩
  | (k, v) :: more, (e, d) :: es, kvs, acc, ⟨h1, h2, h3⟩, h, n => by
    cases (show e = kD k from h1)
    show KvR K F (mergeK (putK kvs k v) more) (es.foldl (fun acc q => dPut q.1 q.2 acc) (dPut (kD k) d acc)) ∧ ((mergeK (putK kvs k v) more).map (·.1)).Nodup
    exact merge_rep (more := more) h3 (h.put h2 n) (putK_nodup n)
def SemD (K : PySem.W.Frag) (trs : List (TE × TE)) (f : M (List D)) : Prop := ∀ (F H : Hp) (σ : L2.St) (e : En) (ds : List D) (e' : En), RelE K F H σ e → f e = some (ds, e') →
  ∀ Q : List (V × V) → Hp → Prop, (∀ ps F' H', Pst K F H σ e F' H' e' → PairR K F' ps ds → Q ps H') → tPairs trs σ H Q
def SoD {ι : Type} (K : PySem.W.Frag) (X : ι → Cx) (pos : Pos) (ks : List (Option Expr)) (vs : List Expr) (f : M (List D)) : Prop := ∃ trs, (∀ i, PPs (X i) pos ks vs trs) ∧ SemD K trs f
section
variable {ι : Type} {K : PySem.W.Frag} {X : ι → Cx} {a b v k : Expr} {ks : List (Option Expr)} {vs es : List Expr} {f g fo fi : M R} {fs : M (List D)} {pos apos p tpos : Pos}
theorem so_d0 : SoD K X pos [] [] nilA := ⟨[], fun _ => pps_nil, fun F H σ e ds e' rel hf Q q => by
  cases hf
  exact q [] F H (.refl rel) trivial⟩
theorem so_d1 (hk : SoE K X k f) (hv : SoE K X v g) (hr : SoD K X pos ks vs fs) : SoD K X pos (some k :: ks) (v :: vs) (consA f (consA g fs)) := by
  obtain ⟨tk, pk, hk⟩ := hk
  obtain ⟨tv, pv, hv⟩ := hv
  obtain ⟨trs, pr, hr⟩ := hr
  refine ⟨(tk, tv) :: trs, fun i => pps_cons (pk i) (pv i) (pr i), fun F H σ e ds e' rel hf Q q => ?_⟩
  obtain ⟨⟨r1, e1⟩, h1, hf⟩ := bind_some hf
  obtain ⟨⟨d, e2⟩, h2, hf⟩ := bind_some hf
  obtain ⟨⟨ds', e3⟩, h3, hf⟩ := bind_some hf
  cases hf
  obtain ⟨⟨r2, e4⟩, h4, h3⟩ := bind_some h3
  obtain ⟨⟨d2, e5⟩, h5, h3⟩ := bind_some h3
  obtain ⟨⟨ds2, e6⟩, h6, h3⟩ := bind_some h3
  cases h3
  refine hk F H σ e r1 e1 rel h1 _ fun v F1 H1 p1 rv => ?_
  obtain ⟨F2, p2, rd, _⟩ := frz_ok p1 rel rv h2
  refine hv F2 H1 σ e2 r2 e4 p2.rel h4 _ fun v2 F3 H3 p3 rv2 => ?_
  obtain ⟨F4, p4, rd2, _⟩ := frz_ok p3 p2.rel rv2 h5
  have p24 := p2.trans p4
  exact hr F4 H3 σ e5 ds2 e6 p24.rel h6 _ fun ps F5 H5 p5 rs => q _ F5 H5 (p24.trans p5) ⟨(rd.mono p4.stp.ff).mono p5.stp.ff, rd2.mono p5.stp.ff, rs⟩
theorem so_dict0 : SoE K X (.Dict [] [] pos) (dctE nilA) := by
  refine ⟨tDNewK, fun i => pe_dnewK, fun F H σ e r e' rel hf Q q => ?_⟩
  cases hf
  intro p hp
  have gr : Grow F H F (upd H p (.dK [])) := Grow.loose rel.sub hp
  exact q _ _ _ (gr.pst rel) ⟨p, _, rfl, hp, fresh_back rel.sub hp, upd_same, RepO.of_dict (kvs := []) trivial List.nodup_nil⟩
theorem so_dict (hd : SoD K X pos (some a :: ks) (b :: vs) fs) (hall : (some a :: ks).all (·.isSome) = true := by rfl) (hl : (some a :: ks).length = (b :: vs).length := by rfl) (h15 : (some a :: ks).length ≤ 15 := by decide) : SoE K X (.Dict (some a :: ks) (b :: vs) pos) (dctE fs) := by
  obtain ⟨trs, pr, hd⟩ := hd
  refine ⟨tDisp trs, fun i => pe_disp (pr i) hall hl (by simp) h15, fun F H σ e r e' rel hf Q q => ?_⟩
  obtain ⟨⟨ds, e1⟩, h1, hf⟩ := bind_some hf
  obtain ⟨es, h2, hf⟩ := bind_some hf
  split at hf
  · rename_i h3
    cases hf
    intro p hp
    have gr : Grow F H F (upd H p (.dK [])) := Grow.loose rel.sub hp
    have p0 := gr.pst rel
    have nO : ¬ Own σ e p := rel.newNot hp
    have hF : F p = none := fresh_back rel.sub hp
    refine hd F _ σ e ds _ p0.rel h1 _ fun ps F1 H1 p1 rs => ?_
    have hp1 : H1 p = some (.dK []) := p1.stp.hh p _ upd_same nO
    obtain ⟨kvs, rfl, kv⟩ := pairs_kv rs h2
    refine ⟨hp1, kvs, rfl, by rw [kv.length]; exact h3, ?_⟩
    obtain ⟨m1, m2⟩ := merge_rep kv (kvs := []) (acc := []) trivial List.nodup_nil
    have hF1 : F1 p = none := (p1.stp.old p (by rw [upd_same]; simp) nO).trans hF
    refine q _ F1 _ ⟨⟨p1.stp.ff, fun a o ha hn => ?_, fun a ha hn => ?_, fun a ha => ?_⟩, ⟨p1.rel.len, fun a u ha => ?_, p1.rel.fz, fun i s h q => ?_, p1.rel.ds⟩, p1.shp⟩ ⟨p, _, rfl, hp, hF1, upd_same, RepO.of_dict m1 m2⟩
    · have ne : a ≠ p := fun e => by subst e; rw [hp] at ha; cases ha
      rw [upd_ne ne]
      exact p1.stp.hh a o (by rw [upd_ne ne]; exact ha) hn
    · have ne : a ≠ p := fun e => by subst e; exact ha hp
      exact p1.stp.old a (by rw [upd_ne ne]; exact ha) hn
    · have ne : a ≠ p := fun e => by subst e; exact ha hp
      rw [upd_ne ne]
      exact p1.stp.dom a (by rw [upd_ne ne]; exact ha)
    · have ne : a ≠ p := fun e => by subst e; rw [hF1] at ha; cases ha
      rw [upd_ne ne]
      exact p1.rel.sub a u ha
    · obtain ⟨a, o, z1, z2, z3, z4⟩ := p1.rel.ow i s h q
      have ne : a ≠ p := fun e => by
        subst e
        exact nO (p1.shp.sub a ⟨i, s, h, q, z1⟩)
      exact ⟨a, o, z1, z2, by rw [upd_ne ne]; exact z3, z4⟩
  · cases hf
theorem so_setX (hu : HU X) (hv : SoE K X v f) (ho : SoE K X a fo) (hi : SoE K X b fi)
    (ha : ∀ i v, assign (.Subscript a b tpos) (X i).env v = (do
      let ov ← holding [v] (eval a (X i).env)
      let iv ← holding [v, ov] (eval b (X i).env)
      standAt tpos
      holding [v, ov, iv] (setItem ov iv v)
      release [v, ov, iv] []) := by intro _ _; rfl) (hs : ∀ i, swapsWithSole [.Subscript a b tpos] v pos.line (X i).env = pure false := by intro _; rfl) (hw : ∀ i, swappedStores [.Subscript a b tpos] v (X i).env = pure none := by intro _; rfl)
    (h1 : ∀ i, (assignEach [.Subscript a b tpos] (X i).env).map (·.2) = [assign (.Subscript a b tpos) (X i).env] := by intro _; rfl) : SoS K X (.Assign [.Subscript a b tpos] v pos) (setS setXD f fo fi) := so_setS (fun i => set_all (by have := hu i; omega)) l_setX hv ho hi ha hs hw h1
theorem so_dget (hu : HU X) (ho : SoE K X b f) (ha : SoA K X (a :: es) fs) (hK : ∀ i, (X i).K = K := by intro _; rfl)
    (hbase : ∀ i, attributeBase b "get" (X i).env (eval b (X i).env) = eval b (X i).env := by intro _; rfl)
    (hfew : ∀ i, ((backTo pos (starEach (a :: es) (X i).env)).all (fun x => !x.1) && (backToKw pos (keywordEach [] (X i).env)).all (fun x => x.1.isSome)
      && decide ((a :: es).length + ([] : List Keyword).length + (if ([] : List Keyword).isEmpty then 0 else 1) < 30)) = true := by intro _; rfl)
    (hline : (apos.endLine == pos.line) = true := by rfl) (hs : ∀ i, starEach (a :: es) (X i).env = (false, eval a (X i).env) :: starEach es (X i).env := by intro _; rfl) (hplain : ∀ i, (backTo pos (starEach es (X i).env)).any (·.1) = false := by intro _; rfl) :
    SoE K X (.Call (.Attribute b "get" apos) (a :: es) [] pos) (methF "dict" dgetD f fs) :=
  so_methF PySem.F.plainAttrs_dict PySem.F.slot_dict_get PySem.F.type_dict_get (fun i => mt_dget (by have := hu i; omega)) l_dget ho ha hK hbase hfew hline hs hplain
end
end Sl

set_option Elab.async false
set_option linter.all false
set_option maxRecDepth 100000
set_option maxHeartbeats 4000000
set_option autoImplicit false
/-! sorted(set(xs)) and len(set(xs)), xs a list of whole numbers. -/
namespace Sl
open PySem PySem.Spec PyProof.Rows L2 Evl
/-! ### rising lists -/
def insS (n : Int) : List Int → List Int
  | [] => [n]
  | m :: r => if n < m then n :: m :: r else if n = m then m :: r else m :: insS n r
def setSort (ns : List Int) : List Int := ns.foldr insS []
theorem mem_insS {n k : Int} : ∀ {l : List Int}, k ∈ insS n l ↔ k = n ∨ k ∈ l
  | [] => by simp [insS]
  | m :: r => by
    unfold insS
    split
    · simp
    · split
      · rename_i h
        subst h
        simp
      · rw [List.mem_cons, mem_insS, List.mem_cons]
        constructor
        · rintro (h | h | h)
          · exact .inr (.inl h)
          · exact .inl h
          · exact .inr (.inr h)
        · rintro (h | h | h)
          · exact .inr (.inl h)
          · exact .inl h
          · exact .inr (.inr h)
theorem mem_setSort {k : Int} : ∀ {ns : List Int}, k ∈ setSort ns ↔ k ∈ ns
  | [] => by simp [setSort]
  | n :: ns => by
    show k ∈ insS n (setSort ns) ↔ _
    rw [mem_insS, mem_setSort, List.mem_cons]
theorem insS_up {n : Int} : ∀ {l : List Int}, l.Pairwise (· < ·) → (insS n l).Pairwise (· < ·)
  | [], _ => by simp [insS]
  | m :: r, h => by
    obtain ⟨h1, h2⟩ := List.pairwise_cons.mp h
    unfold insS
    split
    · rename_i hn
      refine List.pairwise_cons.mpr ⟨fun y hy => ?_, h⟩
      rcases List.mem_cons.mp hy with e | hy
      · rw [e]; exact hn
      · exact Int.lt_trans hn (h1 y hy)
    · split
      · exact h
      · refine List.pairwise_cons.mpr ⟨fun y hy => ?_, insS_up h2⟩
        rcases mem_insS.mp hy with e | hy
        · omega
        · exact h1 y hy
theorem setSort_up : ∀ ns : List Int, (setSort ns).Pairwise (· < ·)
  | [] => List.Pairwise.nil
  | n :: ns => insS_up (setSort_up ns)
/-- rising lists with the same members are the same -/
theorem up_uniq : ∀ {a b : List Int}, a.Pairwise (· < ·) → b.Pairwise (· < ·) → (∀ k, k ∈ a ↔ k ∈ b) → a = b
  | [], [], _, _, _ => rfl
  | [], y :: b, _, _, h => by have := (h y).mpr (by simp); simp at this
  | x :: a, [], _, _, h => by have := (h x).mp (by simp); simp at this
  | x :: a, y :: b, ha, hb, h => by
    obtain ⟨a1, a2⟩ := List.pairwise_cons.mp ha
    obtain ⟨b1, b2⟩ := List.pairwise_cons.mp hb
    have e : x = y := by
      rcases List.mem_cons.mp ((h x).mp (by simp)) with e | m
      · exact e
      · rcases List.mem_cons.mp ((h y).mpr (by simp)) with e | m2
        · exact e.symm
        · have := b1 x m
          have := a1 y m2
          omega
    subst e
    have t : a = b := up_uniq a2 b2 fun k => by
      constructor
      · intro m
        have lt := a1 k m
        rcases List.mem_cons.mp ((h k).mp (List.mem_cons_of_mem _ m)) with e | m2
        · omega
        · exact m2
      · intro m
        have lt := b1 k m
        rcases List.mem_cons.mp ((h k).mpr (List.mem_cons_of_mem _ m)) with e | m2
        · omega
        · exact m2
    rw [t]
/-! ### set(xs) of a list of ints -/
section
variable {P : Program} {w : World} {A : Around} {E : Value → Shared → Prop} {s : Shared}
abbrev setOb (w : World) : Obj := { cls := .type "set", dict := none, data := .set #[] 0 (.fresh 0 0 (!w.params.followText "set-order")) }
theorem call_setL {l : Addr} {items : Array Value} (ns : List Int) {Q : Value → Shared → Prop} (hh : A.handled = none) (hl : s.heap.IsList l items) (hit : IntsAre items.toList ns) (hb : ns.length + 1 < scanBound)
    (h : ∀ (h' : Heap) (tk c : Nat), SetR w h' s.heap.objs.size (fun j => decide (j ∈ ns)) c → c ≤ ns.length → (∀ b o, s.heap.get? b = some o → h'.get? b = some o) → Q (.ref s.heap.objs.size) { s with heap := h', toks := tk }) :
    wpAny (model P w) A (call (.type "set") [.ref l]) Q E s := by
  have hisz : items.size = ns.length := by
    have q := IntsAre.length hit
    rwa [Array.length_toList] at q
  obtain ⟨c, tl, hmro⟩ := F.called_set.mro
  have hmade := F.called_set.made
  have hsub := F.called_set.sub
  refine wpAny_call (codeAny_of_tree ?_)
  show wpAny _ _ (callAny (.type "set") _) _ _ _
  refine wpAny_pure ⟨Code.quiet_builtin _ (by decide +kernel), codeAny_builtin F.entry_type_call ?_⟩
  rw [Around.under_plain (weight_type_call_type "set" [.ref l] []) rfl]
  have h1 := F.called_set.notType
  have h2 := F.called_set.canCreate
  have hct := F.typeCall_set_1 (.ref l)
  repeat (any_goals (first | assumption | wp_step))
  refine codeAny_mono (code_set_led1 (.ref l) (E := E) (Q₁ := fun obj s₁ => obj = .ref s.heap.objs.size ∧ s₁ = { s with heap := s.heap.push (setOb w) }) ⟨rfl, rfl⟩) fun r s₁ hr => ?_
  cases r with
  | error e => exact hr
  | ok fl =>
    cases fl with
    | ret obj =>
      obtain ⟨rfl, rfl⟩ := hr
      have hS : (s.heap.push (setOb w)).get? s.heap.objs.size = some (setOb w) := Heap.get?_push_size _ rfl
      have hT : Shared.TypeIs { s with heap := s.heap.push (setOb w) } (.ref s.heap.objs.size) "set" := ⟨_, hS, rfl⟩
      have hli := F.called_set.init.lookup
      have hbi := F.called_set.init.bind (.ref s.heap.objs.size)
      repeat (any_goals (first | assumption | wp_step))
      refine codeAny_mono (codeAny_call_builtin (R := wants (fun r s₂ => r = .none ∧ ∃ h' tk c, s₂ = { s with heap := h', toks := tk } ∧ SetR w h' s.heap.objs.size (fun j => decide (j ∈ ns)) c ∧ c ≤ ns.length ∧
          (∀ b o, s.heap.get? b = some o → h'.get? b = some o)) E) F.called_set.init.plain F.entry_set_init (check_set_init_1 hT ?_)) fun r₂ s₂ hr₂ => ?_
      · obtain ⟨ol, hol, hcl, nl, hdl⟩ := hl
        obtain ⟨ocls, odict, odata, oslots⟩ := ol
        simp only at hcl hdl
        subst hcl; subst hdl
        have hol' : (s.heap.push (setOb w)).get? l = some { cls := .type "list", dict := odict, data := .seq items nl, slots := oslots } := Heap.get?_push_of_some _ hol
        have hsls := F.sub_list_set
        have hslf := F.sub_list_frozenset
        have hne : (Value.type "list" == Value.type "dict") = false := by decide
        have hl1 : (s.heap.push (setOb w)).IsList l items := ⟨_, hol', rfl, nl, rfl⟩
        unfold Builtin.«set.__init__» noKeywords Builtin.Frozenset.updateFrom
        generalize hPI : pyIter = PI
        wp_walk
        subst hPI
        refine wpAny_pyIter_list hl1 ?_
        refine wpAny_bind (wpAny_runValue ?_)
        have hlS : l < s.heap.objs.size := Heap.lt_size hol
        have hh3 : A.in1.in1.in1.handled = none := by simp [hh]
        have hneI : l ≠ (s.heap.push (setOb w)).objs.size := by
          rw [Heap.size_push]; exact Nat.ne_of_lt (Nat.lt_succ_of_lt hlS)
        have hSf : s.heap.objs.size ∉ [(s.heap.push (setOb w)).objs.size, l] := by
          rw [Heap.size_push]; simp only [List.mem_cons, List.mem_singleton, List.not_mem_nil, or_false, not_or]
          exact ⟨Nat.ne_of_lt (Nat.lt_succ_self _), Nat.ne_of_gt hlS⟩
        have hval : ∀ (i : Nat) (v : Value), items[i]? = some v → ∃ k t, ns[i]? = some k ∧ v = .int k t := fun i v hv => by
          have hi : i < ns.length := by rw [← hisz]; exact (Array.getElem?_eq_some_iff.mp hv).1
          obtain ⟨t, e⟩ := PyProof.Rows.IntsAre.int_at hit i v (by rw [Array.getElem?_toList]; exact hv)
          refine ⟨ns[i], t, List.getElem?_eq_getElem hi, ?_⟩
          rw [e, List.getD_eq_getElem?_getD, List.getElem?_eq_getElem hi] <;> rfl
        refine set_update_ints ((Walks.list hh3 _ l hneI items).toS) s.heap.objs.size
          hSf ns hisz hb hval (items.size - 0) 0 _ (by omega) (Nat.zero_le _)
          ⟨⟨_, Heap.get?_push_size _ rfl, rfl, rfl⟩, (hl1.push _)⟩ ?hS0 ?hR
        case hS0 => exact ⟨0, Nat.le_refl 0, setR_new_at (Heap.get?_push_of_some _ hS)⟩
        case hR =>
          intro s' c' hm hc' hS'
          obtain ⟨h', g2, d', tk', os'⟩ := s'
          have eg : g2 = s.gens := hm.gens
          have ed : d' = s.drawn := hm.drawn
          have eo : os' = s.os := hm.os
          subst eg; subst ed; subst eo
          show wpAny _ _ _ _ _ _
          refine wpAny_pure ?_
          show wpAny _ _ (PySem.ret Value.none) _ _ _
          rw [hisz] at hc'
          refine wpAny_pure ⟨rfl, h', tk', c', rfl, hS', hc', fun b o e => ?_⟩
          have hb0 : b < s.heap.objs.size := Heap.lt_size e
          have hb2 : b ≠ (s.heap.push (setOb w)).objs.size := by
            rw [Heap.size_push]; exact Nat.ne_of_lt (Nat.lt_succ_of_lt hb0)
          exact hm.heap b o (by simp only [List.mem_cons, List.mem_singleton, List.not_mem_nil, or_false, not_or]; exact ⟨Nat.ne_of_lt hb0, hb2⟩) (Heap.get?_push_of_some _ (Heap.get?_push_of_some _ e))
      · cases r₂ with
        | error e => exact hr₂
        | ok fl₂ =>
          cases fl₂ with
          | ret r =>
            obtain ⟨rfl, h', tk, c', rfl, hS', hc', hk'⟩ := hr₂
            repeat (any_goals (first | assumption | wp_step))
            exact h _ _ _ hS' hc' hk'
          | _ => exact hr₂.elim
    | _ => exact hr.elim
end
/-! ### sorted of such a set -/
theorem sorted_setI {P : Program} {w : World} {A : Around} {E : Value → Shared → Prop} {s : Shared} {a : Addr} {S : Int → Bool} {n : Nat} {Q : Value → Shared → Prop} (R : SetR w s.heap a S n) (hh : A.handled = none)
    (hQ : ∀ s' p (out : Array Value) (c : Nat) (ns : List Int), (∀ b o, s.heap.get? b = some o → s'.heap.get? b = some o) → s'.gens = s.gens → s'.os = s.os → s.heap.objs.size ≤ p →
      s'.heap.get? p = some (seqObj "list" out c) → IntsAre out.toList ns → ns.Pairwise (· < ·) → (∀ k, k ∈ ns ↔ S k = true) → ns.length ≤ sizeLine → Q (.ref p) s') :
    wpAny (model P w) A (call (.builtin "sorted") [.ref a]) Q E s := by
  obtain ⟨o, es, ep, t, ho, hex, hd, g, nd, hm, hb, hf, hn, hr, hl⟩ := R
  refine Calls.call_function_entry kind_sorted plain_sorted entry_sorted (args_sorted1 _) ?_
  unfold Builtin.«sorted»
  refine wpAny_bind (m := checkCount "sorted" 1 1 _) (wpAny_pure ?_)
  refine wpAny_bind (collect_set (A := A.in1) hh ⟨o, ho, hex.1, hd⟩ hf hb hr hl fun s1 vs k1 hz g1 o1 pm => ?_)
  have hvl : vs.length < scanBound := by rw [pm.length_eq, List.length_map, Array.length_toList]; exact hb
  have hvz : vs.length ≤ sizeLine := fits_of_scanBound hvl
  have hI : IntsAre vs (vs.map Builtin.Re.reRawOf) := ints_of vs fun v hv => by
    obtain ⟨e, he, q⟩ := List.mem_map.mp (pm.mem_iff.mp hv)
    obtain ⟨k, tk, h1, _⟩ := g e he
    exact ⟨k, tk, by rw [← q]; exact h1⟩
  have pk : (vs.map Builtin.Re.reRawOf).Perm (es.toList.map keyOf) := by
    have q := pm.map Builtin.Re.reRawOf
    rw [List.map_map] at q
    exact q
  refine wpAny_bind (wpAny_newList ?_ hvz)
  have hoL : (s1.heap.push (seqObj "list" vs.toArray 0)).get? s1.heap.objs.size = some (seqObj "list" vs.toArray 0) := Heap.get?_push_size _ rfl
  refine wpAny_bind (wpAny_holding (wpAny_call_entry slot_list_sort ⟨_, hoL, rfl⟩ entry_list_sort (SrtO.list_sort_ord SrtO.swo_int hoL hvz (fun h2 => SrtO.ints_sortable hI h2) fun out s1' s2' => ⟨_, rfl, ?_⟩) (args_list_sort _)))
  obtain ⟨q1, q2, q3⟩ := SrtO.ints_out hI s1' s2'
  obtain ⟨c, hc⟩ := sortedHeap_at (vs := vs) (out := out.toArray) hoL
  have pn : (out.map SrtO.iv).Perm (es.toList.map keyOf) := q2.trans pk
  refine wpAny_pure ⟨_, rfl, hQ _ s1.heap.objs.size out.toArray c (out.map SrtO.iv) (fun b u e => ?_) g1 o1 hz hc q1 (lt_of_le_nodup _ q3 (pn.nodup_iff.mpr nd)) (fun k => by rw [pn.mem_iff, ← hm k]) ?_⟩
  · have q := k1 b u e
    have hlt := Heap.lt_size q
    show (sortedHeap (s1.heap.push (seqObj "list" vs.toArray 0)) s1.heap.objs.size vs out.toArray).get? b = some u
    rw [sortedHeap_old (Nat.ne_of_lt hlt) (by rw [size_push']; exact Nat.lt_succ_of_lt hlt)]
    exact Heap.get?_push_of_some _ q
  · rw [q2.length_eq, List.length_map]; exact hvz
/-! ### in a context -/
def rSetL1 (K : PySem.W.Frag) (w : World) : List V → Hp → VK → Prop := fun xs H Q => ∃ (l : Addr) (ns : List Int), xs = [V.ref l] ∧ SqL K H l (ns.map V.int) ∧ ns.length + 1 < scanBound ∧ ∀ a c, H a = none → Q (.ref a) (upd H a (SetO w a (fun j => decide (j ∈ ns)) c))
def rSortSet (w : World) : List V → Hp → VK → Prop := fun vs H Q => ∃ (a : Addr) (S : Int → Bool) (n : Nat), vs = [V.ref a] ∧ H a = some (SetO w a S n) ∧
  ∀ (ns : List Int) (p : Addr), ns.Pairwise (· < ·) → (∀ k : Int, k ∈ ns ↔ S k = true) → H p = none → Q (.ref p) (upd H p (.lst (ns.map V.int)))
section
variable {X : Cx}
theorem cr_setL1 (hc : X.calm = true) : CallR X (.type "set") (rSetL1 X.K X.w) := by
  intro pins s σ H vs us Q I r h
  obtain ⟨l, ns, rfl, hs, hb, q⟩ := h
  obtain ⟨its, rv, hl, hz⟩ := I.list hs
  rw [Vals.ref1 r]
  refine call_setL ns (I.ok.hd hc) hl.isList (by simpa using rv.ints) hb fun h' tk c R1 hcn k => ?_
  have hn : H s.heap.objs.size = none := I.hok.fresh (Nat.le_refl _)
  exact ⟨.ref s.heap.objs.size, upd H s.heap.objs.size (SetO X.w s.heap.objs.size (fun j => decide (j ∈ ns)) c), I.laid (t' := tk) k (Nat.le_refl _) (setO_new R1), rfl, q _ c hn⟩
def rSetT1 (K : PySem.W.Frag) (w : World) : List V → Hp → VK → Prop := fun xs H Q => ∃ (l : Addr) (ns : List Int), xs = [V.ref l] ∧ SqT K H l (ns.map V.int) ∧ ns.length + 1 < scanBound ∧ ∀ a c, H a = none → Q (.ref a) (upd H a (SetO w a (fun j => decide (j ∈ ns)) c))
theorem cr_setT1 (hc : X.calm = true) : CallR X (.type "set") (rSetT1 X.K X.w) := by
  intro pins s σ H vs us Q I r h
  obtain ⟨l, ns, rfl, hs, hb, q⟩ := h
  obtain ⟨its, rv, hl, hz⟩ := I.tuple hs
  rw [Vals.ref1 r]
  refine call_set_tupI ns (I.ok.hd hc) (show s.heap.IsTuple l its.toArray from hl) (by simpa using rv.ints) hb fun h' tk c R1 hcn k => ?_
  have hn : H s.heap.objs.size = none := I.hok.fresh (Nat.le_refl _)
  exact ⟨.ref s.heap.objs.size, upd H s.heap.objs.size (SetO X.w s.heap.objs.size (fun j => decide (j ∈ ns)) c), I.laid (t' := tk) k (Nat.le_refl _) (setO_new R1), rfl, q _ c hn⟩
theorem cr_sortSet (hc : X.calm = true) : CallR X (.builtin "sorted") (rSortSet X.w) := by
  intro pins s σ H vs us Q I r h
  obtain ⟨a, S, n, rfl, ha, q⟩ := h
  have R := setO_get I ha
  rw [Vals.ref1 r]
  refine sorted_setI R (I.ok.hd hc) fun s' p out c ns k g o hp hg hi hs hm hl => ?_
  have hlen : (ns.map V.int).length ≤ sizeLine := by rw [List.length_map]; exact hl
  have hn : H p = none := I.hok.fresh hp
  have J : Inv X pins σ (upd H p (.lst (ns.map V.int))) { s with heap := s'.heap, gens := s'.gens, drawn := s'.drawn, toks := s'.toks } :=
    I.call (ch := []) (Un.laid k hp hn) (I.hok.laid k hp ⟨hlen, out.toList, c, vals_of_ints hi, hg⟩) (by rw [g]; exact I.bare) (fun _ z => nomatch z)
  have e : s' = { s with heap := s'.heap, gens := s'.gens, drawn := s'.drawn, toks := s'.toks } := by
    cases s'
    cases s
    cases o
    rfl
  rw [e]
  exact ⟨.ref p, _, J, rfl, q ns p hs hm hn⟩
end
def sortSetD : List D → Option R
  | [.list ds] => (intsD ds).bind fun ns => if ns.length ≤ 4000 then some (.n (.list ((setSort ns).map .int))) else none
  | [.tuple ds] => (intsD ds).bind fun ns => if ns.length ≤ 4000 then some (.n (.list ((setSort ns).map .int))) else none
  | _ => none
def rSetG (K : PySem.W.Frag) (w : World) : List V → Hp → VK → Prop := fun xs H Q => rSetL1 K w xs H Q ∨ rSetT1 K w xs H Q
section
variable {ι : Type} {K : PySem.W.Frag} {X : ι → Cx} {a : Expr} {f : M R} {pos p p2 pos2 : Pos} {w : World}
/-- sorted(set(xs)): one step, the set is seen by nobody -/
theorem so_sortSet {fs : M (List R)} (hm : ∀ i, (X i).mg "sorted" = none) (hm2 : ∀ i, (X i).mg "set" = none) (ha : SoP K X [a] fs) (hK : ∀ i, (X i).K = K := by intro _; rfl) (hw : ∀ i, (X i).w = w := by intro _; rfl) (hc : ∀ i, (X i).calm = true := by intro _; rfl) (hg : ∀ i, Gl (X i) "sorted" := by intro _; rfl) (hg2 : ∀ i, Gl (X i) "set" := by intro _; rfl)
    (he2 : ∀ i, starEach [a] (X i).env = (false, eval a (X i).env) :: starEach [] (X i).env := by intro _; rfl)
    (he : ∀ i, starEach [.Call (.Name "set" p2) [a] [] pos2] (X i).env = (false, eval (.Call (.Name "set" p2) [a] [] pos2) (X i).env) :: starEach [] (X i).env := by intro _; rfl) :
    SoE K X (.Call (.Name "sorted" p) [.Call (.Name "set" p2) [a] [] pos2] [] pos) (blt sortSetD fs) := by
  obtain ⟨ta, pa, ha⟩ := ha
  refine ⟨tCB (rSortSet w) (tCons (tCB (rSetG K w) ta) tNil), fun i => ?_, fun F H σ e r e' rel hf Q q => ?_⟩
  · have p1 := pe_callTy (p := p2) (pos := pos2) ((cr_setL1 (X := X i) (hc i)).or (cr_setT1 (hc i))) (hg2 i) (hm2 i) PyProof.Rows.boot_set (pa i) (by decide) (by decide) (he2 i) (by rfl)
    have := pe_callB (p := p) (pos := pos) (cr_sortSet (X := X i) (hc i)) (hg i) (hm i) (by decide +kernel) (pa_cons p1 pa_nil (he i)) (he := he i)
    rw [hK i, hw i] at this
    exact this
  · obtain ⟨⟨rs, e1⟩, h1, hf⟩ := bind_some hf
    obtain ⟨ds, h2, hf⟩ := bind_some hf
    obtain ⟨z, h5, h6⟩ := Option.map_eq_some_iff.mp hf
    cases h6
    refine ha F H σ e rs e1 rel h1 _ fun vs F1 H1 p1 rw' => ?_
    have vw := rw'.view p1.rel h2
    unfold sortSetD at h5
    have fin : ∀ (l : Addr) (ns : List Int), r = .n (.list ((setSort ns).map .int)) → ∀ b c, H1 b = none → rSortSet w [.ref b] (upd H1 b (SetO w b (fun j => decide (j ∈ ns)) c)) Q := fun l ns hz b c hb => by
      subst hz
      have g1 : Grow F1 H1 F1 (upd H1 b (SetO w b (fun j => decide (j ∈ ns)) c)) := Grow.loose p1.rel.sub hb
      have p2 := p1.trans (g1.pst p1.rel)
      refine ⟨b, _, c, rfl, upd_same, fun ns' p hup hmem hp => ?_⟩
      have e2 : ns' = setSort ns := up_uniq hup (setSort_up ns) fun k => by rw [hmem k, mem_setSort, decide_eq_true_eq]
      subst e2
      exact gr_l p2.rel.sub (fun v F3 H3 gr rr => q v F3 H3 (p2.trans (gr.pst p2.rel)) (rr.wide p2.stp.dom)) (ints_repA _) p hp
    split at h5
    · rename_i es
      obtain ⟨ns, h7, h8⟩ := bind_some h5
      split at h8
      · rename_i hn
        cases h8
        obtain ⟨v, rfl, hv⟩ := vw1 vw
        obtain ⟨l, xs, rfl, hs, r⟩ := hv.lst p1.rel.sub
        have ee := intsD_rep r h7
        subst ee
        exact .inl ⟨l, ns, rfl, hs, by unfold scanBound; omega, fin l ns rfl⟩
      · cases h8
    · rename_i es
      obtain ⟨ns, h7, h8⟩ := bind_some h5
      split at h8
      · rename_i hn
        cases h8
        obtain ⟨v, rfl, hv⟩ := vw1 vw
        obtain ⟨l, xs, rfl, hs, r⟩ := hv.tup p1.rel.sub
        have ee := intsD_rep r h7
        subst ee
        exact .inr ⟨l, ns, rfl, hs, by unfold scanBound; omega, fin l ns rfl⟩
      · cases h8
    · cases h5
end
end Sl

set_option Elab.async false
set_option linter.all false
set_option maxRecDepth 100000
set_option maxHeartbeats 2000000
set_option autoImplicit false
/-! Steps through a plain reading. -/
namespace Sl
open PySem L2
def Wp {α : Type} (f : M α) (e : En) (Q : α → En → Prop) : Prop := ∃ a e', f e = some (a, e') ∧ Q a e'
def Ws (g : En → Option Out) (e : En) (Q : Out → Prop) : Prop := ∃ o, g e = some o ∧ Q o
def Wm (m : Mm) (sl : List Cel) (Q : R → List Cel → Prop) : Prop := ∃ r out, m sl = some (r, out) ∧ Q r out
/-- an operation of two values -/
def K2 (o : D → D → Option R) (x y : R) (e : En) (Q : R → En → Prop) : Prop := ∃ dx dy r, x.get e = some dx ∧ y.get e = some dy ∧ o dx dy = some r ∧ Q r e
def K1 (o : D → Option R) (x : R) (e : En) (Q : R → En → Prop) : Prop := ∃ dx r, x.get e = some dx ∧ o dx = some r ∧ Q r e
def KT (x : R) (e : En) (Q : Bool → En → Prop) : Prop := ∃ b, x.get e = some (.bool b) ∧ Q b e
section
variable {e : En} {Q : R → En → Prop} {f g h : M R}
theorem wp_varF {i : Nat} {d : D} (h : e[i]? = some (some (.fz d))) (k : Q (.v d) e) : Wp (var i) e Q := ⟨.v d, e, by unfold var; rw [h], k⟩
theorem wp_varO {i : Nat} {d : D} (h : e[i]? = some (some (.ow d))) (k : Q (.b i) e) : Wp (var i) e Q := ⟨.b i, e, by unfold var; rw [h], k⟩
theorem wp_varI {i : Nat} {d : D} (h : e[i]? = some (some (.io d))) (k : Q (.b i) e) : Wp (var i) e Q := ⟨.b i, e, by unfold var; rw [h], k⟩
theorem wp_con {d : D} (k : Q (.v d) e) : Wp (con d) e Q := ⟨_, _, rfl, k⟩
theorem wp_bin {o : D → D → Option R} (k : Wp f e fun x e1 => Wp g e1 fun y e2 => K2 o x y e2 Q) : Wp (bin o f g) e Q := by
  obtain ⟨x, e1, h1, y, e2, h2, dx, dy, r, h3, h4, h5, q⟩ := k
  exact ⟨r, e2, by unfold bin; rw [h1]; simp only [Option.bind_some]; rw [h2]; simp only [Option.bind_some]; rw [h3]; simp only [Option.bind_some]; rw [h4]; simp only [Option.bind_some]; rw [h5]; rfl, q⟩
theorem wp_una {o : D → Option R} (k : Wp f e fun x e1 => K1 o x e1 Q) : Wp (una o f) e Q := by
  obtain ⟨x, e1, h1, dx, r, h3, h5, q⟩ := k
  exact ⟨r, e1, by unfold una; rw [h1]; simp only [Option.bind_some]; rw [h3]; simp only [Option.bind_some]; rw [h5]; rfl, q⟩
theorem k2 {o : D → D → Option R} {x y : R} {dx dy : D} {r : R} (h1 : x.get e = some dx) (h2 : y.get e = some dy) (h3 : o dx dy = some r) (k : Q r e) : K2 o x y e Q := ⟨dx, dy, r, h1, h2, h3, k⟩
theorem k1 {o : D → Option R} {x : R} {dx : D} {r : R} (h1 : x.get e = some dx) (h3 : o dx = some r) (k : Q r e) : K1 o x e Q := ⟨dx, r, h1, h3, k⟩
theorem wp_tst {Q : Bool → En → Prop} (k : Wp f e fun x e1 => KT x e1 Q) : Wp (tst f) e Q := by
  obtain ⟨x, e1, h1, b, h2, q⟩ := k
  exact ⟨b, e1, by unfold tst; rw [h1]; simp only [Option.bind_some]; rw [h2]; rfl, q⟩
theorem kt {x : R} {b : Bool} {Q : Bool → En → Prop} (h1 : x.get e = some (.bool b)) (k : Q b e) : KT x e Q := ⟨b, h1, k⟩
theorem wp_andT {c d : M Bool} {Q : Bool → En → Prop} (k : Wp c e fun b e1 => if b = true then Wp d e1 Q else Q false e1) : Wp (andT c d) e Q := by
  obtain ⟨b, e1, h1, k⟩ := k
  cases b with
  | true =>
    obtain ⟨b2, e2, h2, q⟩ := k
    exact ⟨b2, e2, by unfold andT; rw [h1]; exact h2, q⟩
  | false => exact ⟨false, e1, by unfold andT; rw [h1]; rfl, k⟩
theorem wp_orT {c d : M Bool} {Q : Bool → En → Prop} (k : Wp c e fun b e1 => if b = true then Q true e1 else Wp d e1 Q) : Wp (orT c d) e Q := by
  obtain ⟨b, e1, h1, k⟩ := k
  cases b with
  | false =>
    obtain ⟨b2, e2, h2, q⟩ := k
    exact ⟨b2, e2, by unfold orT; rw [h1]; exact h2, q⟩
  | true => exact ⟨true, e1, by unfold orT; rw [h1]; rfl, k⟩
theorem wp_notT {c : M Bool} {Q : Bool → En → Prop} (k : Wp c e fun b e1 => Q (!b) e1) : Wp (notT c) e Q := by
  obtain ⟨b, e1, h1, k⟩ := k
  exact ⟨!b, e1, by unfold notT; rw [h1]; rfl, k⟩
theorem wp_andV (k : Wp f e fun x e1 => KT x e1 fun b e2 => if b = true then Wp g e2 Q else Q (.v (.bool false)) e2) : Wp (andV f g) e Q := by
  obtain ⟨x, e1, h1, b, h2, k⟩ := k
  have ht : tst f e = some (b, e1) := by unfold tst; rw [h1]; simp only [Option.bind_some]; rw [h2]; rfl
  cases b with
  | true =>
    obtain ⟨r, e2, h3, q⟩ := k
    exact ⟨r, e2, by unfold andV; rw [ht]; exact h3, q⟩
  | false => exact ⟨_, e1, by unfold andV; rw [ht]; rfl, k⟩
theorem wp_orV (k : Wp f e fun x e1 => KT x e1 fun b e2 => if b = true then Q (.v (.bool true)) e2 else Wp g e2 Q) : Wp (orV f g) e Q := by
  obtain ⟨x, e1, h1, b, h2, k⟩ := k
  have ht : tst f e = some (b, e1) := by unfold tst; rw [h1]; simp only [Option.bind_some]; rw [h2]; rfl
  cases b with
  | false =>
    obtain ⟨r, e2, h3, q⟩ := k
    exact ⟨r, e2, by unfold orV; rw [ht]; exact h3, q⟩
  | true => exact ⟨_, e1, by unfold orV; rw [ht]; rfl, k⟩
theorem wp_notV (k : Wp f e fun x e1 => KT x e1 fun b e2 => Q (.v (.bool !b)) e2) : Wp (notV f) e Q := by
  obtain ⟨x, e1, h1, b, h2, k⟩ := k
  have ht : tst f e = some (b, e1) := by unfold tst; rw [h1]; simp only [Option.bind_some]; rw [h2]; rfl
  exact ⟨_, e1, by unfold notV; rw [ht]; rfl, k⟩
theorem wp_ite {c : M Bool} (k : Wp c e fun b e1 => if b = true then Wp f e1 Q else Wp g e1 Q) : Wp (ite c f g) e Q := by
  obtain ⟨b, e1, h1, k⟩ := k
  cases b with
  | true =>
    obtain ⟨r, e2, h3, q⟩ := k
    exact ⟨r, e2, by unfold ite; rw [h1]; exact h3, q⟩
  | false =>
    obtain ⟨r, e2, h3, q⟩ := k
    exact ⟨r, e2, by unfold ite; rw [h1]; exact h3, q⟩
/-! lists of arguments -/
def KF (x : R) (e : En) (Q : D → En → Prop) : Prop := ∃ d e', frz x e = some (d, e') ∧ Q d e'
theorem kf {x : R} {e e' : En} {d : D} {Q : D → En → Prop} (h : frz x e = some (d, e')) (k : Q d e') : KF x e Q := ⟨d, e', h, k⟩
theorem wp_nilA {Q : List D → En → Prop} (k : Q [] e) : Wp nilA e Q := ⟨_, _, rfl, k⟩
theorem wp_consA {fs : M (List D)} {Q : List D → En → Prop} (k : Wp f e fun x e1 => KF x e1 fun d e2 => Wp fs e2 fun ds e3 => Q (d :: ds) e3) : Wp (consA f fs) e Q := by
  obtain ⟨x, e1, h1, d, e2, h2, ds, e3, h3, q⟩ := k
  exact ⟨d :: ds, e3, by unfold consA; rw [h1]; simp only [Option.bind_some]; rw [h2]; simp only [Option.bind_some]; rw [h3]; rfl, q⟩
theorem wp_nilP {Q : List R → En → Prop} (k : Q [] e) : Wp nilP e Q := ⟨_, _, rfl, k⟩
def KN (x : R) (e : En) (Q : R → En → Prop) : Prop := Q x.nf e
theorem kn_v {d : D} (k : Q (.v d) e) : KN (.v d) e Q := k
theorem kn_n {d : D} (k : Q (.v d) e) : KN (.n d) e Q := k
theorem kn_b {i : Nat} (k : Q (.b i) e) : KN (.b i) e Q := k
theorem wp_consP {fs : M (List R)} {Q : List R → En → Prop} (k : Wp f e fun x e1 => KN x e1 fun y e2 => Wp fs e2 fun rs e3 => Q (y :: rs) e3) : Wp (consP f fs) e Q := by
  obtain ⟨x, e1, h1, ds, e3, h3, q⟩ := k
  exact ⟨x.nf :: ds, e3, by unfold consP; rw [h1]; simp only [Option.bind_some]; rw [h3]; rfl, q⟩
theorem wp_consF {fs : M (List R)} {Q : List R → En → Prop} (k : Wp f e fun x e1 => KF x e1 fun d e2 => Wp fs e2 fun rs e3 => Q (.v d :: rs) e3) : Wp (consF f fs) e Q := by
  obtain ⟨x, e1, h1, d, e2, h2, ds, e3, h3, q⟩ := k
  exact ⟨.v d :: ds, e3, by unfold consF; rw [h1]; simp only [Option.bind_some]; rw [h2]; simp only [Option.bind_some]; rw [h3]; rfl, q⟩
theorem wp_tupE {fs : M (List D)} (k : Wp fs e fun ds e1 => ds.length ≤ sizeLine ∧ Q (.v (.tuple ds)) e1) : Wp (tupE fs) e Q := by
  obtain ⟨ds, e1, h1, h2, q⟩ := k
  exact ⟨_, e1, by unfold tupE; rw [h1]; simp only [Option.bind_some]; rw [if_pos h2], q⟩
theorem wp_lstE {fs : M (List D)} (k : Wp fs e fun ds e1 => ds.length ≤ sizeLine ∧ Q (.n (.list ds)) e1) : Wp (lstE fs) e Q := by
  obtain ⟨ds, e1, h1, h2, q⟩ := k
  exact ⟨_, e1, by unfold lstE; rw [h1]; simp only [Option.bind_some]; rw [if_pos h2], q⟩
def KB (o : List D → Option R) (rs : List R) (e : En) (Q : R → En → Prop) : Prop := ∃ ds r, getAll rs e = some ds ∧ o ds = some r ∧ Q r e
theorem kb {o : List D → Option R} {rs : List R} {ds : List D} {r : R} (h1 : getAll rs e = some ds) (h2 : o ds = some r) (k : Q r e) : KB o rs e Q := ⟨ds, r, h1, h2, k⟩
theorem wp_blt {o : List D → Option R} {fs : M (List R)} (k : Wp fs e fun rs e1 => KB o rs e1 Q) : Wp (blt o fs) e Q := by
  obtain ⟨rs, e1, h1, ds, r, h2, h3, q⟩ := k
  exact ⟨r, e1, by unfold blt; rw [h1]; simp only [Option.bind_some]; rw [h2]; simp only [Option.bind_some]; rw [h3]; rfl, q⟩
theorem wp_isi {T : String} (k : Wp f e fun x e1 => K1 (isiD T) x e1 Q) : Wp (isi T f) e Q := by
  obtain ⟨x, e1, h1, dx, r, h3, h5, q⟩ := k
  exact ⟨r, e1, by unfold isi; rw [h1]; simp only [Option.bind_some]; rw [h3]; simp only [Option.bind_some]; rw [h5]; rfl, q⟩
/-! calls -/
def KC (m : Mm) (rs : List R) (e : En) (Q : R → En → Prop) : Prop := ∃ ds, getAll rs e = some ds ∧ Wm m (ds.map .fz) fun r _ => (okR r || !(rs.any isB)) = true ∧ Q r e
theorem kc {m : Mm} {rs : List R} {ds : List D} (h1 : getAll rs e = some ds) (k : Wm m (ds.map .fz) fun r _ => (okR r || !(rs.any isB)) = true ∧ Q r e) : KC m rs e Q := ⟨ds, h1, k⟩
theorem wp_callP {m : Mm} {fs : M (List R)} (k : Wp fs e fun rs e1 => KC m rs e1 Q) : Wp (callP m fs) e Q := by
  obtain ⟨rs, e1, h1, ds, h2, r, out, h3, h4, q⟩ := k
  exact ⟨r, e1, by unfold callP; rw [h1]; simp only [Option.bind_some]; rw [h2]; simp only [Option.bind_some]; rw [h3]; simp only [Option.bind_some]; rw [if_pos h4], q⟩
def KI (sig : List Bool) (m : Mm) (rs : List R) (e : En) (Q : R → En → Prop) : Prop := (ioIx rs).Nodup ∧ ∃ sl, mkSl sig rs e = some sl ∧ Wm m sl fun r out => ∃ e2, putAll rs out e = some e2 ∧ Q r e2
theorem ki {sig : List Bool} {m : Mm} {rs : List R} {sl : List Cel} (h0 : (ioIx rs).Nodup) (h1 : mkSl sig rs e = some sl) (k : Wm m sl fun r out => ∃ e2, putAll rs out e = some e2 ∧ Q r e2) : KI sig m rs e Q := ⟨h0, sl, h1, k⟩
theorem wp_callIO {sig : List Bool} {m : Mm} {fs : M (List R)} (k : Wp fs e fun rs e1 => KI sig m rs e1 Q) : Wp (callIO sig m fs) e Q := by
  obtain ⟨rs, e1, h1, h0, sl, h2, r, out, h3, e2, h4, q⟩ := k
  exact ⟨r, e2, by unfold callIO; rw [h1]; simp only [Option.bind_some]; rw [if_pos h0, h2]; simp only [Option.bind_some]; rw [h3]; simp only [Option.bind_some]; rw [h4]; rfl, q⟩
theorem wm_eq {m : Mm} {sl out : List Cel} {r : R} {Q : R → List Cel → Prop} (h : m sl = some (r, out)) (k : Q r out) : Wm m sl Q := ⟨r, out, h, k⟩
theorem wm_mono {m : Mm} {sl : List Cel} {Q Q' : R → List Cel → Prop} (h : Wm m sl Q) (k : ∀ r out, Q r out → Q' r out) : Wm m sl Q' := by
  obtain ⟨r, out, h1, h2⟩ := h
  exact ⟨r, out, h1, k r out h2⟩
theorem ws_mono {g : En → Option Out} {e : En} {Q Q' : Out → Prop} (h : Ws g e Q) (k : ∀ o, Q o → Q' o) : Ws g e Q' := by
  obtain ⟨o, h1, h2⟩ := h
  exact ⟨o, h1, k o h2⟩
theorem wp_mono {α : Type} {f : M α} {e : En} {Q Q' : α → En → Prop} (h : Wp f e Q) (k : ∀ a e1, Q a e1 → Q' a e1) : Wp f e Q' := by
  obtain ⟨a, e1, h1, h2⟩ := h
  exact ⟨a, e1, h1, k a e1 h2⟩
/-! slices, chains -/
theorem wp_noP {Q : Option Int → En → Prop} (k : Q none e) : Wp noP e Q := ⟨_, _, rfl, k⟩
def KO (x : R) (e : En) (Q : Option Int → En → Prop) : Prop := ∃ i, x.get e = some (.int i) ∧ Q (some i) e
theorem ko {x : R} {i : Int} {Q : Option Int → En → Prop} (h : x.get e = some (.int i)) (k : Q (some i) e) : KO x e Q := ⟨i, h, k⟩
theorem wp_someP {Q : Option Int → En → Prop} (k : Wp f e fun x e1 => KO x e1 Q) : Wp (someP f) e Q := by
  obtain ⟨x, e1, h1, i, h2, q⟩ := k
  exact ⟨some i, e1, by unfold someP; rw [h1]; simp only [Option.bind_some]; rw [h2], q⟩
def KS (o : D → Option Int → Option Int → Option R) (x : R) (lo hi : Option Int) (e : En) (Q : R → En → Prop) : Prop := ∃ d r, x.get e = some d ∧ o d lo hi = some r ∧ Q r e
theorem ks {o : D → Option Int → Option Int → Option R} {x : R} {lo hi : Option Int} {d : D} {r : R} (h1 : x.get e = some d) (h2 : o d lo hi = some r) (k : Q r e) : KS o x lo hi e Q := ⟨d, r, h1, h2, k⟩
theorem wp_slc {o : D → Option Int → Option Int → Option R} {lo hi : M (Option Int)} (k : Wp f e fun x e1 => Wp lo e1 fun l e2 => Wp hi e2 fun u e3 => KS o x l u e3 Q) : Wp (slc o f lo hi) e Q := by
  obtain ⟨x, e1, h1, l, e2, h2, u, e3, h3, d, r, h4, h5, q⟩ := k
  exact ⟨r, e3, by unfold slc; rw [h1]; simp only [Option.bind_some]; rw [h2]; simp only [Option.bind_some]; rw [h3]; simp only [Option.bind_some]; rw [h4]; simp only [Option.bind_some]; rw [h5]; rfl, q⟩
theorem wp_chn {o o' : D → D → Option R} (k : Wp f e fun x e1 => Wp g e1 fun y e2 => K2 o x y e2 fun r e2' => KT r e2' fun b e2 => if b = true then Wp h e2 fun z e3 => K2 o' y z e3 Q else Q (.v (.bool false)) e2)
    (hs : ∀ x y z, o x y = some z → ∃ b, z = .v (.bool b)) : Wp (chn o o' f g h) e Q := by
  obtain ⟨x, e1, h1, y, e2, h2, dx, dy, r, h3, h4, h5, b, h6, k⟩ := k
  obtain ⟨b', rfl⟩ := hs _ _ _ h5
  cases h6
  cases b with
  | true =>
    obtain ⟨z, e3, h7, dy', dz, r', h8, h9, h10, q⟩ := k
    exact ⟨r', e3, by unfold chn; rw [h1]; simp only [Option.bind_some]; rw [h2]; simp only [Option.bind_some]; rw [h3]; simp only [Option.bind_some]; rw [h4]; simp only [Option.bind_some]; rw [h5]; simp only [Option.bind_some]; rw [h7]; simp only [Option.bind_some]; rw [h8]; simp only [Option.bind_some]; rw [h9]; simp only [Option.bind_some]; rw [h10]; rfl, q⟩
  | false => exact ⟨_, e2, by unfold chn; rw [h1]; simp only [Option.bind_some]; rw [h2]; simp only [Option.bind_some]; rw [h3]; simp only [Option.bind_some]; rw [h4]; simp only [Option.bind_some]; rw [h5]; rfl, k⟩
/-! methods -/
def KM (i : Nat) (o : D → List D → Option (D × D)) (ds : List D) (e : En) (Q : R → En → Prop) : Prop := ∃ s w e2, e[i]? = some (some s) ∧ s.own = true ∧ o s.d ds = some w ∧ put i w.1 e = some e2 ∧ Q (.v w.2) e2
theorem km {i : Nat} {o : D → List D → Option (D × D)} {ds : List D} {e2 : En} {s : Cel} {d d' : D} (h1 : e[i]? = some (some s)) (h2 : s.own = true) (h3 : o s.d ds = some (d, d')) (h4 : put i d e = some e2) (k : Q (.v d') e2) : KM i o ds e Q := ⟨s, (d, d'), e2, h1, h2, h3, h4, k⟩
theorem wp_mutM {T : String} {o : D → List D → Option (D × D)} {fs : M (List D)} (k : Wp f e fun x e1 => ∃ i d0, x = .b i ∧ x.get e1 = some d0 ∧ isT T d0 = true ∧ Wp fs e1 fun ds e2 => KM i o ds e2 Q) : Wp (mutM T o f fs) e Q := by
  obtain ⟨x, e1, h1, i, d0, rfl, h2, h3, ds, e2, h4, s, w, e3, h5, h6, h7, h8, q⟩ := k
  exact ⟨_, e3, by unfold mutM; rw [h1]; simp only [Option.bind_some]; rw [h2]; simp only [Option.bind_some]; rw [if_pos h3, h4]; simp only [Option.bind_some]; rw [h5]; simp only; rw [if_pos h6, h7]; simp only [Option.bind_some]; rw [h8]; rfl, q⟩
theorem wp_mutM0 {T : String} {o : D → List D → Option (D × D)} (k : Wp f e fun x e1 => ∃ i s, x = .b i ∧ e1[i]? = some (some s) ∧ isT T s.d = true ∧ KM i o [] e1 Q) : Wp (mutM0 T o f) e Q := by
  obtain ⟨x, e1, h1, i, s0, rfl, h2, h3, s, w, e3, h5, h6, h7, h8, q⟩ := k
  rw [h2] at h5
  cases h5
  exact ⟨_, e3, by unfold mutM0; rw [h1]; simp only [Option.bind_some]; rw [h2]; simp only [h3, h6, Bool.and_self, if_true]; rw [h7]; simp only [Option.bind_some]; rw [h8]; rfl, q⟩
end
/-! ### statements -/
section
variable {e : En} {Q : Out → Prop} {f fo fi : M R} {g h : En → Option Out}
def Sk (h : En → Option Out) (Q : Out → Prop) : Out → Prop
  | .nx e => Ws h e Q
  | o => Q o
theorem sk_nx (k : Ws h e Q) : Sk h Q (.nx e) := k
theorem sk_rt {r : R} (k : Q (.rt r e)) : Sk h Q (.rt r e) := k
theorem sk_bk (k : Q (.bk e)) : Sk h Q (.bk e) := k
theorem sk_ct (k : Q (.ct e)) : Sk h Q (.ct e) := k
theorem ws_seq (k : Ws g e (Sk h Q)) : Ws (seq g h) e Q := by
  obtain ⟨o, h1, k⟩ := k
  cases o with
  | nx e1 =>
    obtain ⟨o2, h2, q⟩ := k
    exact ⟨o2, by unfold seq; rw [h1]; exact h2, q⟩
  | rt r e1 => exact ⟨_, by unfold seq; rw [h1]; rfl, k⟩
  | bk e1 => exact ⟨_, by unfold seq; rw [h1]; rfl, k⟩
  | ct e1 => exact ⟨_, by unfold seq; rw [h1]; rfl, k⟩
theorem ws_pas (k : Q (.nx e)) : Ws pas e Q := ⟨_, rfl, k⟩
theorem ws_brk (k : Q (.bk e)) : Ws brk e Q := ⟨_, rfl, k⟩
theorem ws_cnt (k : Q (.ct e)) : Ws cnt e Q := ⟨_, rfl, k⟩
theorem ws_retN (k : Q (.rt (.v .none) e)) : Ws retN e Q := ⟨_, rfl, k⟩
def Kr (x : R) (e : En) (Q : Out → Prop) : Prop := match x with
  | .b i => ∃ c : Cel, e[i]? = some (some c) ∧ match c with
    | .ow d => Q (.rt (.n d) e)
    | .fz d => Q (.rt (.v d) e)
    | .io _ => False
  | r => Q (.rt r e)
theorem kr_v {d : D} (k : Q (.rt (.v d) e)) : Kr (.v d) e Q := k
theorem kr_n {d : D} (k : Q (.rt (.n d) e)) : Kr (.n d) e Q := k
theorem kr_b {i : Nat} {d : D} (h : e[i]? = some (some (.ow d))) (k : Q (.rt (.n d) e)) : Kr (.b i) e Q := ⟨_, h, k⟩
theorem kr_bf {i : Nat} {d : D} (h : e[i]? = some (some (.fz d))) (k : Q (.rt (.v d) e)) : Kr (.b i) e Q := ⟨_, h, k⟩
theorem ws_ret (k : Wp f e fun x e1 => Kr x e1 Q) : Ws (ret f) e Q := by
  obtain ⟨x, e1, h1, k⟩ := k
  cases x with
  | v d => exact ⟨_, by unfold ret; rw [h1]; rfl, k⟩
  | n d => exact ⟨_, by unfold ret; rw [h1]; rfl, k⟩
  | b i =>
    obtain ⟨c, h2, k⟩ := k
    cases c with
    | ow d => exact ⟨_, by unfold ret; rw [h1]; simp only [Option.bind_some]; rw [h2], k⟩
    | fz d => exact ⟨_, by unfold ret; rw [h1]; simp only [Option.bind_some]; rw [h2], k⟩
    | io d => exact k.elim
theorem ws_drp (k : Wp f e fun _ e1 => Q (.nx e1)) : Ws (drp f) e Q := by
  obtain ⟨x, e1, h1, k⟩ := k
  exact ⟨_, by unfold drp; rw [h1]; rfl, k⟩
def Ka (i : Nat) (x : R) (e : En) (Q : Out → Prop) : Prop := ∃ e2, stR i x e = some e2 ∧ Q (.nx e2)
theorem ka {i : Nat} {x : R} {e2 : En} (h : stR i x e = some e2) (k : Q (.nx e2)) : Ka i x e Q := ⟨e2, h, k⟩
theorem ws_asg {i : Nat} (k : Wp f e fun x e1 => Ka i x e1 Q) : Ws (asg i f) e Q := by
  obtain ⟨x, e1, h1, e2, h2, q⟩ := k
  exact ⟨_, by unfold asg; rw [h1]; simp only [Option.bind_some]; rw [h2]; rfl, q⟩
def Kg (g1 : D → En → Option En) (x : R) (e : En) (Q : Out → Prop) : Prop := ∃ d e1 e2, frz x e = some (d, e1) ∧ g1 d e1 = some e2 ∧ Q (.nx e2)
theorem kg {g1 : D → En → Option En} {x : R} {d : D} {e1 e2 : En} (h : frz x e = some (d, e1)) (h2 : g1 d e1 = some e2) (k : Q (.nx e2)) : Kg g1 x e Q := ⟨d, e1, e2, h, h2, k⟩
theorem ws_asgT {g1 : D → En → Option En} (k : Wp f e fun x e1 => Kg g1 x e1 Q) : Ws (asgT g1 f) e Q := by
  obtain ⟨x, e1, h1, d, e2, e3, h2, h3, q⟩ := k
  exact ⟨_, by unfold asgT; rw [h1]; simp only [Option.bind_some]; rw [h2]; simp only [Option.bind_some]; rw [h3]; rfl, q⟩
theorem ws_if {c : M Bool} (k : Wp c e fun b e1 => if b = true then Ws g e1 Q else Ws h e1 Q) : Ws (ifS c g h) e Q := by
  obtain ⟨b, e1, h1, k⟩ := k
  cases b with
  | true =>
    obtain ⟨o, h2, q⟩ := k
    exact ⟨o, by unfold ifS; rw [h1]; exact h2, q⟩
  | false =>
    obtain ⟨o, h2, q⟩ := k
    exact ⟨o, by unfold ifS; rw [h1]; exact h2, q⟩
def Kx (o : D → D → D → Option D) (dv : D) (xo xi : R) (e : En) (Q : Out → Prop) : Prop := ∃ i c k w e2, xo = .b i ∧ e[i]? = some (some c) ∧ c.own = true ∧ xi.get e = some k ∧ o c.d k dv = some w ∧ put i w e = some e2 ∧ Q (.nx e2)
theorem kx {o : D → D → D → Option D} {dv : D} {xi : R} {i : Nat} {c : Cel} {k w : D} {e2 : En} (h1 : e[i]? = some (some c)) (h2 : c.own = true) (h3 : xi.get e = some k) (h4 : o c.d k dv = some w) (h5 : put i w e = some e2) (q : Q (.nx e2)) : Kx o dv (.b i) xi e Q := ⟨i, c, k, w, e2, rfl, h1, h2, h3, h4, h5, q⟩
theorem ws_set {o : D → D → D → Option D} (k : Wp f e fun x e1 => KF x e1 fun dv e2 => Wp fo e2 fun xo e3 => Wp fi e3 fun xi e4 => Kx o dv xo xi e4 Q) : Ws (setS o f fo fi) e Q := by
  obtain ⟨x, e1, h1, dv, e2, h2, xo, e3, h3, xi, e4, h4, i, c, k, w, e5, rfl, h5, h6, h7, h8, h9, q⟩ := k
  exact ⟨_, by unfold setS; rw [h1]; simp only [Option.bind_some]; rw [h2]; simp only [Option.bind_some]; rw [h3]; simp only [Option.bind_some]; rw [h4]; simp only [Option.bind_some]; rw [h5]; simp only; rw [if_pos h6, h7]; simp only [Option.bind_some]; rw [h8]; simp only [Option.bind_some]; rw [h9]; rfl, q⟩
/-! loops -/
def Kit (x : R) (e : En) (Q : List D → En → Prop) : Prop := ∃ d e1 ds, frz x e = some (d, e1) ∧ (d = .list ds ∨ d = .tuple ds) ∧ Q ds e1
theorem kit_l {x : R} {e1 : En} {ds : List D} {Q : List D → En → Prop} (h : frz x e = some (.list ds, e1)) (k : Q ds e1) : Kit x e Q := ⟨_, e1, ds, h, .inl rfl, k⟩
theorem kit_t {x : R} {e1 : En} {ds : List D} {Q : List D → En → Prop} (h : frz x e = some (.tuple ds, e1)) (k : Q ds e1) : Kit x e Q := ⟨_, e1, ds, h, .inr rfl, k⟩
theorem wp_iter {Q : List D → En → Prop} (k : Wp f e fun x e1 => Kit x e1 Q) : Wp (iterE f) e Q := by
  obtain ⟨x, e1, h1, d, e2, ds, h2, h3, q⟩ := k
  rcases h3 with rfl | rfl
  · exact ⟨ds, e2, by unfold iterE; rw [h1]; simp only [Option.bind_some]; rw [h2]; rfl, q⟩
  · exact ⟨ds, e2, by unfold iterE; rw [h1]; simp only [Option.bind_some]; rw [h2]; rfl, q⟩
def Krng (ds : List D) (e : En) (Q : List D → En → Prop) : Prop := (∃ j, ds = [.int j] ∧ (j ≤ 16777216 ∧ -(2 ^ 62) ≤ j) ∧ Q (rngD 0 j.toNat) e) ∨ ∃ i j, ds = [.int i, .int j] ∧ (-(2 ^ 62) ≤ i ∧ i < 2 ^ 62 ∧ -(2 ^ 62) ≤ j ∧ j < 2 ^ 62 ∧ j - i ≤ 16777216) ∧ Q (rngD i (j - i).toNat) e
theorem krng1 {j : Int} {Q : List D → En → Prop} (h : j ≤ 16777216 ∧ -(2 ^ 62) ≤ j) (k : Q (rngD 0 j.toNat) e) : Krng [.int j] e Q := .inl ⟨j, rfl, h, k⟩
theorem krng2 {i j : Int} {Q : List D → En → Prop} (h : -(2 ^ 62) ≤ i ∧ i < 2 ^ 62 ∧ -(2 ^ 62) ≤ j ∧ j < 2 ^ 62 ∧ j - i ≤ 16777216) (k : Q (rngD i (j - i).toNat) e) : Krng [.int i, .int j] e Q := .inr ⟨i, j, rfl, h, k⟩
theorem wp_rng {fs : M (List D)} {Q : List D → En → Prop} (k : Wp fs e fun ds e1 => Krng ds e1 Q) : Wp (rngE fs) e Q := by
  obtain ⟨ds, e1, h1, k⟩ := k
  rcases k with ⟨j, rfl, h2, q⟩ | ⟨i, j, rfl, h2, q⟩
  · exact ⟨_, e1, by unfold rngE; rw [h1]; simp only [Option.bind_some]; rw [if_pos h2], q⟩
  · exact ⟨_, e1, by unfold rngE; rw [h1]; simp only [Option.bind_some]; rw [if_pos h2], q⟩
/-- a for: an invariant by what is left -/
def Lk (tg : D → En → Option En) (body : En → Option Out) (ds : List D) (e : En) (Q : Out → Prop) : Prop := Ws (loop tg body ds) e Q
theorem ws_for {it : M (List D)} {tg : D → En → Option En} {body : En → Option Out} (k : Wp it e fun ds e1 => Lk tg body ds e1 Q) : Ws (forS it tg body) e Q := by
  obtain ⟨ds, e1, h1, o, h2, q⟩ := k
  exact ⟨o, by unfold forS; rw [h1]; exact h2, q⟩
theorem lk_nil {tg : D → En → Option En} {body : En → Option Out} (k : Q (.nx e)) : Lk tg body [] e Q := ⟨_, rfl, k⟩
def Lo (tg : D → En → Option En) (body : En → Option Out) (ds : List D) (Q : Out → Prop) : Out → Prop
  | .nx e => Lk tg body ds e Q
  | .ct e => Lk tg body ds e Q
  | .bk e => Q (.nx e)
  | .rt r e => Q (.rt r e)
theorem lo_nx {tg : D → En → Option En} {body : En → Option Out} {ds : List D} (k : Lk tg body ds e Q) : Lo tg body ds Q (.nx e) := k
theorem lo_ct {tg : D → En → Option En} {body : En → Option Out} {ds : List D} (k : Lk tg body ds e Q) : Lo tg body ds Q (.ct e) := k
theorem lo_bk {tg : D → En → Option En} {body : En → Option Out} {ds : List D} (k : Q (.nx e)) : Lo tg body ds Q (.bk e) := k
theorem lo_rt {tg : D → En → Option En} {body : En → Option Out} {ds : List D} {r : R} (k : Q (.rt r e)) : Lo tg body ds Q (.rt r e) := k
theorem lk_cons {tg : D → En → Option En} {body : En → Option Out} {d : D} {ds : List D} {e1 : En} (h : tg d e = some e1) (k : Ws body e1 (Lo tg body ds Q)) : Lk tg body (d :: ds) e Q := by
  obtain ⟨o, h2, k⟩ := k
  cases o with
  | nx e2 =>
    obtain ⟨o2, h3, q⟩ := k
    exact ⟨o2, by unfold loop; rw [h]; simp only [Option.bind_some]; rw [h2]; exact h3, q⟩
  | ct e2 =>
    obtain ⟨o2, h3, q⟩ := k
    exact ⟨o2, by unfold loop; rw [h]; simp only [Option.bind_some]; rw [h2]; exact h3, q⟩
  | bk e2 => exact ⟨_, by unfold loop; rw [h]; simp only [Option.bind_some]; rw [h2]; rfl, k⟩
  | rt r e2 => exact ⟨_, by unfold loop; rw [h]; simp only [Option.bind_some]; rw [h2]; rfl, k⟩
def Li (J : En → Prop) (Q : Out → Prop) : Out → Prop
  | .nx e => J e
  | .ct e => J e
  | .bk e => Q (.nx e)
  | .rt r e => Q (.rt r e)
theorem li_nx {J : En → Prop} (k : J e) : Li J Q (.nx e) := k
theorem li_ct {J : En → Prop} (k : J e) : Li J Q (.ct e) := k
theorem li_bk {J : En → Prop} (k : Q (.nx e)) : Li J Q (.bk e) := k
theorem li_rt {J : En → Prop} {r : R} (k : Q (.rt r e)) : Li J Q (.rt r e) := k
/-- by an invariant of the turn's number -/
theorem lk_inv {tg : D → En → Option En} {body : En → Option Out} {ds : List D} (I : Nat → En → Prop) (h0 : I 0 e) (hs : ∀ i d e', ds[i]? = some d → I i e' → ∃ e1, tg d e' = some e1 ∧ Ws body e1 (Li (I (i + 1)) Q)) (hd : ∀ e', I ds.length e' → Q (.nx e')) : Lk tg body ds e Q := by
  have key : ∀ n i e', ds.length - i = n → i ≤ ds.length → I i e' → Lk tg body (ds.drop i) e' Q := by
    intro n
    induction n with
    | zero =>
      intro i e' hn hi I'
      have : i = ds.length := by omega
      subst this
      rw [List.drop_length]
      exact lk_nil (hd e' I')
    | succ n ih =>
      intro i e' hn hi I'
      have hlt : i < ds.length := by omega
      rw [List.drop_eq_getElem_cons hlt]
      obtain ⟨e1, h1, h2⟩ := hs i ds[i] e' (List.getElem?_eq_getElem hlt) I'
      refine lk_cons h1 (ws_mono h2 fun o k => ?_)
      cases o with
      | nx e2 => exact ih (i + 1) e2 (by omega) hlt k
      | ct e2 => exact ih (i + 1) e2 (by omega) hlt k
      | bk e2 => exact k
      | rt r e2 => exact k
  simpa using key ds.length 0 e rfl (Nat.zero_le _) h0
theorem ws_whl_zero {c : M Bool} {body : En → Option Out} : True := trivial
/-- a while: an invariant and a measure -/
theorem ws_whl {c : M Bool} {body : En → Option Out} {n : Nat} (I : Nat → En → Prop) (m : Nat) (h0 : I m e) (hm : m < n) (hs : ∀ m e', I m e' → Wp c e' fun b e1 => if b = true then Ws body e1 (Li (fun e2 => ∃ m', m' < m ∧ I m' e2) Q) else Q (.nx e1)) : Ws (whl c body n) e Q := by
  induction n generalizing m e with
  | zero => omega
  | succ n ih =>
    obtain ⟨b, e1, h1, k⟩ := hs m e h0
    cases b with
    | false => exact ⟨_, by unfold whl; rw [h1]; rfl, k⟩
    | true =>
      obtain ⟨o, h2, k⟩ := k
      cases o with
      | nx e2 =>
        obtain ⟨m', hm', I'⟩ := k
        obtain ⟨o2, h3, q⟩ := ih m' I' (by omega)
        exact ⟨o2, by unfold whl; rw [h1]; simp only [Option.bind_some, if_true]; rw [h2]; exact h3, q⟩
      | ct e2 =>
        obtain ⟨m', hm', I'⟩ := k
        obtain ⟨o2, h3, q⟩ := ih m' I' (by omega)
        exact ⟨o2, by unfold whl; rw [h1]; simp only [Option.bind_some, if_true]; rw [h2]; exact h3, q⟩
      | bk e2 => exact ⟨_, by unfold whl; rw [h1]; simp only [Option.bind_some, if_true]; rw [h2]; rfl, k⟩
      | rt r e2 => exact ⟨_, by unfold whl; rw [h1]; simp only [Option.bind_some, if_true]; rw [h2]; rfl, k⟩
/-! defs -/
def Km (sl : List Cel) (Q : R → List Cel → Prop) : Out → Prop
  | .nx e => ∃ l, outs sl e = some l ∧ Q (.v .none) l
  | .rt r e => ∃ l, outs sl e = some l ∧ Q r l
  | _ => False
theorem km_rt {sl l : List Cel} {r : R} {Q : R → List Cel → Prop} (h : outs sl e = some l) (k : Q r l) : Km sl Q (.rt r e) := ⟨l, h, k⟩
theorem km_nx {sl l : List Cel} {Q : R → List Cel → Prop} (h : outs sl e = some l) (k : Q (.v .none) l) : Km sl Q (.nx e) := ⟨l, h, k⟩
theorem wm_run {np n : Nat} {g : En → Option Out} {sl : List Cel} {Q : R → List Cel → Prop} (h : sl.length = np) (k : Ws g (sl.map some ++ List.replicate (n - sl.length) none) (Km sl Q)) : Wm (runM np n g) sl Q := by
  obtain ⟨o, h1, k⟩ := k
  cases o with
  | nx e =>
    obtain ⟨l, h2, q⟩ := k
    exact ⟨_, l, by unfold runM; rw [if_pos h, h1]; simp only [Option.bind_some]; rw [h2]; rfl, q⟩
  | rt r e =>
    obtain ⟨l, h2, q⟩ := k
    exact ⟨_, l, by unfold runM; rw [if_pos h, h1]; simp only [Option.bind_some]; rw [h2]; rfl, q⟩
  | bk e => exact k.elim
  | ct e => exact k.elim
end
/-! ### comprehensions -/
def Kl (vs : List Nat) (g1 : D → En → Option En) (cf : M Bool) (fe : M R) (ds : List D) (e : En) (Q : R → En → Prop) : Prop := ∃ acc e2, lcLoop vs g1 cf fe ds [] e = some (acc, e2) ∧ Q (.n (.list acc)) e2
theorem wp_lc {vs : List Nat} {it : M (List D)} {g1 : D → En → Option En} {cf : M Bool} {fe : M R} {e : En} {Q : R → En → Prop} (k : Wp it e fun ds e1 => Kl vs g1 cf fe ds e1 Q) : Wp (lcE vs it g1 cf fe) e Q := by
  obtain ⟨ds, e1, h1, acc, e2, h2, q⟩ := k
  exact ⟨_, e2, by unfold lcE; rw [h1]; simp only [Option.bind_some]; rw [h2]; rfl, q⟩
/-- one turn -/
def Kt (vs : List Nat) (g1 : D → En → Option En) (cf : M Bool) (fe : M R) (d : D) (e : En) (Q : Option D → En → Prop) : Prop := ∃ e1, g1 d (wipeE e vs) = some e1 ∧ Wp cf e1 fun b e2 => if b = true then Wp fe e2 fun x e3 => KF x e3 fun y e4 => Q (some y) (back e e4 vs) else Q none (back e e2 vs)
theorem turn_of {vs : List Nat} {g1 : D → En → Option En} {cf : M Bool} {fe : M R} {d : D} {e : En} {Q : Option D → En → Prop} (h : Kt vs g1 cf fe d e Q) (acc : List D) : ∃ o e', turn vs g1 cf fe d acc e = some (acc ++ o.toList, e') ∧ Q o e' := by
  obtain ⟨e1, h1, b, e2, h2, k⟩ := h
  cases b with
  | false => exact ⟨none, _, by unfold turn; rw [h1]; simp only [Option.bind_some]; rw [h2]; simp, k⟩
  | true =>
    obtain ⟨x, e3, h3, y, e4, h4, q⟩ := k
    exact ⟨some y, _, by unfold turn; rw [h1]; simp only [Option.bind_some]; rw [h2]; simp only [Option.bind_some, if_true]; rw [h3]; simp only [Option.bind_some]; rw [h4]; rfl, q⟩
/-- a comprehension that changes nothing: f what each gives -/
theorem kl_pure {vs : List Nat} {g1 : D → En → Option En} {cf : M Bool} {fe : M R} {ds : List D} {e : En} {Q : R → En → Prop} (f : D → Option D) (ht : ∀ d ∈ ds, Kt vs g1 cf fe d e fun o e' => o = f d ∧ e' = e) (k : Q (.n (.list (ds.filterMap f))) e) : Kl vs g1 cf fe ds e Q := by
  have key : ∀ (ds : List D) (acc : List D), (∀ d ∈ ds, Kt vs g1 cf fe d e fun o e' => o = f d ∧ e' = e) → lcLoop vs g1 cf fe ds acc e = some (acc ++ ds.filterMap f, e) := by
    intro ds
    induction ds with
    | nil => intro acc _; simp [lcLoop]
    | cons d ds ih =>
      intro acc h
      obtain ⟨o, e', h1, rfl, rfl⟩ := turn_of (h d (List.mem_cons_self ..)) acc
      unfold lcLoop
      rw [h1]
      simp only [Option.bind_some]
      rw [ih _ fun x hx => h x (List.mem_cons_of_mem _ hx)]
      cases z : f d <;> simp [z]
  exact ⟨_, e, by rw [key ds [] ht]; rfl, k⟩
/-- each item gives one -/
theorem kl_map {vs : List Nat} {g1 : D → En → Option En} {cf : M Bool} {fe : M R} {ds : List D} {e : En} {Q : R → En → Prop} (f : D → D) (ht : ∀ d ∈ ds, Kt vs g1 cf fe d e fun o e' => o = some (f d) ∧ e' = e) (k : Q (.n (.list (ds.map f))) e) : Kl vs g1 cf fe ds e Q :=
  kl_pure (fun d => some (f d)) ht (by rw [List.filterMap_eq_map']; exact k)
/-- by an invariant: acc what has been made -/
theorem kl_inv {vs : List Nat} {g1 : D → En → Option En} {cf : M Bool} {fe : M R} {ds : List D} {e : En} {Q : R → En → Prop} (I : Nat → List D → En → Prop) (h0 : I 0 [] e) (hs : ∀ i d acc e', ds[i]? = some d → I i acc e' → Kt vs g1 cf fe d e' fun o e2 => I (i + 1) (acc ++ o.toList) e2) (hd : ∀ acc e', I ds.length acc e' → Q (.n (.list acc)) e') : Kl vs g1 cf fe ds e Q := by
  have key : ∀ n i acc e', ds.length - i = n → i ≤ ds.length → I i acc e' → ∃ acc2 e2, lcLoop vs g1 cf fe (ds.drop i) acc e' = some (acc2, e2) ∧ I ds.length acc2 e2 := by
    intro n
    induction n with
    | zero =>
      intro i acc e' hn hi I'
      have : i = ds.length := by omega
      subst this
      rw [List.drop_length]
      exact ⟨acc, e', rfl, I'⟩
    | succ n ih =>
      intro i acc e' hn hi I'
      have hlt : i < ds.length := by omega
      rw [List.drop_eq_getElem_cons hlt]
      obtain ⟨o, e1, h1, h2⟩ := turn_of (hs i ds[i] acc e' (List.getElem?_eq_getElem hlt) I') acc
      obtain ⟨acc2, e2, h3, h4⟩ := ih (i + 1) _ e1 (by omega) hlt h2
      exact ⟨acc2, e2, by unfold lcLoop; rw [h1]; exact h3, h4⟩
  obtain ⟨acc, e2, h1, h2⟩ := key ds.length 0 [] e rfl (Nat.zero_le _) h0
  exact ⟨acc, e2, by simpa using h1, hd acc e2 h2⟩
theorem mod_sym {i j : Int} (h : 0 < j) : modD (.int i) (.int j) = some (.v (.int (i % j))) := if_pos h
theorem div_sym {i j : Int} (h : 0 < j ∧ j < 1073741824) : divD (.int i) (.int j) = some (.v (.int (i / j))) := if_pos h
theorem mul_l {i j : Int} (h : -(2 ^ 64) < i ∧ i < 2 ^ 64) : mulD (.int i) (.int j) = some (.v (.int (i * j))) := if_pos (.inl h)
theorem mul_r {i j : Int} (h : -(2 ^ 64) < j ∧ j < 2 ^ 64) : mulD (.int i) (.int j) = some (.v (.int (i * j))) := if_pos (.inr h)
theorem pow_sym {i j : Int} (h0 : 0 ≤ j ∧ j ≤ 1000000) (h : i.natAbs < 2 ^ 64) : powD (.int i) (.int j) = some (.v (.int (i ^ j.toNat))) := if_pos ⟨h0.1, h0.2, h⟩
theorem if_dec {p : Prop} {dp : Decidable p} {A B : Prop} {j : Decidable (decide p = true)} (h1 : p → A) (h2 : ¬ p → B) : @_root_.ite Prop (decide p = true) j A B := by
  by_cases h : p
  · rw [if_pos (decide_eq_true h)]
    exact h1 h
  · rw [if_neg (by simpa using h)]
    exact h2 h
theorem if_ndec {p : Prop} {dp : Decidable p} {A B : Prop} {j : Decidable ((!decide p) = true)} (h1 : ¬ p → A) (h2 : p → B) : @_root_.ite Prop ((!decide p) = true) j A B := by
  by_cases h : p
  · rw [if_neg (by simp [h])]
    exact h2 h
  · rw [if_pos (by simp [h])]
    exact h1 h
theorem if_T {A B : Prop} {j : Decidable (true = true)} (h : A) : @_root_.ite Prop (true = true) j A B := by
  rw [if_pos rfl]
  exact h
theorem if_F {A B : Prop} {j : Decidable (false = true)} (h : B) : @_root_.ite Prop (false = true) j A B := by
  rw [if_neg Bool.false_ne_true]
  exact h
theorem if_NF {A B : Prop} {j : Decidable ((!false) = true)} (h : A) : @_root_.ite Prop ((!false) = true) j A B := if_T h
theorem if_NT {A B : Prop} {j : Decidable ((!true) = true)} (h : B) : @_root_.ite Prop ((!true) = true) j A B := if_F h
theorem if_V {b : Bool} {A B : Prop} {j : Decidable (b = true)} (h1 : b = true → A) (h2 : b = false → B) : @_root_.ite Prop (b = true) j A B := by
  cases b
  · exact if_F (h2 rfl)
  · exact if_T (h1 rfl)
theorem small_size {n : Nat} (h : n ≤ 16777216) : n ≤ sizeLine := by rw [sizeLine_eq]; exact h
/-! ### comparisons -/
theorem eqD_self : ∀ {d : D}, SeqAt.shaped d = true → eqD d d = some true
  | .int i, _ => by simp [eqD]
  | .str i, _ => by simp [eqD]
  | .bool i, _ => by simp [eqD]
  | .none, _ => by simp [eqD, SeqAt.shaped, PyData.canLay0, PyData.depth, PyData.eqv]
  | .list xs, h => by
    simp only [eqD, h, Bool.and_self, if_true]
    rw [SeqAt.eqv_refl _ (SeqAt.canLay_of_shaped h)]
  | .tuple xs, h => by
    simp only [eqD, h, Bool.and_self, if_true]
    rw [SeqAt.eqv_refl _ (SeqAt.canLay_of_shaped h)]
  | .dict xs, h => by simp [SeqAt.shaped, PyData.canLay0] at h
theorem eq_same {a b : D} (h : a = b) (hs : SeqAt.shaped a = true) : eqR a b = some (.v (.bool true)) := by
  subst h
  unfold eqR
  rw [eqD_self hs]
  rfl
theorem ne_same {a b : D} (h : a = b) (hs : SeqAt.shaped a = true) : neR a b = some (.v (.bool false)) := by
  subst h
  unfold neR
  rw [eqD_self hs]
  rfl
theorem any_ints (k : Int) (ns : List Int) : ((ns.map PyData.int).any fun y => PyData.eqv y (.int k)) = decide (k ∈ ns) := by
  induction ns with
  | nil => simp
  | cons n ns ih =>
    rw [List.map_cons, List.any_cons, ih]
    by_cases h : n = k
    · subst h; simp [PyData.eqv]
    · have h' : ¬ k = n := fun q => h q.symm
      simp [PyData.eqv, h, h', List.mem_cons]
theorem flat_ints (ns : List Int) : (ns.map PyData.int).all flatD = true := by simp [List.all_eq_true, flatD]
theorem inD_tup (k : Int) (ns : List Int) : inD (.int k) (.tuple (ns.map .int)) = some (decide (k ∈ ns)) := by
  show inSeq (.int k) (ns.map .int) = _
  unfold inSeq
  rw [flat_ints, any_ints]
  rfl
theorem inD_lst (k : Int) (ns : List Int) : inD (.int k) (.list (ns.map .int)) = some (decide (k ∈ ns)) := by
  show (if (flatD (.int k) && (ns.map PyData.int).all flatD) = true then some ((ns.map PyData.int).any fun y => y.eqv (.int k)) else _) = _
  rw [flat_ints, any_ints]
  rfl
theorem in_tup {k : Int} {ns : List Int} {ds : List D} (h : ds = ns.map .int) : inR (.int k) (.tuple ds) = some (.v (.bool (decide (k ∈ ns)))) := by
  subst h
  unfold inR
  rw [inD_tup]
  rfl
theorem in_lst {k : Int} {ns : List Int} {ds : List D} (h : ds = ns.map .int) : inR (.int k) (.list ds) = some (.v (.bool (decide (k ∈ ns)))) := by
  subst h
  unfold inR
  rw [inD_lst]
  rfl
theorem nin_tup {k : Int} {ns : List Int} {ds : List D} (h : ds = ns.map .int) : ninR (.int k) (.tuple ds) = some (.v (.bool (!decide (k ∈ ns)))) := by
  subst h
  unfold ninR
  rw [inD_tup]
  rfl
theorem nin_lst {k : Int} {ns : List Int} {ds : List D} (h : ds = ns.map .int) : ninR (.int k) (.list ds) = some (.v (.bool (!decide (k ∈ ns)))) := by
  subst h
  unfold ninR
  rw [inD_lst]
  rfl
def intsOf : List D → List Int
  | [] => []
  | .int i :: ds => i :: intsOf ds
  | _ :: ds => intsOf ds
def allInt : List D → Bool
  | [] => true
  | .int _ :: ds => allInt ds
  | _ => false
theorem intsOf_map : ∀ {ds : List D}, allInt ds = true → ds = (intsOf ds).map .int
  | [], _ => rfl
  | .int i :: ds, h => by rw [intsOf, List.map_cons, ← intsOf_map (ds := ds) h]
theorem in_tupX {k : Int} {ds : List D} (h : allInt ds = true) : inR (.int k) (.tuple ds) = some (.v (.bool (decide (k ∈ intsOf ds)))) := in_tup (intsOf_map h)
theorem in_lstX {k : Int} {ds : List D} (h : allInt ds = true) : inR (.int k) (.list ds) = some (.v (.bool (decide (k ∈ intsOf ds)))) := in_lst (intsOf_map h)
theorem nin_tupX {k : Int} {ds : List D} (h : allInt ds = true) : ninR (.int k) (.tuple ds) = some (.v (.bool (!decide (k ∈ intsOf ds)))) := nin_tup (intsOf_map h)
theorem nin_lstX {k : Int} {ds : List D} (h : allInt ds = true) : ninR (.int k) (.list ds) = some (.v (.bool (!decide (k ∈ intsOf ds)))) := nin_lst (intsOf_map h)
theorem ixN_nat {n : Nat} {i : Int} (h0 : 0 ≤ i) (h : i < n) : ixN n i = some i.toNat := by
  unfold ixN
  rw [if_pos h0, if_pos h]
theorem atI_nat {α : Type} {ds : List α} {i : Int} (h0 : 0 ≤ i) : atI ds i = ds[i.toNat]? := by
  unfold atI
  by_cases h : i < ds.length
  · rw [ixN_nat h0 h]; rfl
  · unfold ixN
    rw [if_pos h0, if_neg h, List.getElem?_eq_none (by omega)]
    rfl
theorem k2_ixL {e : En} {Q : R → En → Prop} {x y : R} {ds : List D} {i : Int} (h1 : x.get e = some (.list ds)) (h2 : y.get e = some (.int i)) (ha : allInt ds = true) (h0 : 0 ≤ i) (h : i < ds.length) (k : ∀ v, v ∈ intsOf ds → Q (.v (.int v)) e) : K2 ixD x y e Q := by
  have hl : i.toNat < (intsOf ds).length := by
    have := congrArg List.length (intsOf_map ha)
    rw [List.length_map] at this
    omega
  refine k2 h1 h2 (r := .v (.int (intsOf ds)[i.toNat])) ?_ (k _ (List.getElem_mem hl))
  show (atI ds i).map R.v = _
  rw [atI_nat h0]
  conv => lhs; rw [intsOf_map ha]
  rw [List.getElem?_map, List.getElem?_eq_getElem hl]
  rfl
theorem cat_l {a b : List D} (h : a.length + b.length ≤ 16777216) : addD (.list a) (.list b) = some (.n (.list (a ++ b))) := if_pos (small_size h)
theorem cat_t {a b : List D} (h : a.length + b.length ≤ 16777216) : addD (.tuple a) (.tuple b) = some (.v (.tuple (a ++ b))) := if_pos (small_size h)
theorem mem_int {ds : List D} {d : D} (h : allInt ds = true) (hd : d ∈ ds) : ∃ x, d = .int x ∧ x ∈ intsOf ds := by
  rw [intsOf_map h] at hd
  obtain ⟨x, h1, rfl⟩ := List.mem_map.mp hd
  exact ⟨x, rfl, h1⟩
theorem wp_yes {e : En} {Q : Bool → En → Prop} (k : Q true e) : Wp yesT e Q := ⟨_, _, rfl, k⟩
theorem kt_mk {vs : List Nat} {g1 : D → En → Option En} {cf : M Bool} {fe : M R} {d : D} {e e1 : En} {Q : Option D → En → Prop} (h : g1 d (wipeE e vs) = some e1) (k : Wp cf e1 fun b e2 => if b = true then Wp fe e2 fun x e3 => KF x e3 fun y e4 => Q (some y) (back e e4 vs) else Q none (back e e2 vs)) : Kt vs g1 cf fe d e Q := ⟨e1, h, k⟩
theorem if_bT {b : Bool} {A B : Prop} {j : Decidable (b = true)} (h : b = true) (k : A) : @_root_.ite Prop (b = true) j A B := by rw [if_pos h]; exact k
theorem if_bF {b : Bool} {A B : Prop} {j : Decidable (b = true)} (h : b = false) (k : B) : @_root_.ite Prop (b = true) j A B := by
  subst h
  exact if_F k
def Ken (ds : List D) (e : En) (Q : List D → En → Prop) : Prop := ∃ d l, ds = [d] ∧ seqD d = some l ∧ Q (enumD 0 l) e
theorem ken {d : D} {l : List D} {e : En} {Q : List D → En → Prop} (h : seqD d = some l) (k : Q (enumD 0 l) e) : Ken [d] e Q := ⟨d, l, rfl, h, k⟩
theorem wp_enum {f : M (List D)} {e : En} {Q : List D → En → Prop} (k : Wp f e fun ds e1 => Ken ds e1 Q) : Wp (enumE f) e Q := by
  obtain ⟨ds, e1, h1, d, l, rfl, h2, q⟩ := k
  exact ⟨_, e1, by unfold enumE; rw [h1]; simp only [Option.bind_some]; rw [h2]; rfl, q⟩
def Kz2 (ds : List D) (e : En) (Q : List D → En → Prop) : Prop := ∃ d d2 l l2, ds = [d, d2] ∧ seqD d = some l ∧ seqD d2 = some l2 ∧ Q (zipD l l2) e
theorem kz2 {d d2 : D} {l l2 : List D} {e : En} {Q : List D → En → Prop} (h : seqD d = some l) (h2 : seqD d2 = some l2) (k : Q (zipD l l2) e) : Kz2 [d, d2] e Q := ⟨d, d2, l, l2, rfl, h, h2, k⟩
theorem wp_zip2 {f : M (List D)} {e : En} {Q : List D → En → Prop} (k : Wp f e fun ds e1 => Kz2 ds e1 Q) : Wp (zipE2 f) e Q := by
  obtain ⟨ds, e1, h1, d, d2, l, l2, rfl, h2, h3, q⟩ := k
  exact ⟨_, e1, by unfold zipE2; rw [h1]; simp only [Option.bind_some]; rw [h2]; simp only [Option.bind_some]; rw [h3]; rfl, q⟩
def Kz3 (ds : List D) (e : En) (Q : List D → En → Prop) : Prop := ∃ d d2 d3 l l2 l3, ds = [d, d2, d3] ∧ seqD d = some l ∧ seqD d2 = some l2 ∧ seqD d3 = some l3 ∧ Q (zipD3 l l2 l3) e
theorem kz3 {d d2 d3 : D} {l l2 l3 : List D} {e : En} {Q : List D → En → Prop} (h : seqD d = some l) (h2 : seqD d2 = some l2) (h3 : seqD d3 = some l3) (k : Q (zipD3 l l2 l3) e) : Kz3 [d, d2, d3] e Q := ⟨d, d2, d3, l, l2, l3, rfl, h, h2, h3, k⟩
theorem wp_zip3 {f : M (List D)} {e : En} {Q : List D → En → Prop} (k : Wp f e fun ds e1 => Kz3 ds e1 Q) : Wp (zipE3 f) e Q := by
  obtain ⟨ds, e1, h1, d, d2, d3, l, l2, l3, rfl, h2, h3, h4, q⟩ := k
  exact ⟨_, e1, by unfold zipE3; rw [h1]; simp only [Option.bind_some]; rw [h2]; simp only [Option.bind_some]; rw [h3]; simp only [Option.bind_some]; rw [h4]; rfl, q⟩
theorem wp_isiP {T T2 : String} {f : M R} {e : En} {Q : R → En → Prop} (k : Wp f e fun x e1 => K1 (isi2D T T2) x e1 Q) : Wp (isiP T T2 f) e Q := by
  obtain ⟨x, e1, h1, dx, r, h3, h5, q⟩ := k
  exact ⟨r, e1, by unfold isiP; rw [h1]; simp only [Option.bind_some]; rw [h3]; simp only [Option.bind_some]; rw [h5]; rfl, q⟩
theorem enumD_mem : ∀ {ds : List D} {k : Nat} {d : D}, d ∈ enumD k ds → ∃ i x, d = .tuple [.int (i : Nat), x] ∧ k ≤ i ∧ i < k + ds.length ∧ ds[i - k]? = some x
  | x :: xs, k, d, h => by
    rcases List.mem_cons.mp (show d ∈ _ :: enumD (k + 1) xs from h) with rfl | h
    · exact ⟨k, x, rfl, Nat.le_refl _, by simp, by simp⟩
    · obtain ⟨i, y, rfl, h1, h2, h3⟩ := enumD_mem h
      refine ⟨i, y, rfl, by omega, by simp only [List.length_cons]; omega, ?_⟩
      have : i - k = (i - (k + 1)) + 1 := by omega
      rw [this, List.getElem?_cons_succ]
      exact h3
theorem all_true (l : List D) : allD [.list (l.map fun _ => .bool true)] = some (.v (.bool true)) := by
  have : ∀ l : List D, bools (l.map fun _ => PyData.bool true) = some (l.map fun _ => true) := by
    intro l
    induction l with
    | nil => rfl
    | cons d ds ih => rw [List.map_cons, List.map_cons, bools, ih]; rfl
  show (bools _).map _ = _
  rw [this]
  simp
theorem canLay_ints (ns : List Int) : PyData.canLayAll0 (ns.map PyData.int) = true := by
  induction ns with
  | nil => rfl
  | cons n ns ih => simp only [List.map_cons, PyData.canLayAll0, ih, PyData.canLay0, Bool.and_self]
theorem depth_ints (ns : List Int) : PyData.depthAll (ns.map PyData.int) = 0 := by
  induction ns with
  | nil => rfl
  | cons n ns ih => simp only [List.map_cons, PyData.depthAll, ih, PyData.depth, Nat.max_self]
theorem shaped_ints_t (ns : List Int) : SeqAt.shaped (.tuple (ns.map .int)) = true := by
  unfold SeqAt.shaped
  simp only [PyData.canLay0, PyData.depth, canLay_ints, depth_ints]
  rfl
theorem shaped_ints_l (ns : List Int) : SeqAt.shaped (.list (ns.map .int)) = true := by
  unfold SeqAt.shaped
  simp only [PyData.canLay0, PyData.depth, canLay_ints, depth_ints]
  rfl
theorem sIx_int {n d : Nat} {i : Int} (h0 : 0 ≤ i) : HT.sIx n d (some i) = min i.toNat n := by
  show (if i < 0 then (i + (n : Int)).toNat else min i.toNat n) = _
  rw [if_neg (by omega)]
theorem sIx_neg {n d : Nat} {i : Int} (h0 : i < 0) : HT.sIx n d (some i) = (i + (n : Int)).toNat := by
  show (if i < 0 then (i + (n : Int)).toNat else min i.toNat n) = _
  rw [if_pos h0]
theorem slt_hi {ds : List D} {i : Int} (h0 : 0 ≤ i) : slD (.tuple ds) none (some i) = some (.v (.tuple (ds.take i.toNat))) := by
  show some (R.v (.tuple (cutD ds none (some i)))) = _
  unfold cutD
  rw [sIx_int h0]
  congr 3
  show ((ds.drop 0).take (min i.toNat ds.length - 0)) = _
  rw [List.drop_zero, Nat.sub_zero]
  by_cases hi : i.toNat ≤ ds.length
  · rw [Nat.min_eq_left hi]
  · rw [Nat.min_eq_right (by omega), List.take_of_length_le (Nat.le_refl _), List.take_of_length_le (by omega)]
theorem slt_lo {ds : List D} {i : Int} (h0 : 0 ≤ i) : slD (.tuple ds) (some i) none = some (.v (.tuple (ds.drop i.toNat))) := by
  show some (R.v (.tuple (cutD ds (some i) none))) = _
  unfold cutD
  rw [sIx_int h0]
  congr 3
  show ((ds.drop (min i.toNat ds.length)).take (ds.length - min i.toNat ds.length)) = _
  rw [List.take_of_length_le (by rw [List.length_drop]; omega)]
  by_cases hi : i.toNat ≤ ds.length
  · rw [Nat.min_eq_left hi]
  · rw [Nat.min_eq_right (by omega), List.drop_of_length_le (Nat.le_refl _), List.drop_of_length_le (by omega)]
theorem sll_hi {ds : List D} {i : Int} (h0 : 0 ≤ i) : slD (.list ds) none (some i) = some (.n (.list (ds.take i.toNat))) := by
  show some (R.n (.list (cutD ds none (some i)))) = _
  unfold cutD
  rw [sIx_int h0]
  congr 3
  show ((ds.drop 0).take (min i.toNat ds.length - 0)) = _
  rw [List.drop_zero, Nat.sub_zero]
  by_cases hi : i.toNat ≤ ds.length
  · rw [Nat.min_eq_left hi]
  · rw [Nat.min_eq_right (by omega), List.take_of_length_le (Nat.le_refl _), List.take_of_length_le (by omega)]
theorem sll_lo {ds : List D} {i : Int} (h0 : 0 ≤ i) : slD (.list ds) (some i) none = some (.n (.list (ds.drop i.toNat))) := by
  show some (R.n (.list (cutD ds (some i) none))) = _
  unfold cutD
  rw [sIx_int h0]
  congr 3
  show ((ds.drop (min i.toNat ds.length)).take (ds.length - min i.toNat ds.length)) = _
  rw [List.take_of_length_le (by rw [List.length_drop]; omega)]
  by_cases hi : i.toNat ≤ ds.length
  · rw [Nat.min_eq_left hi]
  · rw [Nat.min_eq_right (by omega), List.drop_of_length_le (Nat.le_refl _), List.drop_of_length_le (by omega)]
theorem k2_ixT {e : En} {Q : R → En → Prop} {x y : R} {ns : List Int} {i : Int} (h1 : x.get e = some (.tuple (ns.map .int))) (h2 : y.get e = some (.int i)) (h0 : 0 ≤ i) (h : i < ns.length) (k : ∀ v, ns[i.toNat]? = some v → Q (.v (.int v)) e) : K2 ixD x y e Q := by
  have hl : i.toNat < ns.length := by omega
  refine k2 h1 h2 (r := .v (.int ns[i.toNat])) ?_ (k _ (List.getElem?_eq_getElem hl))
  show (atI (ns.map PyData.int) i).map R.v = _
  rw [atI_nat h0, List.getElem?_map, List.getElem?_eq_getElem hl]
  rfl
def Kdc (ds : List D) (e : En) (Q : R → En → Prop) : Prop := ∃ es, dpairs ds = some es ∧ es.length ≤ 15 ∧ Q (.n (.dict (es.foldl (fun acc q => dPut q.1 q.2 acc) []))) e
theorem kdc {ds : List D} {e : En} {Q : R → En → Prop} {es r : List (D × D)} (h1 : dpairs ds = some es) (h2 : es.length ≤ 15) (h3 : es.foldl (fun acc q => dPut q.1 q.2 acc) [] = r) (k : Q (.n (.dict r)) e) : Kdc ds e Q := by
  subst h3
  exact ⟨es, h1, h2, k⟩
theorem wp_dctE {f : M (List D)} {e : En} {Q : R → En → Prop} (k : Wp f e fun ds e1 => Kdc ds e1 Q) : Wp (dctE f) e Q := by
  obtain ⟨ds, e1, h1, es, h2, h3, q⟩ := k
  exact ⟨_, e1, by unfold dctE; rw [h1]; simp only [Option.bind_some]; rw [h2]; simp only [Option.bind_some]; rw [if_pos h3], q⟩
def KmF (T : String) (x : R) (e : En) (Q : Prop) : Prop := ∃ d0, x.get e = some d0 ∧ isT T d0 = true ∧ Q
theorem kmF {T : String} {x : R} {e : En} {Q : Prop} {d0 : D} (h1 : x.get e = some d0) (h2 : isT T d0 = true) (k : Q) : KmF T x e Q := ⟨d0, h1, h2, k⟩
def KmG (o : D → List D → Option R) (x : R) (ds : List D) (e : En) (Q : R → En → Prop) : Prop := ∃ d r, x.nf.get e = some d ∧ o d ds = some r ∧ Q r e
theorem kmG {o : D → List D → Option R} {x : R} {ds : List D} {e : En} {Q : R → En → Prop} {d : D} {r : R} (h1 : x.nf.get e = some d) (h2 : o d ds = some r) (k : Q r e) : KmG o x ds e Q := ⟨d, r, h1, h2, k⟩
theorem wp_methF {T : String} {o : D → List D → Option R} {f : M R} {g : M (List D)} {e : En} {Q : R → En → Prop} (k : Wp f e fun x e1 => KmF T x e1 (Wp g e1 fun ds e2 => KmG o x ds e2 Q)) : Wp (methF T o f g) e Q := by
  obtain ⟨x, e1, h1, d0, h2, h3, ds, e2, h4, d, r, h5, h6, q⟩ := k
  exact ⟨r, e2, by unfold methF; rw [h1]; simp only [Option.bind_some]; rw [h2]; simp only [Option.bind_some]; rw [if_pos h3, h4]; simp only [Option.bind_some]; rw [h5]; simp only [Option.bind_some]; rw [h6]; rfl, q⟩
theorem k2_ixA {e : En} {Q : R → En → Prop} {x y : R} {ds : List D} {i : Int} (h1 : x.get e = some (.list ds)) (h2 : y.get e = some (.int i)) (h0 : 0 ≤ i) (h : i < ds.length) (k : ∀ d, ds[i.toNat]? = some d → Q (.v d) e) : K2 ixD x y e Q := by
  have hl : i.toNat < ds.length := by omega
  refine k2 h1 h2 (r := .v ds[i.toNat]) ?_ (k _ (List.getElem?_eq_getElem hl))
  show (atI ds i).map R.v = _
  rw [atI_nat h0, List.getElem?_eq_getElem hl]
  rfl
theorem k2_ixTA {e : En} {Q : R → En → Prop} {x y : R} {ds : List D} {i : Int} (h1 : x.get e = some (.tuple ds)) (h2 : y.get e = some (.int i)) (h0 : 0 ≤ i) (h : i < ds.length) (k : ∀ d, ds[i.toNat]? = some d → Q (.v d) e) : K2 ixD x y e Q := by
  have hl : i.toNat < ds.length := by omega
  refine k2 h1 h2 (r := .v ds[i.toNat]) ?_ (k _ (List.getElem?_eq_getElem hl))
  show (atI ds i).map R.v = _
  rw [atI_nat h0, List.getElem?_eq_getElem hl]
  rfl
def Kmu (T : String) (x : R) (e : En) (P : Nat → Prop) : Prop := ∃ i d0, x = .b i ∧ x.get e = some d0 ∧ isT T d0 = true ∧ P i
theorem kmu {T : String} {i : Nat} {e : En} {P : Nat → Prop} {d0 : D} (h1 : (R.b i).get e = some d0) (h2 : isT T d0 = true) (k : P i) : Kmu T (.b i) e P := ⟨i, d0, rfl, h1, h2, k⟩
theorem wp_mut {T : String} {o : D → List D → Option (D × D)} {f : M R} {fs : M (List D)} {e : En} {Q : R → En → Prop} (k : Wp f e fun x e1 => Kmu T x e1 fun i => Wp fs e1 fun ds e2 => KM i o ds e2 Q) : Wp (mutM T o f fs) e Q := wp_mutM k
def Kmv (T : String) (o : D → List D → Option (D × D)) (x : R) (e : En) (Q : R → En → Prop) : Prop := ∃ i s, x = .b i ∧ e[i]? = some (some s) ∧ isT T s.d = true ∧ KM i o [] e Q
theorem kmv {T : String} {o : D → List D → Option (D × D)} {i : Nat} {e : En} {Q : R → En → Prop} {s : Cel} (h1 : e[i]? = some (some s)) (h2 : isT T s.d = true) (k : KM i o [] e Q) : Kmv T o (.b i) e Q := ⟨i, s, rfl, h1, h2, k⟩
theorem wp_mut0 {T : String} {o : D → List D → Option (D × D)} {f : M R} {e : En} {Q : R → En → Prop} (k : Wp f e fun x e1 => Kmv T o x e1 Q) : Wp (mutM0 T o f) e Q := wp_mutM0 k
theorem app_ok {ds : List D} {x : D} (h : ds.length < 16777216) : appD (.list ds) [x] = some (.list (ds ++ [x]), .none) := if_pos (by rw [sizeLine_eq]; exact h)
theorem km_ow {i : Nat} {o : D → List D → Option (D × D)} {ds : List D} {e e2 : En} {Q : R → En → Prop} {d0 d d' : D} (h1 : e[i]? = some (some (.ow d0))) (h3 : o d0 ds = some (d, d')) (h4 : put i d e = some e2) (k : Q (.v d') e2) : KM i o ds e Q := km h1 rfl h3 h4 k
theorem km_io {i : Nat} {o : D → List D → Option (D × D)} {ds : List D} {e e2 : En} {Q : R → En → Prop} {d0 d d' : D} (h1 : e[i]? = some (some (.io d0))) (h3 : o d0 ds = some (d, d')) (h4 : put i d e = some e2) (k : Q (.v d') e2) : KM i o ds e Q := km h1 rfl h3 h4 k
theorem kx_ow {o : D → D → D → Option D} {dv : D} {xi : R} {i : Nat} {e e2 : En} {Q : Out → Prop} {d0 k w : D} (h1 : e[i]? = some (some (.ow d0))) (h3 : xi.get e = some k) (h4 : o d0 k dv = some w) (h5 : put i w e = some e2) (q : Q (.nx e2)) : Kx o dv (.b i) xi e Q := kx h1 rfl h3 h4 h5 q
theorem kx_io {o : D → D → D → Option D} {dv : D} {xi : R} {i : Nat} {e e2 : En} {Q : Out → Prop} {d0 k w : D} (h1 : e[i]? = some (some (.io d0))) (h3 : xi.get e = some k) (h4 : o d0 k dv = some w) (h5 : put i w e = some e2) (q : Q (.nx e2)) : Kx o dv (.b i) xi e Q := kx h1 rfl h3 h4 h5 q
theorem setX_dict {es : List (D × D)} {k : Int} {v : D} (h : es.length < 16777216) : setXD (.dict es) (.int k) v = some (.dict (dPut (.int k) v es)) := if_pos ⟨rfl, by rw [sizeLine_eq]; exact h⟩
theorem setX_list {ds : List D} {k : Int} {v : D} (h0 : 0 ≤ k) (h : k < ds.length) : setXD (.list ds) (.int k) v = some (.list (ds.set k.toNat v)) := by
  show (ixN ds.length k).map _ = _
  rw [ixN_nat h0 h]
  rfl
theorem isT_dict {es : List (D × D)} (h : nx es = true) : isT "dict" (.dict es) = true := by
  show ("dict" == "dict" && nx es) = true
  rw [h]; rfl
theorem in_dict {es : List (D × D)} {k : Int} (h : nx es = true) : inR (.int k) (.dict es) = some (.v (.bool (dFind (.int k) es).isSome)) := by
  have e : inD (.int k) (.dict es) = some (dFind (.int k) es).isSome := if_pos ⟨rfl, h⟩
  unfold inR; rw [e]; rfl
theorem nin_dict {es : List (D × D)} {k : Int} (h : nx es = true) : ninR (.int k) (.dict es) = some (.v (.bool (!(dFind (.int k) es).isSome))) := by
  have e : inD (.int k) (.dict es) = some (dFind (.int k) es).isSome := if_pos ⟨rfl, h⟩
  unfold ninR; rw [e]; rfl
theorem nx_put {k v : D} (hk : keyB k = true) : ∀ {es : List (D × D)}, nx es = true → nx (dPut k v es) = true
  | [], _ => by cases k <;> first | rfl | cases hk
  | (a, w) :: r, h => by
    unfold dPut
    split <;> (cases a <;> first | rfl | exact h)
theorem eqK_int {i j : Int} : eqK (.int i) (.int j) = decide (i = j) := rfl
theorem dFind_put {j k : Int} {v : D} : ∀ {es : List (D × D)}, dFind (.int j) (dPut (.int k) v es) = if k = j then some v else dFind (.int j) es
  | [] => by
    show (if eqK (.int k) (.int j) = true then some v else none) = _
    rw [eqK_int]
    by_cases h : k = j <;> simp [h, dFind]
  | (a, w) :: es => by
    unfold dPut
    by_cases h1 : eqK a (.int k) = true
    · rw [if_pos h1]
      unfold dFind
      cases a with
      | int i =>
        rw [eqK_int] at h1
        have : i = k := of_decide_eq_true h1
        subst this
        rw [eqK_int]
        by_cases h : i = j <;> simp [h]
      | _ => exact absurd h1 (by simp [eqK])
    · rw [if_neg h1]
      unfold dFind
      rw [dFind_put]
      by_cases h2 : eqK a (.int j) = true
      · rw [if_pos h2, if_pos h2]
        cases a with
        | int i =>
          rw [eqK_int] at h1 h2
          have : i = j := of_decide_eq_true h2
          subst this
          have : ¬ k = i := fun e => h1 (by simp [e])
          rw [if_neg this]
        | _ => exact absurd h2 (by simp [eqK])
      · rw [if_neg h2, if_neg h2]
theorem dPut_len {k v : D} : ∀ {es : List (D × D)}, (dPut k v es).length ≤ es.length + 1
  | [] => Nat.le_refl _
  | (a, w) :: es => by
    unfold dPut
    split
    · simp
    · simp only [List.length_cons]
      have := dPut_len (k := k) (v := v) (es := es)
      omega
theorem sortI_le (ns : List Int) : (sortI ns).Pairwise (· ≤ ·) := by
  have h1 : (sortI ns).Pairwise fun a b => (decide (a ≤ b)) = true := List.pairwise_mergeSort (fun a b c h1 h2 => by simp at *; omega) (fun a b => by simp; omega) ns
  exact h1.imp fun h => by simpa using h
theorem sortI_perm (ns : List Int) : (sortI ns).Perm ns := List.mergeSort_perm ns _
theorem mem_sortI {ns : List Int} {k : Int} : k ∈ sortI ns ↔ k ∈ ns := (sortI_perm ns).mem_iff
theorem intsD_map : ∀ ns : List Int, intsD (ns.map .int) = some ns
  | [] => rfl
  | n :: ns => by rw [List.map_cons, intsD, intsD_map]; rfl
theorem sorted_ok {ns : List Int} : sortedD [.list (ns.map .int)] = some (.n (.list ((sortI ns).map .int))) := by
  show (intsD _).map _ = _
  rw [intsD_map]
  rfl
theorem is_some_intsD {ds : List D} {ns : List Int} (h : ds = ns.map .int) : intsD ds = some ns := by rw [h, intsD_map]
theorem eq_nil_l {ds : List D} (h : SeqAt.shaped (.list ds) = true) : eqR (.list ds) (.list []) = some (.v (.bool ds.isEmpty)) := by
  show ((if (SeqAt.shaped (.list ds) && SeqAt.shaped (.list [])) = true then some (PyData.eqv (.list ds) (.list [])) else none).map _) = _
  rw [h]
  cases ds with
  | nil => rfl
  | cons d ds => simp [PyData.eqv, PyData.eqvAll, show SeqAt.shaped (PyData.list []) = true from rfl]
theorem ix_last {ns : List Int} {x : Int} : ixD (.list ((ns ++ [x]).map .int)) (.int (-1)) = some (.v (.int x)) := by
  show (atI _ (-1)).map R.v = _
  unfold atI ixN
  rw [if_neg (by omega), if_pos (by simp; omega)]
  have e : (-1 + (((ns ++ [x]).map PyData.int).length : Int)).toNat = (ns.map PyData.int).length := by simp; omega
  show (((ns ++ [x]).map PyData.int)[(-1 + (((ns ++ [x]).map PyData.int).length : Int)).toNat]?).map R.v = _
  rw [e, List.map_append, List.getElem?_append_right (Nat.le_refl _)]
  simp
theorem bin_any {l : List D} : anyD [.list (l.map fun _ => .bool false)] = some (.v (.bool false)) := by
  have : ∀ l : List D, bools (l.map fun _ => PyData.bool false) = some (l.map fun _ => false) := by
    intro l
    induction l with
    | nil => rfl
    | cons d ds ih => rw [List.map_cons, List.map_cons, bools, ih]; rfl
  show (bools _).map _ = _
  rw [this]
  simp
/-! ### names whose value does not matter -/
def fre : Option (D × Bool) → Option Cel
  | none => none
  | some (d, true) => some (.ow d)
  | some (d, false) => some (.fz d)
def stoX (x : Option (Option Cel)) (e : En) : Option En := match x with
  | some (some (.io _)) => none
  | some _ => some e
  | none => none
theorem sto_go (i : Nat) (s : Cel) (e : En) : sto i s e = stoX e[i]? (e.set i (some s)) := rfl
theorem stoX_none (e : En) : stoX (some none) e = some e := rfl
theorem stoX_fz (d : D) (e : En) : stoX (some (some (.fz d))) e = some e := rfl
theorem stoX_ow (d : D) (e : En) : stoX (some (some (.ow d))) e = some e := rfl
theorem stoX_fre (x : Option (D × Bool)) (e : En) : stoX (some (fre x)) e = some e := by
  rcases x with _ | ⟨d, _ | _⟩ <;> rfl
def Frs (n : Nat) (t : En) : Prop := ∃ xs : List (Option (D × Bool)), t = xs.map fre ∧ xs.length = n
theorem frs_nil : Frs 0 [] := ⟨[], rfl, rfl⟩
theorem frs_none {n : Nat} {t : En} (h : Frs n t) : Frs (n + 1) (none :: t) := by
  obtain ⟨xs, rfl, rfl⟩ := h
  exact ⟨none :: xs, rfl, rfl⟩
theorem frs_fz {n : Nat} {t : En} {d : D} (h : Frs n t) : Frs (n + 1) (some (.fz d) :: t) := by
  obtain ⟨xs, rfl, rfl⟩ := h
  exact ⟨some (d, false) :: xs, rfl, rfl⟩
theorem frs_ow {n : Nat} {t : En} {d : D} (h : Frs n t) : Frs (n + 1) (some (.ow d) :: t) := by
  obtain ⟨xs, rfl, rfl⟩ := h
  exact ⟨some (d, true) :: xs, rfl, rfl⟩
theorem frs_fre {n : Nat} {t : En} {x : Option (D × Bool)} (h : Frs n t) : Frs (n + 1) (fre x :: t) := by
  obtain ⟨xs, rfl, rfl⟩ := h
  exact ⟨x :: xs, rfl, rfl⟩
theorem frs0 {t : En} (h : Frs 0 t) : t = [] := by
  obtain ⟨xs, rfl, h⟩ := h
  rw [List.length_eq_zero_iff.mp h]
  rfl
theorem frsS {n : Nat} {t : En} (h : Frs (n + 1) t) : ∃ x t', t = fre x :: t' ∧ Frs n t' := by
  obtain ⟨xs, rfl, h⟩ := h
  cases xs with
  | nil => cases h
  | cons x xs => exact ⟨x, xs.map fre, rfl, xs, rfl, by simpa using h⟩
/-- a for whose names are of no matter after it: e' = a ++ t -/
theorem lk_fre {tg : D → En → Option En} {body : En → Option Out} {ds : List D} {Q : Out → Prop} {a t : En} (n : Nat) (h0 : Frs n t) (hs : ∀ d ∈ ds, ∀ t, Frs n t → ∃ e1, tg d (a ++ t) = some e1 ∧ Ws body e1 (Li (fun e2 => ∃ t2, e2 = a ++ t2 ∧ Frs n t2) Q)) (hd : ∀ t, Frs n t → Q (.nx (a ++ t))) : Lk tg body ds (a ++ t) Q := by
  refine lk_inv (fun _ e' => ∃ t2, e' = a ++ t2 ∧ Frs n t2) ⟨t, rfl, h0⟩ (fun i d e' hi he => ?_) (fun e' he => ?_)
  · obtain ⟨t2, rfl, h2⟩ := he
    exact hs d (List.mem_of_getElem? hi) t2 h2
  · obtain ⟨t2, rfl, h2⟩ := he
    exact hd t2 h2
theorem kcx {m : Mm} {rs : List R} {e : En} {Q : R → En → Prop} {ds : List D} {sl : List Cel} (h1 : getAll rs e = some ds) (h2 : ds.map .fz = sl) (k : Wm m sl fun r _ => (okR r || !(rs.any isB)) = true ∧ Q r e) : KC m rs e Q := by
  subst h2
  exact kc h1 k
theorem okB {r : R} {rs : List R} (h : rs.any isB = false) : (okR r || !(rs.any isB)) = true := by rw [h]; simp
theorem okr {m : Mm} {rs : List R} {e : En} {Q : R → En → Prop} {ds : List D} {r : R} {out : List Cel} (h1 : getAll rs e = some ds) (h : m (ds.map .fz) = some (r, out)) (h2 : (okR r || !(rs.any isB)) = true) (k : Q r e) : KC m rs e Q := kc h1 (wm_eq h ⟨h2, k⟩)
theorem wm_out {m : Mm} {sl : List Cel} {r : R} {out : List Cel} (h : Wm m sl fun r' out' => r' = r ∧ out' = out) : m sl = some (r, out) := by
  obtain ⟨r', out', h1, rfl, rfl⟩ := h
  exact h1
end Sl

set_option Elab.async false
set_option linter.all false
set_option maxRecDepth 100000
set_option maxHeartbeats 2000000
set_option autoImplicit false
/-! extend, insert. -/
namespace Sl
open PySem PySem.Spec PyProof.Rows L2 Evl
open AutoSeq1 (wpAny_loadPart')
theorem ext_l (l : Addr) (items : Array Value) (n : Nat) (b : Addr) (items2 : Array Value) (n2 : Nat) (sl : Array (Option Value)) (hc0 : ¬(!items.isEmpty && Builtin.List.listTooLong (items.size + items2.size)) = true) (hc1 : items.size ≤ sizeLine) (hs2 : items.size + items2.size ≤ sizeLine + 1) :
    Meets (Builtin.«list.extend» ⟨[.ref l, .ref b], []⟩) (fun _ R s => s.heap.get? l = some { cls := .type "list", dict := none, data := .seq items n } ∧ s.heap.get? b = some { cls := .type "list", dict := none, data := .seq items2 n2, slots := sl } ∧ R (.ok (.ret Value.none)) { s with heap := s.heap.update l (Obj.mapSeq fun x => x ++ items2), toks := s.toks }) :=
  .of_wp fun prog w A R s h => by
    obtain ⟨hp, g, d, tk, os⟩ := s
    obtain ⟨hl, hb, h⟩ := h
    have f1 := AutoSeq1.idx_int; have f2 := AutoSeq1.sub_tuple_tuple; have f3 := AutoSeq1.sub_list_list; have f4 := AutoSeq1.sub_tuple_list; have f5 := AutoSeq1.sub_list_tuple
    have hz' : (items ++ items2).size ≤ sizeLine + 1 := by rw [Array.size_append]; exact hs2
    wp_walk using (wpAny_updateSeq hl rfl (hz := hc1) (_hz' := hz')), wpAny_loadPart' hl, wpAny_loadPart' hb
    exact ⟨_, rfl, h⟩
theorem ext_t (l : Addr) (items : Array Value) (n : Nat) (b : Addr) (items2 : Array Value) (n2 : Nat) (dd : Option Addr) (sl : Array (Option Value)) (hc0 : ¬(!items.isEmpty && Builtin.List.listTooLong (items.size + items2.size)) = true) (hc1 : items.size ≤ sizeLine) (hs2 : items.size + items2.size ≤ sizeLine + 1) :
    Meets (Builtin.«list.extend» ⟨[.ref l, .ref b], []⟩) (fun _ R s => s.heap.get? l = some { cls := .type "list", dict := none, data := .seq items n } ∧ s.heap.get? b = some { cls := .type "tuple", dict := dd, data := .seq items2 n2, slots := sl } ∧ R (.ok (.ret Value.none)) { s with heap := s.heap.update l (Obj.mapSeq fun x => x ++ items2), toks := s.toks }) :=
  .of_wp fun prog w A R s h => by
    obtain ⟨hp, g, d, tk, os⟩ := s
    obtain ⟨hl, hb, h⟩ := h
    have f1 := AutoSeq1.idx_int; have f2 := AutoSeq1.sub_tuple_tuple; have f3 := AutoSeq1.sub_list_list; have f4 := AutoSeq1.sub_tuple_list; have f5 := AutoSeq1.sub_list_tuple
    have hz' : (items ++ items2).size ≤ sizeLine + 1 := by rw [Array.size_append]; exact hs2
    wp_walk using (wpAny_updateSeq hl rfl (hz := hc1) (_hz' := hz')), wpAny_loadPart' hl, wpAny_loadPart' hb
    exact ⟨_, rfl, h⟩
def rExtS (K : PySem.W.Frag) : V → List V → Hp → VK → Prop := fun x vs H Q => ∃ t l b xs zs, x = .ref l ∧ vs = [.ref b] ∧ H l = some (.lst xs) ∧ SqG t K H b zs ∧ xs.length + zs.length ≤ sizeLine ∧ Q .non (upd H l (.lst (xs ++ zs)))
theorem mt_extS {X : Cx} : MtR X "list.extend" (rExtS X.K) := by
  intro pins s σ H x vs v us Q I rx rv h
  obtain ⟨t, l, b, xs, zs, rfl, rfl, hH, hB, hz, q⟩ := h
  cases rx
  obtain ⟨u, rfl, ru⟩ := rv.one
  cases ru
  obtain ⟨z, its, n, r, hl, e⟩ := I.lstM hH
  cases t with
  | false =>
    obtain ⟨its2, r2, ⟨⟨c2, dd2, dt2, sl2⟩, n2, e2, hc, hd, hs⟩, z2⟩ := I.list (show SqL X.K H b zs from hB)
    simp only at hc hd hs
    subst hc hd hs
    have hl2 := r2.length
    have hsz : its.toArray.size + its2.toArray.size ≤ sizeLine := by rw [List.size_toArray, List.size_toArray]; omega
    have hlong : ¬ (!its.toArray.isEmpty && Builtin.List.listTooLong (its.toArray.size + its2.toArray.size)) = true := by
      rw [notLongL hsz, Bool.and_false]
      exact Bool.false_ne_true
    refine call_meets F.slot_list_extend ⟨_, e, rfl⟩ F.entry_list_extend (F.args_list_extend_2 _ _) (ext_l l its.toArray n b its2.toArray n2 sl2 hlong (by rw [List.size_toArray]; omega) (by omega)) ⟨e, e2, ?_⟩
    refine ⟨.non, _, I.lset (its' := its ++ its2) hH e (by simp) (r.append r2) ?_, rfl, q⟩
    rw [List.length_append]
    omega
  | true =>
    obtain ⟨its2, r2, ⟨⟨c2, dd2, dt2, sl2⟩, e2, hc, n2, hs⟩, z2⟩ := I.tuple (show SqT X.K H b zs from hB)
    simp only at hc hs
    subst hc hs
    have hl2 := r2.length
    have hsz : its.toArray.size + its2.toArray.size ≤ sizeLine := by rw [List.size_toArray, List.size_toArray]; omega
    have hlong : ¬ (!its.toArray.isEmpty && Builtin.List.listTooLong (its.toArray.size + its2.toArray.size)) = true := by
      rw [notLongL hsz, Bool.and_false]
      exact Bool.false_ne_true
    refine call_meets F.slot_list_extend ⟨_, e, rfl⟩ F.entry_list_extend (F.args_list_extend_2 _ _) (ext_t l its.toArray n b its2.toArray n2 dd2 sl2 hlong (by rw [List.size_toArray]; omega) (by omega)) ⟨e, e2, ?_⟩
    refine ⟨.non, _, I.lset (its' := its ++ its2) hH e (by simp) (r.append r2) ?_, rfl, q⟩
    rw [List.length_append]
    omega
/-! ### on data -/
def extD : D → List D → Option (D × D)
  | .list ds, [x] => (seqD x).bind fun es => if ds.length + es.length ≤ sizeLine then some (.list (ds ++ es), .none) else none
  | _, _ => none
def insD : D → List D → Option (D × D)
  | .list ds, [.int i, x] => if ds.length < sizeLine ∧ 0 ≤ i ∧ i < 2 ^ 63 then some (.list (ds.take i.toNat ++ [x] ++ ds.drop i.toNat), .none) else none
  | _, _ => none
section
variable {K : PySem.W.Frag}
theorem l_ext : MuL K (rExtS K) extD := by
  intro F H a ob dx vs ds dx' res s ha ho hv h Q q
  obtain ⟨xs, ds', rfl, rfl, r⟩ := LO ho (by rintro ⟨es, rfl⟩; cases h)
  cases hv with
  | nil => cases h
  | cons h1 hs =>
    cases hs with
    | cons _ _ => cases h
    | nil =>
      obtain ⟨es, h2, h3⟩ := bind_some h
      split at h3
      · rename_i hl
        cases h3
        obtain ⟨t, b, zs, rfl, hq, _, ra⟩ := sq_rep s h1 h2
        exact ⟨t, a, b, xs, zs, rfl, rfl, ha, hq, by rw [r.length, ra.length]; exact hl, q .non (.lst _) (r.append ra) .non⟩
      · cases h3
theorem l_ins : MuL K (fun x vs H Q => ∃ (l : Addr) (xs : List V) (i : Int) (y : V), x = .ref l ∧ vs = [.int i, y] ∧ H l = some (.lst xs) ∧ xs.length < sizeLine ∧ 0 ≤ i ∧ i < 2 ^ 63 ∧ Q .non (upd H l (.lst (xs.take i.toNat ++ [y] ++ xs.drop i.toNat)))) insD := by
  intro F H a ob dx vs ds dx' res s ha ho hv h Q q
  obtain ⟨xs, ds', rfl, rfl, r⟩ := LO ho (by rintro ⟨es, rfl⟩; cases h)
  match ds, hv, h with
  | [], _, h => cases h
  | [_], _, h => exact absurd h (by unfold insD; simp)
  | _ :: _ :: _ :: _, _, h => exact absurd h (by unfold insD; simp)
  | [d, x], .cons h1 (.cons h2 .nil), h =>
    cases d with
    | int i =>
      simp only [insD] at h
      split at h
      · rename_i hl
        cases h
        cases h1
        exact ⟨a, xs, i, _, rfl, rfl, ha, by rw [r.length]; exact hl.1, hl.2.1, hl.2.2, q .non (.lst _) (((r.take _).append (.cons h2 .nil)).append (r.drop _)) .non⟩
      · cases h
    | _ => exact absurd h (by unfold insD; simp)
end
section
variable {ι : Type} {K : PySem.W.Frag} {X : ι → Cx} {a v v2 : Expr} {fo : M R} {fs : M (List D)} {pos apos : Pos}
theorem so_ext (ho : SoE K X a fo) (ha : SoA K X [v] fs) (hK : ∀ i, (X i).K = K := by intro _; rfl)
    (hbase : ∀ i, attributeBase a "extend" (X i).env (eval a (X i).env) = eval a (X i).env := by intro _; rfl)
    (hfew : ∀ i, ((backTo pos (starEach [v] (X i).env)).all (fun x => !x.1) && (backToKw pos (keywordEach [] (X i).env)).all (fun x => x.1.isSome)
      && decide ([v].length + ([] : List Keyword).length + (if ([] : List Keyword).isEmpty then 0 else 1) < 30)) = true := by intro _; rfl)
    (hline : (apos.endLine == pos.line) = true := by rfl) (hs : ∀ i, starEach [v] (X i).env = (false, eval v (X i).env) :: starEach [] (X i).env := by intro _; rfl) : SoE K X (.Call (.Attribute a "extend" apos) [v] [] pos) (mutM "list" extD fo fs) :=
  so_mut PySem.F.plainAttrs_list PySem.F.slot_list_extend PySem.F.type_list_extend (fun i => by have := mt_extS (X := X i); rw [hK i] at this; exact this) l_ext ho ha hK hbase hfew hline hs
theorem so_ins (ho : SoE K X a fo) (ha : SoA K X [v, v2] fs) (hK : ∀ i, (X i).K = K := by intro _; rfl)
    (hbase : ∀ i, attributeBase a "insert" (X i).env (eval a (X i).env) = eval a (X i).env := by intro _; rfl)
    (hfew : ∀ i, ((backTo pos (starEach [v, v2] (X i).env)).all (fun x => !x.1) && (backToKw pos (keywordEach [] (X i).env)).all (fun x => x.1.isSome)
      && decide ([v, v2].length + ([] : List Keyword).length + (if ([] : List Keyword).isEmpty then 0 else 1) < 30)) = true := by intro _; rfl)
    (hline : (apos.endLine == pos.line) = true := by rfl) (hs : ∀ i, starEach [v, v2] (X i).env = (false, eval v (X i).env) :: starEach [v2] (X i).env := by intro _; rfl) (hplain : ∀ i, (backTo pos (starEach [v2] (X i).env)).any (·.1) = false := by intro _; rfl) : SoE K X (.Call (.Attribute a "insert" apos) [v, v2] [] pos) (mutM "list" insD fo fs) :=
  so_mut PySem.F.plainAttrs_list PySem.F.slot_list_insert PySem.F.type_list_insert (fun _ => mt_insert) l_ins ho ha hK hbase hfew hline hs hplain
end
end Sl

set_option Elab.async false
set_option linter.all false
set_option maxRecDepth 100000
set_option maxHeartbeats 2000000
set_option autoImplicit false
/-! Steps for extend, insert. -/
namespace Sl
open PySem L2
theorem ext_ok {ds es : List D} {x : D} (h : seqD x = some es) (hl : ds.length + es.length ≤ 16777216) : extD (.list ds) [x] = some (.list (ds ++ es), .none) := by
  show (seqD x).bind (fun es => if ds.length + es.length ≤ sizeLine then some (PyData.list (ds ++ es), PyData.none) else none) = _
  rw [h]
  exact if_pos (small_size hl)
theorem ins_ok {ds : List D} {i : Int} {x : D} (h : ds.length < 16777216 ∧ 0 ≤ i ∧ i < 2 ^ 63) : insD (.list ds) [.int i, x] = some (.list (ds.take i.toNat ++ [x] ++ ds.drop i.toNat), .none) := if_pos ⟨by rw [sizeLine_eq]; exact h.1, h.2⟩
end Sl

set_option Elab.async false
set_option linter.all false
set_option maxRecDepth 100000
set_option maxHeartbeats 2000000
set_option autoImplicit false
/-! Loops by masks: names that are kept, names that are free. -/
namespace Sl
open PySem L2
/-- all fillings of the free names (false) -/
def AllM : List Bool → En → (En → Prop) → Prop
  | true :: m, c :: e, P => AllM m e fun t => P (c :: t)
  | false :: m, _ :: e, P => ∀ x, AllM m e fun t => P (fre x :: t)
  | _, e, P => P e
/-- agrees where kept; free else -/
def InM : List Bool → En → En → Prop
  | true :: m, c :: e, t => ∃ t', t = c :: t' ∧ InM m e t'
  | false :: m, _ :: e, t => ∃ x t', t = fre x :: t' ∧ InM m e t'
  | _, e, t => t = e
theorem inM_k {m : List Bool} {c : Option Cel} {e t : En} (h : InM m e t) : InM (true :: m) (c :: e) (c :: t) := ⟨t, rfl, h⟩
theorem inM_none {m : List Bool} {c : Option Cel} {e t : En} (h : InM m e t) : InM (false :: m) (c :: e) (none :: t) := ⟨none, t, rfl, h⟩
theorem inM_fz {m : List Bool} {c : Option Cel} {e t : En} {d : D} (h : InM m e t) : InM (false :: m) (c :: e) (some (.fz d) :: t) := ⟨some (d, false), t, rfl, h⟩
theorem inM_ow {m : List Bool} {c : Option Cel} {e t : En} {d : D} (h : InM m e t) : InM (false :: m) (c :: e) (some (.ow d) :: t) := ⟨some (d, true), t, rfl, h⟩
theorem inM_fre {m : List Bool} {c : Option Cel} {e t : En} {x : Option (D × Bool)} (h : InM m e t) : InM (false :: m) (c :: e) (fre x :: t) := ⟨x, t, rfl, h⟩
theorem inM_nil {e : En} : InM [] e e := rfl
theorem allM_in : ∀ {m : List Bool} {e t : En} {P : En → Prop}, AllM m e P → InM m e t → P t
  | true :: m, c :: e, t, P, h, ⟨t', e1, h1⟩ => by
    subst e1
    exact allM_in (P := fun t => P (c :: t)) h h1
  | false :: m, c :: e, t, P, h, ⟨x, t', e1, h1⟩ => by
    subst e1
    exact allM_in (P := fun t => P (fre x :: t)) (h x) h1
  | [], e, t, P, h, h1 => by
    have h1 : t = e := h1
    subst h1
    exact h
  | true :: m, [], t, P, h, h1 => by
    have h1 : t = [] := h1
    subst h1
    exact h
  | false :: m, [], t, P, h, h1 => by
    have h1 : t = [] := h1
    subst h1
    exact h
section
variable {Q : Out → Prop} {tg : D → En → Option En} {body : En → Option Out}
/-- a for: st what is kept between the turns, env the names by it -/
theorem lk_st {α : Type} (m : List Bool) (env : α → En) (J : Nat → α → Prop) (a0 : α) {ds : List D} {e : En} (he : InM m (env a0) e) (h0 : J 0 a0)
    (hs : ∀ i d a, ds[i]? = some d → J i a → AllM m (env a) fun e' => ∃ e1, tg d e' = some e1 ∧ Ws body e1 (Li (fun e2 => ∃ a', InM m (env a') e2 ∧ J (i + 1) a') Q))
    (hd : ∀ a, J ds.length a → AllM m (env a) fun e' => Q (.nx e')) : Lk tg body ds e Q := by
  refine lk_inv (fun i e' => ∃ a, InM m (env a) e' ∧ J i a) ⟨a0, he, h0⟩ (fun i d e' hi ⟨a, h1, h2⟩ => ?_) fun e' ⟨a, h1, h2⟩ => ?_
  · exact allM_in (P := fun e' => ∃ e1, tg d e' = some e1 ∧ Ws body e1 (Li (fun e2 => ∃ a', InM m (env a') e2 ∧ J (i + 1) a') Q)) (hs i d a hi h2) h1
  · exact allM_in (P := fun e' => Q (.nx e')) (hd a h2) h1
/-- nothing is kept but what stays -/
theorem lk_ms (m : List Bool) {ds : List D} {e : En} (he : InM m e e) (hs : ∀ d ∈ ds, AllM m e fun e' => ∃ e1, tg d e' = some e1 ∧ Ws body e1 (Li (fun e2 => InM m e e2) Q))
    (hd : AllM m e fun e' => Q (.nx e')) : Lk tg body ds e Q := by
  refine lk_inv (fun i e' => InM m e e') he (fun i d e' hi h1 => ?_) fun e' h1 => ?_
  · exact allM_in (P := fun e' => ∃ e1, tg d e' = some e1 ∧ Ws body e1 (Li (fun e2 => InM m e e2) Q)) (hs d (List.mem_of_getElem? hi)) h1
  · exact allM_in (P := fun e' => Q (.nx e')) hd h1
/-- a while, by a measure -/
theorem ws_st {α : Type} (m : List Bool) (env : α → En) (J : Nat → α → Prop) (n0 : Nat) (a0 : α) {c : M Bool} {n : Nat} {e : En} (hn : n0 < n) (he : InM m (env a0) e) (h0 : J n0 a0)
    (hs : ∀ k a, J k a → AllM m (env a) fun e' => Wp c e' fun b e1 => if b = true then Ws body e1 (Li (fun e2 => ∃ k' a', k' < k ∧ InM m (env a') e2 ∧ J k' a') Q) else Q (.nx e1)) : Ws (whl c body n) e Q := by
  refine ws_whl (fun k e' => ∃ a, InM m (env a) e' ∧ J k a) n0 ⟨a0, he, h0⟩ hn fun k e' ⟨a, h1, h2⟩ => ?_
  have := allM_in (P := fun e' => Wp c e' fun b e1 => if b = true then Ws body e1 (Li (fun e2 => ∃ k' a', k' < k ∧ InM m (env a') e2 ∧ J k' a') Q) else Q (.nx e1)) (hs k a h2) h1
  refine wp_mono this fun b e1 h => ?_
  cases b with
  | true =>
    refine ws_mono h fun o h => ?_
    cases o with
    | nx e2 => obtain ⟨k', a', q1, q2, q3⟩ := h; exact ⟨k', q1, a', q2, q3⟩
    | ct e2 => obtain ⟨k', a', q1, q2, q3⟩ := h; exact ⟨k', q1, a', q2, q3⟩
    | bk e2 => exact h
    | rt r e2 => exact h
  | false => exact h
end
/-- a comprehension that keeps a state -/
theorem kl_st {α : Type} {vs : List Nat} {g1 : D → En → Option En} {cf : M Bool} {fe : M R} {ds : List D} {e : En} {Q : R → En → Prop} (env : α → En) (J : Nat → List D → α → Prop) (a0 : α) (he : e = env a0) (h0 : J 0 [] a0)
    (hs : ∀ i d acc a, ds[i]? = some d → J i acc a → Kt vs g1 cf fe d (env a) fun o e2 => ∃ a', e2 = env a' ∧ J (i + 1) (acc ++ o.toList) a')
    (hd : ∀ acc a, J ds.length acc a → Q (.n (.list acc)) (env a)) : Kl vs g1 cf fe ds e Q :=
  kl_inv (fun i acc e' => ∃ a, e' = env a ∧ J i acc a) ⟨a0, he, h0⟩ (fun i d acc e' hi ⟨a, h1, h2⟩ => by subst h1; exact hs i d acc a hi h2) fun acc e' ⟨a, h1, h2⟩ => by subst h1; exact hd acc a h2
theorem k2_ixM {e : En} {Q : R → En → Prop} {x y : R} {ns : List Int} {i : Int} (h1 : x.get e = some (.list (ns.map .int))) (h2 : y.get e = some (.int i)) (h0 : 0 ≤ i) (h : i < ns.length) (k : ∀ v, ns[i.toNat]? = some v → Q (.v (.int v)) e) : K2 ixD x y e Q := by
  have hl : i.toNat < ns.length := by omega
  refine k2 h1 h2 (r := .v (.int ns[i.toNat])) ?_ (k _ (List.getElem?_eq_getElem hl))
  show (atI (ns.map PyData.int) i).map R.v = _
  rw [atI_nat h0, List.getElem?_map, List.getElem?_eq_getElem hl]
  rfl
theorem k2_ixMg {e : En} {Q : R → En → Prop} {x y : R} {ns : List Int} {i : Int} (h1 : x.get e = some (.list (ns.map .int))) (h2 : y.get e = some (.int i)) (h0 : 0 ≤ i) (h : i < ns.length) (k : Q (.v (.int (ns.getD i.toNat 0))) e) : K2 ixD x y e Q :=
  k2_ixM h1 h2 h0 h fun v hv => by rw [List.getD_eq_getElem?_getD, hv] at k; exact k
theorem k2_ixTg {e : En} {Q : R → En → Prop} {x y : R} {ns : List Int} {i : Int} (h1 : x.get e = some (.tuple (ns.map .int))) (h2 : y.get e = some (.int i)) (h0 : 0 ≤ i) (h : i < ns.length) (k : Q (.v (.int (ns.getD i.toNat 0))) e) : K2 ixD x y e Q :=
  k2_ixT h1 h2 h0 h fun v hv => by rw [List.getD_eq_getElem?_getD, hv] at k; exact k
theorem allInt_map (ns : List Int) : allInt (ns.map .int) = true := by
  induction ns with
  | nil => rfl
  | cons n ns ih => exact ih
theorem enumD_get : ∀ {l : List D} {k i : Nat} {e : D}, (enumD k l)[i]? = some e → ∃ z, l[i]? = some z ∧ e = .tuple [.int ((k + i : Nat) : Int), z]
  | [], k, i, e, h => by simp [enumD] at h
  | z :: zs, k, 0, e, h => by simp [enumD] at h; exact ⟨z, by simp, by simp [← h]⟩
  | z :: zs, k, i + 1, e, h => by
    simp only [enumD, List.getElem?_cons_succ] at h
    obtain ⟨z', h1, h2⟩ := enumD_get h
    exact ⟨z', by simpa using h1, by rw [h2]; congr 3; omega⟩
theorem if_dN {p : Prop} {dp : Decidable p} {A B : Prop} {j : Decidable (decide p = true)} (h : ¬ p) (k : B) : @_root_.ite Prop (decide p = true) j A B := if_dec (fun q => absurd q h) fun _ => k
theorem if_dY {p : Prop} {dp : Decidable p} {A B : Prop} {j : Decidable (decide p = true)} (h : p) (k : A) : @_root_.ite Prop (decide p = true) j A B := if_dec (fun _ => k) fun q => absurd h q
/-- how many turns a range has -/
theorem rngD_len {i : Int} {n : Nat} : (rngD i n).length = n := by simp [rngD]
theorem rngD_get {i : Int} {n k : Nat} {d : D} (h : (rngD i n)[k]? = some d) : d = .int (i + k) ∧ k < n := by
  have hk : k < n := by
    have := (List.getElem?_eq_some_iff.mp h).1
    simpa [rngD] using this
  refine ⟨?_, hk⟩
  rw [rngD, List.getElem?_map, List.getElem?_range hk] at h
  simpa using h.symm
end Sl

set_option Elab.async false
set_option linter.all false
set_option maxRecDepth 100000
set_option maxHeartbeats 2000000
set_option autoImplicit false
/-! Readings that change no name: what they are worth, as equations. -/
namespace Sl
open PySem L2
def Ev (f : M R) (e : En) (r : R) : Prop := f e = some (r, e)
def EvT (c : M Bool) (e : En) (b : Bool) : Prop := c e = some (b, e)
def EvA (c : M (List D)) (e : En) (b : List D) : Prop := c e = some (b, e)
def EvP (c : M (List R)) (e : En) (b : List R) : Prop := c e = some (b, e)
section
variable {e : En} {f g h : M R} {x y r : R} {c d : M Bool} {a b : Bool}
theorem ev_con {d : D} : Ev (con d) e (.v d) := rfl
theorem ev_varF {i : Nat} {d : D} (h : e[i]? = some (some (.fz d))) : Ev (var i) e (.v d) := by unfold Ev var; rw [h]
theorem ev_varO {i : Nat} {d : D} (h : e[i]? = some (some (.ow d))) : Ev (var i) e (.b i) := by unfold Ev var; rw [h]
theorem ev_varI {i : Nat} {d : D} (h : e[i]? = some (some (.io d))) : Ev (var i) e (.b i) := by unfold Ev var; rw [h]
theorem ev_bin {o : D → D → Option R} {dx dy : D} (h1 : Ev f e x) (h2 : Ev g e y) (h3 : x.get e = some dx) (h4 : y.get e = some dy) (h5 : o dx dy = some r) : Ev (bin o f g) e r := by
  unfold Ev bin; rw [h1]; simp only [Option.bind_some]; rw [h2]; simp only [Option.bind_some]; rw [h3]; simp only [Option.bind_some]; rw [h4]; simp only [Option.bind_some]; rw [h5]; rfl
theorem ev_una {o : D → Option R} {dx : D} (h1 : Ev f e x) (h3 : x.get e = some dx) (h5 : o dx = some r) : Ev (una o f) e r := by
  unfold Ev una; rw [h1]; simp only [Option.bind_some]; rw [h3]; simp only [Option.bind_some]; rw [h5]; rfl
theorem ev_isi {T : String} {dx : D} (h1 : Ev f e x) (h3 : x.get e = some dx) (h5 : isiD T dx = some r) : Ev (isi T f) e r := by
  unfold Ev isi; rw [h1]; simp only [Option.bind_some]; rw [h3]; simp only [Option.bind_some]; rw [h5]; rfl
theorem evT_tst (h1 : Ev f e x) (h2 : x.get e = some (.bool b)) : EvT (tst f) e b := by
  unfold EvT tst; rw [h1]; simp only [Option.bind_some]; rw [h2]; rfl
theorem evT_yes : EvT yesT e true := rfl
theorem evT_and (h1 : EvT c e a) (h2 : a = true → EvT d e b) : EvT (andT c d) e (a && b) := by
  unfold EvT andT; rw [h1]
  cases a with
  | true => exact h2 rfl
  | false => rfl
theorem evT_or (h1 : EvT c e a) (h2 : a = false → EvT d e b) : EvT (orT c d) e (a || b) := by
  unfold EvT orT; rw [h1]
  cases a with
  | true => rfl
  | false => exact h2 rfl
theorem evT_not (h1 : EvT c e a) : EvT (notT c) e (!a) := by unfold EvT notT; rw [h1]; rfl
theorem ev_andV (h1 : EvT (tst f) e a) (h2 : a = true → Ev g e (.v (.bool b))) : Ev (andV f g) e (.v (.bool (a && b))) := by
  unfold Ev andV; rw [h1]
  cases a with
  | true => exact h2 rfl
  | false => rfl
theorem ev_orV (h1 : EvT (tst f) e a) (h2 : a = false → Ev g e (.v (.bool b))) : Ev (orV f g) e (.v (.bool (a || b))) := by
  unfold Ev orV; rw [h1]
  cases a with
  | true => rfl
  | false => exact h2 rfl
theorem ev_notV (h1 : EvT (tst f) e a) : Ev (notV f) e (.v (.bool (!a))) := by unfold Ev notV; rw [h1]; rfl
theorem ev_ite (h1 : EvT c e a) (h2 : a = true → Ev f e x) (h3 : a = false → Ev g e y) : Ev (ite c f g) e (if a = true then x else y) := by
  unfold Ev ite; rw [h1]
  cases a with
  | true => exact h2 rfl
  | false => exact h3 rfl
theorem evA_nil : EvA nilA e [] := rfl
theorem evA_cons {fs : M (List D)} {dx : D} {ds : List D} (h1 : Ev f e x) (h2 : frz x e = some (dx, e)) (h3 : EvA fs e ds) : EvA (consA f fs) e (dx :: ds) := by
  unfold EvA consA; rw [h1]; simp only [Option.bind_some]; rw [h2]; simp only [Option.bind_some]; rw [h3]; rfl
theorem evP_nil : EvP nilP e [] := rfl
theorem evP_consP {fs : M (List R)} {rs : List R} (h1 : Ev f e x) (h3 : EvP fs e rs) : EvP (consP f fs) e (x.nf :: rs) := by
  unfold EvP consP; rw [h1]; simp only [Option.bind_some]; rw [h3]; rfl
theorem evP_consF {fs : M (List R)} {dx : D} {rs : List R} (h1 : Ev f e x) (h2 : frz x e = some (dx, e)) (h3 : EvP fs e rs) : EvP (consF f fs) e (.v dx :: rs) := by
  unfold EvP consF; rw [h1]; simp only [Option.bind_some]; rw [h2]; simp only [Option.bind_some]; rw [h3]; rfl
theorem ev_tup {fs : M (List D)} {ds : List D} (h1 : EvA fs e ds) (h2 : ds.length ≤ 16777216) : Ev (tupE fs) e (.v (.tuple ds)) := by
  unfold Ev tupE; rw [h1]; simp only [Option.bind_some]; rw [if_pos (small_size h2)]
theorem ev_lst {fs : M (List D)} {ds : List D} (h1 : EvA fs e ds) (h2 : ds.length ≤ 16777216) : Ev (lstE fs) e (.n (.list ds)) := by
  unfold Ev lstE; rw [h1]; simp only [Option.bind_some]; rw [if_pos (small_size h2)]
theorem ev_blt {o : List D → Option R} {fs : M (List R)} {rs : List R} {ds : List D} (h1 : EvP fs e rs) (h2 : getAll rs e = some ds) (h3 : o ds = some r) : Ev (blt o fs) e r := by
  unfold Ev blt; rw [h1]; simp only [Option.bind_some]; rw [h2]; simp only [Option.bind_some]; rw [h3]; rfl
theorem ev_callP {m : Mm} {fs : M (List R)} {rs : List R} {ds : List D} {sl out : List Cel} (h1 : EvP fs e rs) (h2 : getAll rs e = some ds) (h3 : ds.map .fz = sl) (h4 : m sl = some (r, out)) (h5 : (okR r || !(rs.any isB)) = true) : Ev (callP m fs) e r := by
  subst h3
  unfold Ev callP; rw [h1]; simp only [Option.bind_some]; rw [h2]; simp only [Option.bind_some]; rw [h4]; simp only [Option.bind_some]; rw [if_pos h5]
theorem ev_lc {vs : List Nat} {it : M (List D)} {g1 : D → En → Option En} {cf : M Bool} {fe : M R} {ds acc : List D} (h1 : EvA it e ds) (h2 : Kl vs g1 cf fe ds e fun r e' => r = .n (.list acc) ∧ e' = e) : Ev (lcE vs it g1 cf fe) e (.n (.list acc)) := by
  obtain ⟨acc2, e2, h3, h4, h5⟩ := h2
  subst h5
  cases h4
  unfold Ev lcE; rw [h1]; simp only [Option.bind_some]; rw [h3]; rfl
theorem evA_iterL {ds : List D} (h1 : Ev f e x) (h2 : frz x e = some (.list ds, e)) : EvA (iterE f) e ds := by
  unfold EvA iterE; rw [h1]; simp only [Option.bind_some]; rw [h2]; rfl
theorem evA_iterT {ds : List D} (h1 : Ev f e x) (h2 : frz x e = some (.tuple ds, e)) : EvA (iterE f) e ds := by
  unfold EvA iterE; rw [h1]; simp only [Option.bind_some]; rw [h2]; rfl
theorem wp_ev {Q : R → En → Prop} (h1 : Ev f e r) (k : Q r e) : Wp f e Q := ⟨r, e, h1, k⟩
theorem wp_evT {Q : Bool → En → Prop} (h1 : EvT c e b) (k : Q b e) : Wp c e Q := ⟨b, e, h1, k⟩
theorem ws_ifE {gs hs : En → Option Out} {Q : Out → Prop} (h1 : EvT c e b) (k1 : b = true → Ws gs e Q) (k2 : b = false → Ws hs e Q) : Ws (ifS c gs hs) e Q := by
  refine ws_if ⟨b, e, h1, ?_⟩
  cases b with
  | true => exact k1 rfl
  | false => exact k2 rfl
theorem ws_ifF {gs hs : En → Option Out} {Q : Out → Prop} (h1 : EvT c e b) (k0 : b = false) (k : Ws hs e Q) : Ws (ifS c gs hs) e Q :=
  ws_ifE h1 (fun q => by rw [k0] at q; cases q) fun _ => k
/-- a comprehension over whole numbers -/
def fI (p : Int → Bool) (F : Int → D) : D → Option D
  | .int i => if p i = true then some (F i) else none
  | _ => none
theorem fI_map (p : Int → Bool) (F : Int → D) : ∀ ns : List Int, (ns.map PyData.int).filterMap (fI p F) = (ns.filter p).map F
  | [] => rfl
  | n :: ns => by
    rw [List.map_cons, List.filterMap_cons, List.filter_cons, fI_map p F ns]
    by_cases hb : p n = true <;> simp [hb, fI]
theorem kl_int {vs : List Nat} {g1 : D → En → Option En} {cf : M Bool} {fe : M R} {ns : List Int} {Q : R → En → Prop} (p : Int → Bool) (F : Int → D)
    (ht : ∀ x ∈ ns, ∃ e1 b, g1 (.int x) (wipeE e vs) = some e1 ∧ EvT cf e1 b ∧ b = p x ∧ (b = true → ∃ r d, Ev fe e1 r ∧ frz r e1 = some (d, e1) ∧ d = F x) ∧ back e e1 vs = e)
    (k : Q (.n (.list ((ns.filter p).map F))) e) : Kl vs g1 cf fe (ns.map .int) e Q := by
  refine kl_pure (fI p F) (fun d hd => ?_) (by rw [fI_map]; exact k)
  obtain ⟨x, hx, rfl⟩ := List.mem_map.mp hd
  obtain ⟨e1, b, h1, h2, h3, h4, h5⟩ := ht x hx
  refine ⟨e1, h1, b, e1, h2, ?_⟩
  subst h3
  by_cases hb : p x = true
  · obtain ⟨r, d, h6, h7, rfl⟩ := h4 hb
    rw [if_pos hb]
    exact ⟨r, e1, h6, _, e1, h7, by simp [hb, fI], h5⟩
  · rw [if_neg hb]
    exact ⟨by simp [hb, fI], h5⟩
theorem kl_intM {vs : List Nat} {g1 : D → En → Option En} {fe : M R} {ns : List Int} {Q : R → En → Prop} (F : Int → D)
    (ht : ∀ x ∈ ns, ∃ e1, g1 (.int x) (wipeE e vs) = some e1 ∧ (∃ r d, Ev fe e1 r ∧ frz r e1 = some (d, e1) ∧ d = F x) ∧ back e e1 vs = e)
    (k : Q (.n (.list (ns.map F))) e) : Kl vs g1 yesT fe (ns.map .int) e Q :=
  kl_int (fun _ => true) F (fun x hx => by
    obtain ⟨e1, h1, h2, h3⟩ := ht x hx
    exact ⟨e1, true, h1, rfl, rfl, fun _ => h2, h3⟩) (by
    have : ns.filter (fun _ => true) = ns := by simp
    rw [this]; exact k)
/-- over a range -/
theorem kl_rngM {vs : List Nat} {g1 : D → En → Option En} {fe : M R} {lo : Int} {n : Nat} {Q : R → En → Prop} (F : Nat → D)
    (ht : ∀ i, i < n → ∃ e1, g1 (.int (lo + (i : Nat))) (wipeE e vs) = some e1 ∧ (∃ r d, Ev fe e1 r ∧ frz r e1 = some (d, e1) ∧ d = F i) ∧ back e e1 vs = e)
    (k : Q (.n (.list ((List.range n).map F))) e) : Kl vs g1 yesT fe (rngD lo n) e Q := by
  refine kl_inv (fun i acc e' => acc = (List.range i).map F ∧ e' = e) ⟨rfl, rfl⟩ (fun i d acc e' hi hI => ?_) fun acc e' hI => ?_
  · obtain ⟨rfl, rfl⟩ := hI
    obtain ⟨rfl, hk⟩ := rngD_get hi
    obtain ⟨e1, h1, ⟨r, d, h6, h7, rfl⟩, h5⟩ := ht i hk
    refine ⟨e1, h1, true, e1, rfl, ?_⟩
    refine if_T ?_
    exact ⟨r, e1, h6, _, e1, h7, by rw [List.range_succ, List.map_append]; rfl, h5⟩
  · obtain ⟨rfl, rfl⟩ := hI
    rw [rngD_len]
    exact k
/-- over any list -/
theorem kl_anyM {vs : List Nat} {g1 : D → En → Option En} {fe : M R} {ds : List D} {Q : R → En → Prop} (F : D → D)
    (ht : ∀ x ∈ ds, ∃ e1, g1 x (wipeE e vs) = some e1 ∧ (∃ r d, Ev fe e1 r ∧ frz r e1 = some (d, e1) ∧ d = F x) ∧ back e e1 vs = e)
    (k : Q (.n (.list (ds.map F))) e) : Kl vs g1 yesT fe ds e Q := by
  refine kl_map F (fun d hd => ?_) k
  obtain ⟨e1, h1, ⟨r, d', h6, h7, rfl⟩, h5⟩ := ht d hd
  exact ⟨e1, h1, true, e1, rfl, if_T ⟨r, e1, h6, _, e1, h7, rfl, h5⟩⟩
end
theorem lcm_mk {vs : List Nat} {g1 : D → En → Option En} {fe : M R} {x d F : D} {e e1 : En} {r : R} (h0 : g1 x (wipeE e vs) = some e1) (h1 : Ev fe e1 r) (h2 : frz r e1 = some (d, e1)) (h3 : d = F) (h4 : back e e1 vs = e) :
    ∃ e1, g1 x (wipeE e vs) = some e1 ∧ (∃ r d, Ev fe e1 r ∧ frz r e1 = some (d, e1) ∧ d = F) ∧ back e e1 vs = e := ⟨e1, h0, ⟨r, d, h1, h2, h3⟩, h4⟩
theorem lcb_mk {vs : List Nat} {g1 : D → En → Option En} {cf : M Bool} {fe : M R} {x d F : D} {e e1 : En} {r : R} {b p : Bool} (h0 : g1 x (wipeE e vs) = some e1) (hc : EvT cf e1 b) (hp : b = p) (h1 : b = true → Ev fe e1 r) (h2 : frz r e1 = some (d, e1)) (h3 : d = F) (h4 : back e e1 vs = e) :
    ∃ e1 b, g1 x (wipeE e vs) = some e1 ∧ EvT cf e1 b ∧ b = p ∧ (b = true → ∃ r d, Ev fe e1 r ∧ frz r e1 = some (d, e1) ∧ d = F) ∧ back e e1 vs = e := ⟨e1, b, h0, hc, hp, fun hb => ⟨r, d, h1 hb, h2, h3⟩, h4⟩
/-- both ways of an if come to one -/
theorem if_ws {c : Prop} {j : Decidable c} {a b : En → Option Out} {e e' : En} {Q : Out → Prop} (P : Out → Prop) (h : @_root_.ite Prop c j (Ws a e P) (Ws b e' P)) (k : ∀ o, P o → Q o) : @_root_.ite Prop c j (Ws a e Q) (Ws b e' Q) := by
  by_cases hc : c
  · rw [if_pos hc] at h ⊢
    exact ws_mono h k
  · rw [if_neg hc] at h ⊢
    exact ws_mono h k
theorem bools_map {α : Type} (b : α → Bool) : ∀ ns : List α, bools (ns.map fun x => PyData.bool (b x)) = some (ns.map b)
  | [] => rfl
  | n :: ns => by rw [List.map_cons, List.map_cons, bools, bools_map b ns]; rfl
theorem all_map {α : Type} {b : α → Bool} {ns : List α} : allD [.list (ns.map fun x => PyData.bool (b x))] = some (.v (.bool (ns.all b))) := by
  show (bools _).map _ = _
  rw [bools_map]
  simp [List.all_map]
theorem any_map {α : Type} {b : α → Bool} {ns : List α} : anyD [.list (ns.map fun x => PyData.bool (b x))] = some (.v (.bool (ns.any b))) := by
  show (bools _).map _ = _
  rw [bools_map]
  simp [List.any_map]
theorem lr1_ok {j : Int} (h : 0 ≤ j ∧ j ≤ 16777216) : lr1D (.int j) = some (.n (.list (rngD 0 j.toNat))) := if_pos ⟨by omega, h.2⟩
theorem cut_mem {ds : List D} {lo hi : Option Int} {d : D} (h : d ∈ cutD ds lo hi) : d ∈ ds := List.mem_of_mem_drop (List.mem_of_mem_take h)
theorem cut_len {ds : List D} {lo hi : Option Int} : (cutD ds lo hi).length ≤ ds.length := by
  unfold cutD
  rw [List.length_take, List.length_drop]
  omega
theorem cut_L {ds : List D} {lo hi : Option Int} : slD (.list ds) lo hi = some (.n (.list (cutD ds lo hi))) := rfl
theorem rngD_mem {lo : Int} {n : Nat} {d : D} (h : d ∈ rngD lo n) : ∃ i : Nat, d = .int (lo + i) ∧ i < n := by
  unfold rngD at h
  obtain ⟨k, hk, rfl⟩ := List.mem_map.mp h
  exact ⟨k, rfl, List.mem_range.mp hk⟩
/-! what is shaped -/
theorem eqv_same : ∀ {d : D}, SeqAt.shaped d = true → PyData.eqv d d = true := fun h => SeqAt.eqv_refl _ (SeqAt.canLay_of_shaped h)
theorem shp_cons (d : D) (ds : List D) : PyData.canLayAll0 (d :: ds) = (d.canLay0 && PyData.canLayAll0 ds) := rfl
theorem dep_cons (d : D) (ds : List D) : PyData.depthAll (d :: ds) = max d.depth (PyData.depthAll ds) := rfl
end Sl

set_option Elab.async false
set_option linter.all false
set_option maxRecDepth 100000
set_option maxHeartbeats 2000000
set_option autoImplicit false
/-! Steps found by their form: many at once, one row of a proof. -/
namespace Sl
open PySem L2
/-- one step or more -/
class Rn (P : Prop) (RR : outParam Prop) : Prop where h : RR → P
/-- any number of steps -/
class Rs (P : Prop) (RR : outParam Prop) : Prop where h : RR → P
instance (priority := low) rs_id {P : Prop} : Rs P P := ⟨id⟩
instance rs_rn {P RR : Prop} [Rn P RR] : Rs P RR := ⟨Rn.h⟩
instance {e : Sl.En} {Q : Sl.Out → Prop} {g : Sl.En → Option Sl.Out} {h : Sl.En → Option Sl.Out} {RR : Prop} [Rs (Sl.Ws g e (Sl.Sk h Q)) RR] : Rn (Sl.Ws (Sl.seq g h) e Q) RR := ⟨fun hh => ws_seq (Rs.h hh)⟩
instance {e : Sl.En} {Q : Sl.Out → Prop} {h : Sl.En → Option Sl.Out} {RR : Prop} [Rs (Sl.Ws h e Q) RR] : Rn (Sl.Sk h Q (Sl.Out.nx e)) RR := ⟨fun hh => sk_nx (Rs.h hh)⟩
instance {e : Sl.En} {Q : Sl.Out → Prop} {h : Sl.En → Option Sl.Out} {r : Sl.R} {RR : Prop} [Rs (Q (Sl.Out.rt r e)) RR] : Rn (Sl.Sk h Q (Sl.Out.rt r e)) RR := ⟨fun hh => sk_rt (Rs.h hh)⟩
instance {e : Sl.En} {Q : Sl.Out → Prop} {h : Sl.En → Option Sl.Out} {RR : Prop} [Rs (Q (Sl.Out.bk e)) RR] : Rn (Sl.Sk h Q (Sl.Out.bk e)) RR := ⟨fun hh => sk_bk (Rs.h hh)⟩
instance {e : Sl.En} {Q : Sl.Out → Prop} {h : Sl.En → Option Sl.Out} {RR : Prop} [Rs (Q (Sl.Out.ct e)) RR] : Rn (Sl.Sk h Q (Sl.Out.ct e)) RR := ⟨fun hh => sk_ct (Rs.h hh)⟩
instance {e : Sl.En} {Q : Sl.Out → Prop} {g : Sl.En → Option Sl.Out} {h : Sl.En → Option Sl.Out} {c : Sl.M Bool} {RR : Prop} [Rs (Sl.Wp c e fun (b : Bool) (e1 : Sl.En) ↦ if b = true then Sl.Ws g e1 Q else Sl.Ws h e1 Q) RR] : Rn (Sl.Ws (Sl.ifS c g h) e Q) RR := ⟨fun hh => ws_if (Rs.h hh)⟩
instance {e : Sl.En} {Q : Sl.Out → Prop} {RR : Prop} [Rs (Q (Sl.Out.nx e)) RR] : Rn (Sl.Ws Sl.pas e Q) RR := ⟨fun hh => ws_pas (Rs.h hh)⟩
instance {e : Sl.En} {Q : Sl.Out → Prop} {RR : Prop} [Rs (Q (Sl.Out.bk e)) RR] : Rn (Sl.Ws Sl.brk e Q) RR := ⟨fun hh => ws_brk (Rs.h hh)⟩
instance {e : Sl.En} {Q : Sl.Out → Prop} {RR : Prop} [Rs (Q (Sl.Out.ct e)) RR] : Rn (Sl.Ws Sl.cnt e Q) RR := ⟨fun hh => ws_cnt (Rs.h hh)⟩
instance {e : Sl.En} {Q : Sl.Out → Prop} {RR : Prop} [Rs (Q (Sl.Out.rt (Sl.R.v PySem.PyData.none) e)) RR] : Rn (Sl.Ws Sl.retN e Q) RR := ⟨fun hh => ws_retN (Rs.h hh)⟩
instance {e : Sl.En} {Q : Sl.Out → Prop} {f : Sl.M Sl.R} {RR : Prop} [Rs (Sl.Wp f e fun (x : Sl.R) (e1 : Sl.En) ↦ Sl.Kr x e1 Q) RR] : Rn (Sl.Ws (Sl.ret f) e Q) RR := ⟨fun hh => ws_ret (Rs.h hh)⟩
instance {e : Sl.En} {Q : Sl.Out → Prop} {f : Sl.M Sl.R} {i : Nat} {RR : Prop} [Rs (Sl.Wp f e fun (x : Sl.R) (e1 : Sl.En) ↦ Sl.Ka i x e1 Q) RR] : Rn (Sl.Ws (Sl.asg i f) e Q) RR := ⟨fun hh => ws_asg (Rs.h hh)⟩
instance {e : Sl.En} {Q : Sl.Out → Prop} {f : Sl.M Sl.R} {g1 : Sl.D → Sl.En → Option Sl.En} {RR : Prop} [Rs (Sl.Wp f e fun (x : Sl.R) (e1 : Sl.En) ↦ Sl.Kg g1 x e1 Q) RR] : Rn (Sl.Ws (Sl.asgT g1 f) e Q) RR := ⟨fun hh => ws_asgT (Rs.h hh)⟩
instance {e : Sl.En} {Q : Sl.Out → Prop} {f : Sl.M Sl.R} {RR : Prop} [Rs (Sl.Wp f e fun (x : Sl.R) (e1 : Sl.En) ↦ Q (Sl.Out.nx e1)) RR] : Rn (Sl.Ws (Sl.drp f) e Q) RR := ⟨fun hh => ws_drp (Rs.h hh)⟩
instance {e : Sl.En} {Q : Sl.Out → Prop} {f : Sl.M Sl.R} {fo : Sl.M Sl.R} {fi : Sl.M Sl.R} {o : Sl.D → Sl.D → Sl.D → Option Sl.D} {RR : Prop} [Rs (Sl.Wp f e fun (x : Sl.R) (e1 : Sl.En) ↦ Sl.KF x e1 fun (dv : Sl.D) (e2 : Sl.En) ↦ Sl.Wp fo e2 fun (xo : Sl.R) (e3 : Sl.En) ↦ Sl.Wp fi e3 fun (xi : Sl.R) (e4 : Sl.En) ↦ Sl.Kx o dv xo xi e4 Q) RR] : Rn (Sl.Ws (Sl.setS o f fo fi) e Q) RR := ⟨fun hh => ws_set (Rs.h hh)⟩
instance {e : Sl.En} {Q : Sl.R → Sl.En → Prop} {d : Sl.D} {RR : Prop} [Rs (Q (Sl.R.v d) e) RR] : Rn (Sl.Wp (Sl.con d) e Q) RR := ⟨fun hh => wp_con (Rs.h hh)⟩
instance {e : Sl.En} {Q : Sl.R → Sl.En → Prop} {f : Sl.M Sl.R} {g : Sl.M Sl.R} {o : Sl.D → Sl.D → Option Sl.R} {RR : Prop} [Rs (Sl.Wp f e fun (x : Sl.R) (e1 : Sl.En) ↦ Sl.Wp g e1 fun (y : Sl.R) (e2 : Sl.En) ↦ Sl.K2 o x y e2 Q) RR] : Rn (Sl.Wp (Sl.bin o f g) e Q) RR := ⟨fun hh => wp_bin (Rs.h hh)⟩
instance {e : Sl.En} {Q : Sl.R → Sl.En → Prop} {f : Sl.M Sl.R} {o : Sl.D → Option Sl.R} {RR : Prop} [Rs (Sl.Wp f e fun (x : Sl.R) (e1 : Sl.En) ↦ Sl.K1 o x e1 Q) RR] : Rn (Sl.Wp (Sl.una o f) e Q) RR := ⟨fun hh => wp_una (Rs.h hh)⟩
instance {e : Sl.En} {f : Sl.M Sl.R} {Q : Bool → Sl.En → Prop} {RR : Prop} [Rs (Sl.Wp f e fun (x : Sl.R) (e1 : Sl.En) ↦ Sl.KT x e1 Q) RR] : Rn (Sl.Wp (Sl.tst f) e Q) RR := ⟨fun hh => wp_tst (Rs.h hh)⟩
instance {e : Sl.En} {c : Sl.M Bool} {d : Sl.M Bool} {Q : Bool → Sl.En → Prop} {RR : Prop} [Rs (Sl.Wp c e fun (b : Bool) (e1 : Sl.En) ↦ if b = true then Sl.Wp d e1 Q else Q false e1) RR] : Rn (Sl.Wp (Sl.andT c d) e Q) RR := ⟨fun hh => wp_andT (Rs.h hh)⟩
instance {e : Sl.En} {c : Sl.M Bool} {d : Sl.M Bool} {Q : Bool → Sl.En → Prop} {RR : Prop} [Rs (Sl.Wp c e fun (b : Bool) (e1 : Sl.En) ↦ if b = true then Q true e1 else Sl.Wp d e1 Q) RR] : Rn (Sl.Wp (Sl.orT c d) e Q) RR := ⟨fun hh => wp_orT (Rs.h hh)⟩
instance {e : Sl.En} {c : Sl.M Bool} {Q : Bool → Sl.En → Prop} {RR : Prop} [Rs (Sl.Wp c e fun (b : Bool) (e1 : Sl.En) ↦ Q (!b) e1) RR] : Rn (Sl.Wp (Sl.notT c) e Q) RR := ⟨fun hh => wp_notT (Rs.h hh)⟩
instance {e : Sl.En} {Q : Sl.R → Sl.En → Prop} {f : Sl.M Sl.R} {g : Sl.M Sl.R} {RR : Prop} [Rs (Sl.Wp f e fun (x : Sl.R) (e1 : Sl.En) ↦ Sl.KT x e1 fun (b : Bool) (e2 : Sl.En) ↦ if b = true then Sl.Wp g e2 Q else Q (Sl.R.v (PySem.PyData.bool false)) e2) RR] : Rn (Sl.Wp (Sl.andV f g) e Q) RR := ⟨fun hh => wp_andV (Rs.h hh)⟩
instance {e : Sl.En} {Q : Sl.R → Sl.En → Prop} {f : Sl.M Sl.R} {g : Sl.M Sl.R} {RR : Prop} [Rs (Sl.Wp f e fun (x : Sl.R) (e1 : Sl.En) ↦ Sl.KT x e1 fun (b : Bool) (e2 : Sl.En) ↦ if b = true then Q (Sl.R.v (PySem.PyData.bool true)) e2 else Sl.Wp g e2 Q) RR] : Rn (Sl.Wp (Sl.orV f g) e Q) RR := ⟨fun hh => wp_orV (Rs.h hh)⟩
instance {e : Sl.En} {Q : Sl.R → Sl.En → Prop} {f : Sl.M Sl.R} {RR : Prop} [Rs (Sl.Wp f e fun (x : Sl.R) (e1 : Sl.En) ↦ Sl.KT x e1 fun (b : Bool) (e2 : Sl.En) ↦ Q (Sl.R.v (PySem.PyData.bool !b)) e2) RR] : Rn (Sl.Wp (Sl.notV f) e Q) RR := ⟨fun hh => wp_notV (Rs.h hh)⟩
instance {e : Sl.En} {Q : Sl.R → Sl.En → Prop} {f : Sl.M Sl.R} {g : Sl.M Sl.R} {c : Sl.M Bool} {RR : Prop} [Rs (Sl.Wp c e fun (b : Bool) (e1 : Sl.En) ↦ if b = true then Sl.Wp f e1 Q else Sl.Wp g e1 Q) RR] : Rn (Sl.Wp (Sl.ite c f g) e Q) RR := ⟨fun hh => wp_ite (Rs.h hh)⟩
instance {e : Sl.En} {Q : List Sl.D → Sl.En → Prop} {RR : Prop} [Rs (Q [] e) RR] : Rn (Sl.Wp Sl.nilA e Q) RR := ⟨fun hh => wp_nilA (Rs.h hh)⟩
instance {e : Sl.En} {f : Sl.M Sl.R} {fs : Sl.M (List Sl.D)} {Q : List Sl.D → Sl.En → Prop} {RR : Prop} [Rs (Sl.Wp f e fun (x : Sl.R) (e1 : Sl.En) ↦ Sl.KF x e1 fun (d : Sl.D) (e2 : Sl.En) ↦ Sl.Wp fs e2 fun (ds : List Sl.D) (e3 : Sl.En) ↦ Q (d :: ds) e3) RR] : Rn (Sl.Wp (Sl.consA f fs) e Q) RR := ⟨fun hh => wp_consA (Rs.h hh)⟩
instance {e : Sl.En} {Q : List Sl.R → Sl.En → Prop} {RR : Prop} [Rs (Q [] e) RR] : Rn (Sl.Wp Sl.nilP e Q) RR := ⟨fun hh => wp_nilP (Rs.h hh)⟩
instance {e : Sl.En} {f : Sl.M Sl.R} {fs : Sl.M (List Sl.R)} {Q : List Sl.R → Sl.En → Prop} {RR : Prop} [Rs (Sl.Wp f e fun (x : Sl.R) (e1 : Sl.En) ↦ Sl.KN x e1 fun (y : Sl.R) (e2 : Sl.En) ↦ Sl.Wp fs e2 fun (rs : List Sl.R) (e3 : Sl.En) ↦ Q (y :: rs) e3) RR] : Rn (Sl.Wp (Sl.consP f fs) e Q) RR := ⟨fun hh => wp_consP (Rs.h hh)⟩
instance {e : Sl.En} {f : Sl.M Sl.R} {fs : Sl.M (List Sl.R)} {Q : List Sl.R → Sl.En → Prop} {RR : Prop} [Rs (Sl.Wp f e fun (x : Sl.R) (e1 : Sl.En) ↦ Sl.KF x e1 fun (d : Sl.D) (e2 : Sl.En) ↦ Sl.Wp fs e2 fun (rs : List Sl.R) (e3 : Sl.En) ↦ Q (Sl.R.v d :: rs) e3) RR] : Rn (Sl.Wp (Sl.consF f fs) e Q) RR := ⟨fun hh => wp_consF (Rs.h hh)⟩
instance {e : Sl.En} {Q : Sl.R → Sl.En → Prop} {d : Sl.D} {RR : Prop} [Rs (Q (Sl.R.v d) e) RR] : Rn (Sl.KN (Sl.R.v d) e Q) RR := ⟨fun hh => kn_v (Rs.h hh)⟩
instance {e : Sl.En} {Q : Sl.R → Sl.En → Prop} {d : Sl.D} {RR : Prop} [Rs (Q (Sl.R.v d) e) RR] : Rn (Sl.KN (Sl.R.n d) e Q) RR := ⟨fun hh => kn_n (Rs.h hh)⟩
instance {e : Sl.En} {Q : Sl.R → Sl.En → Prop} {i : Nat} {RR : Prop} [Rs (Q (Sl.R.b i) e) RR] : Rn (Sl.KN (Sl.R.b i) e Q) RR := ⟨fun hh => kn_b (Rs.h hh)⟩
instance {e : Sl.En} {Q : Sl.R → Sl.En → Prop} {o : List Sl.D → Option Sl.R} {fs : Sl.M (List Sl.R)} {RR : Prop} [Rs (Sl.Wp fs e fun (rs : List Sl.R) (e1 : Sl.En) ↦ Sl.KB o rs e1 Q) RR] : Rn (Sl.Wp (Sl.blt o fs) e Q) RR := ⟨fun hh => wp_blt (Rs.h hh)⟩
instance {e : Sl.En} {Q : Sl.R → Sl.En → Prop} {f : Sl.M Sl.R} {T : String} {RR : Prop} [Rs (Sl.Wp f e fun (x : Sl.R) (e1 : Sl.En) ↦ Sl.K1 (Sl.isiD T) x e1 Q) RR] : Rn (Sl.Wp (Sl.isi T f) e Q) RR := ⟨fun hh => wp_isi (Rs.h hh)⟩
instance {e : Sl.En} {Q : Sl.R → Sl.En → Prop} {m : Sl.Mm} {fs : Sl.M (List Sl.R)} {RR : Prop} [Rs (Sl.Wp fs e fun (rs : List Sl.R) (e1 : Sl.En) ↦ Sl.KC m rs e1 Q) RR] : Rn (Sl.Wp (Sl.callP m fs) e Q) RR := ⟨fun hh => wp_callP (Rs.h hh)⟩
instance {e : Sl.En} {Q : Sl.R → Sl.En → Prop} {sig : List Bool} {m : Sl.Mm} {fs : Sl.M (List Sl.R)} {RR : Prop} [Rs (Sl.Wp fs e fun (rs : List Sl.R) (e1 : Sl.En) ↦ Sl.KI sig m rs e1 Q) RR] : Rn (Sl.Wp (Sl.callIO sig m fs) e Q) RR := ⟨fun hh => wp_callIO (Rs.h hh)⟩
instance {f : Sl.M (List Sl.D)} {e : Sl.En} {Q : Sl.R → Sl.En → Prop} {RR : Prop} [Rs (Sl.Wp f e fun (ds : List Sl.D) (e1 : Sl.En) ↦ Sl.Kdc ds e1 Q) RR] : Rn (Sl.Wp (Sl.dctE f) e Q) RR := ⟨fun hh => wp_dctE (Rs.h hh)⟩
instance {T : String} {o : Sl.D → List Sl.D → Option (Sl.D × Sl.D)} {f : Sl.M Sl.R} {fs : Sl.M (List Sl.D)} {e : Sl.En} {Q : Sl.R → Sl.En → Prop} {RR : Prop} [Rs (Sl.Wp f e fun (x : Sl.R) (e1 : Sl.En) ↦ Sl.Kmu T x e1 fun (i : Nat) ↦ Sl.Wp fs e1 fun (ds : List Sl.D) (e2 : Sl.En) ↦ Sl.KM i o ds e2 Q) RR] : Rn (Sl.Wp (Sl.mutM T o f fs) e Q) RR := ⟨fun hh => wp_mut (Rs.h hh)⟩
instance {T : String} {o : Sl.D → List Sl.D → Option (Sl.D × Sl.D)} {f : Sl.M Sl.R} {e : Sl.En} {Q : Sl.R → Sl.En → Prop} {RR : Prop} [Rs (Sl.Wp f e fun (x : Sl.R) (e1 : Sl.En) ↦ Sl.Kmv T o x e1 Q) RR] : Rn (Sl.Wp (Sl.mutM0 T o f) e Q) RR := ⟨fun hh => wp_mut0 (Rs.h hh)⟩
instance {T : String} {o : Sl.D → List Sl.D → Option Sl.R} {f : Sl.M Sl.R} {g : Sl.M (List Sl.D)} {e : Sl.En} {Q : Sl.R → Sl.En → Prop} {RR : Prop} [Rs (Sl.Wp f e fun (x : Sl.R) (e1 : Sl.En) ↦ Sl.KmF T x e1 (Sl.Wp g e1 fun (ds : List Sl.D) (e2 : Sl.En) ↦ Sl.KmG o x ds e2 Q)) RR] : Rn (Sl.Wp (Sl.methF T o f g) e Q) RR := ⟨fun hh => wp_methF (Rs.h hh)⟩
instance {e : Sl.En} {Q : Sl.R → Sl.En → Prop} {f : Sl.M Sl.R} {o : Sl.D → Option Int → Option Int → Option Sl.R} {lo : Sl.M (Option Int)} {hi : Sl.M (Option Int)} {RR : Prop} [Rs (Sl.Wp f e fun (x : Sl.R) (e1 : Sl.En) ↦ Sl.Wp lo e1 fun (l : Option Int) (e2 : Sl.En) ↦ Sl.Wp hi e2 fun (u : Option Int) (e3 : Sl.En) ↦ Sl.KS o x l u e3 Q) RR] : Rn (Sl.Wp (Sl.slc o f lo hi) e Q) RR := ⟨fun hh => wp_slc (Rs.h hh)⟩
instance {e : Sl.En} {Q : Option Int → Sl.En → Prop} {RR : Prop} [Rs (Q none e) RR] : Rn (Sl.Wp Sl.noP e Q) RR := ⟨fun hh => wp_noP (Rs.h hh)⟩
instance {e : Sl.En} {f : Sl.M Sl.R} {Q : Option Int → Sl.En → Prop} {RR : Prop} [Rs (Sl.Wp f e fun (x : Sl.R) (e1 : Sl.En) ↦ Sl.KO x e1 Q) RR] : Rn (Sl.Wp (Sl.someP f) e Q) RR := ⟨fun hh => wp_someP (Rs.h hh)⟩
instance {e : Sl.En} {f : Sl.M Sl.R} {Q : List Sl.D → Sl.En → Prop} {RR : Prop} [Rs (Sl.Wp f e fun (x : Sl.R) (e1 : Sl.En) ↦ Sl.Kit x e1 Q) RR] : Rn (Sl.Wp (Sl.iterE f) e Q) RR := ⟨fun hh => wp_iter (Rs.h hh)⟩
instance {e : Sl.En} {fs : Sl.M (List Sl.D)} {Q : List Sl.D → Sl.En → Prop} {RR : Prop} [Rs (Sl.Wp fs e fun (ds : List Sl.D) (e1 : Sl.En) ↦ Sl.Krng ds e1 Q) RR] : Rn (Sl.Wp (Sl.rngE fs) e Q) RR := ⟨fun hh => wp_rng (Rs.h hh)⟩
instance {f : Sl.M (List Sl.D)} {e : Sl.En} {Q : List Sl.D → Sl.En → Prop} {RR : Prop} [Rs (Sl.Wp f e fun (ds : List Sl.D) (e1 : Sl.En) ↦ Sl.Ken ds e1 Q) RR] : Rn (Sl.Wp (Sl.enumE f) e Q) RR := ⟨fun hh => wp_enum (Rs.h hh)⟩
instance {f : Sl.M (List Sl.D)} {e : Sl.En} {Q : List Sl.D → Sl.En → Prop} {RR : Prop} [Rs (Sl.Wp f e fun (ds : List Sl.D) (e1 : Sl.En) ↦ Sl.Kz2 ds e1 Q) RR] : Rn (Sl.Wp (Sl.zipE2 f) e Q) RR := ⟨fun hh => wp_zip2 (Rs.h hh)⟩
instance {f : Sl.M (List Sl.D)} {e : Sl.En} {Q : List Sl.D → Sl.En → Prop} {RR : Prop} [Rs (Sl.Wp f e fun (ds : List Sl.D) (e1 : Sl.En) ↦ Sl.Kz3 ds e1 Q) RR] : Rn (Sl.Wp (Sl.zipE3 f) e Q) RR := ⟨fun hh => wp_zip3 (Rs.h hh)⟩
instance {T : String} {T2 : String} {f : Sl.M Sl.R} {e : Sl.En} {Q : Sl.R → Sl.En → Prop} {RR : Prop} [Rs (Sl.Wp f e fun (x : Sl.R) (e1 : Sl.En) ↦ Sl.K1 (Sl.isi2D T T2) x e1 Q) RR] : Rn (Sl.Wp (Sl.isiP T T2 f) e Q) RR := ⟨fun hh => wp_isiP (Rs.h hh)⟩
instance {vs : List Nat} {it : Sl.M (List Sl.D)} {g1 : Sl.D → Sl.En → Option Sl.En} {cf : Sl.M Bool} {fe : Sl.M Sl.R} {e : Sl.En} {Q : Sl.R → Sl.En → Prop} {RR : Prop} [Rs (Sl.Wp it e fun (ds : List Sl.D) (e1 : Sl.En) ↦ Sl.Kl vs g1 cf fe ds e1 Q) RR] : Rn (Sl.Wp (Sl.lcE vs it g1 cf fe) e Q) RR := ⟨fun hh => wp_lc (Rs.h hh)⟩
instance {e : Sl.En} {Q : Sl.Out → Prop} {it : Sl.M (List Sl.D)} {tg : Sl.D → Sl.En → Option Sl.En} {body : Sl.En → Option Sl.Out} {RR : Prop} [Rs (Sl.Wp it e fun (ds : List Sl.D) (e1 : Sl.En) ↦ Sl.Lk tg body ds e1 Q) RR] : Rn (Sl.Ws (Sl.forS it tg body) e Q) RR := ⟨fun hh => ws_for (Rs.h hh)⟩
instance {e : Sl.En} {Q : Bool → Sl.En → Prop} {RR : Prop} [Rs (Q true e) RR] : Rn (Sl.Wp Sl.yesT e Q) RR := ⟨fun hh => wp_yes (Rs.h hh)⟩
instance {e : Sl.En} {Q : Sl.Out → Prop} {tg : Sl.D → Sl.En → Option Sl.En} {body : Sl.En → Option Sl.Out} {RR : Prop} [Rs (Q (Sl.Out.nx e)) RR] : Rn (Sl.Lk tg body [] e Q) RR := ⟨fun hh => lk_nil (Rs.h hh)⟩
instance {e : Sl.En} {Q : Sl.Out → Prop} {J : Sl.En → Prop} {RR : Prop} [Rs (J e) RR] : Rn (Sl.Li J Q (Sl.Out.nx e)) RR := ⟨fun hh => li_nx (Rs.h hh)⟩
instance {e : Sl.En} {Q : Sl.Out → Prop} {J : Sl.En → Prop} {RR : Prop} [Rs (J e) RR] : Rn (Sl.Li J Q (Sl.Out.ct e)) RR := ⟨fun hh => li_ct (Rs.h hh)⟩
instance {e : Sl.En} {Q : Sl.Out → Prop} {J : Sl.En → Prop} {RR : Prop} [Rs (Q (Sl.Out.nx e)) RR] : Rn (Sl.Li J Q (Sl.Out.bk e)) RR := ⟨fun hh => li_bk (Rs.h hh)⟩
instance {e : Sl.En} {Q : Sl.Out → Prop} {J : Sl.En → Prop} {r : Sl.R} {RR : Prop} [Rs (Q (Sl.Out.rt r e)) RR] : Rn (Sl.Li J Q (Sl.Out.rt r e)) RR := ⟨fun hh => li_rt (Rs.h hh)⟩
instance {e : Sl.En} {Q : Sl.Out → Prop} {tg : Sl.D → Sl.En → Option Sl.En} {body : Sl.En → Option Sl.Out} {ds : List Sl.D} {RR : Prop} [Rs (Sl.Lk tg body ds e Q) RR] : Rn (Sl.Lo tg body ds Q (Sl.Out.nx e)) RR := ⟨fun hh => lo_nx (Rs.h hh)⟩
instance {e : Sl.En} {Q : Sl.Out → Prop} {tg : Sl.D → Sl.En → Option Sl.En} {body : Sl.En → Option Sl.Out} {ds : List Sl.D} {RR : Prop} [Rs (Sl.Lk tg body ds e Q) RR] : Rn (Sl.Lo tg body ds Q (Sl.Out.ct e)) RR := ⟨fun hh => lo_ct (Rs.h hh)⟩
instance {e : Sl.En} {Q : Sl.Out → Prop} {tg : Sl.D → Sl.En → Option Sl.En} {body : Sl.En → Option Sl.Out} {ds : List Sl.D} {RR : Prop} [Rs (Q (Sl.Out.nx e)) RR] : Rn (Sl.Lo tg body ds Q (Sl.Out.bk e)) RR := ⟨fun hh => lo_bk (Rs.h hh)⟩
instance {e : Sl.En} {Q : Sl.Out → Prop} {tg : Sl.D → Sl.En → Option Sl.En} {body : Sl.En → Option Sl.Out} {ds : List Sl.D} {r : Sl.R} {RR : Prop} [Rs (Q (Sl.Out.rt r e)) RR] : Rn (Sl.Lo tg body ds Q (Sl.Out.rt r e)) RR := ⟨fun hh => lo_rt (Rs.h hh)⟩
instance {e : Sl.En} {Q : Sl.Out → Prop} {d : Sl.D} {RR : Prop} [Rs (Q (Sl.Out.rt (Sl.R.v d) e)) RR] : Rn (Sl.Kr (Sl.R.v d) e Q) RR := ⟨fun hh => kr_v (Rs.h hh)⟩
instance {e : Sl.En} {Q : Sl.Out → Prop} {d : Sl.D} {RR : Prop} [Rs (Q (Sl.Out.rt (Sl.R.n d) e)) RR] : Rn (Sl.Kr (Sl.R.n d) e Q) RR := ⟨fun hh => kr_n (Rs.h hh)⟩
/-! names -/
class Lk1 (e : En) (i : Nat) (c : outParam (Option Cel)) : Prop where h : e[i]? = some c
instance {c : Option Cel} {e : En} : Lk1 (c :: e) 0 c := ⟨rfl⟩
instance {x c : Option Cel} {e : En} {i : Nat} [Lk1 e i c] : Lk1 (x :: e) (i + 1) c := ⟨by rw [List.getElem?_cons_succ]; exact Lk1.h⟩
class CelD (c : Option Cel) (d : outParam D) : Prop where h : ∃ s, c = some s ∧ s.d = d
instance {d : D} : CelD (some (.fz d)) d := ⟨_, rfl, rfl⟩
instance {d : D} : CelD (some (.ow d)) d := ⟨_, rfl, rfl⟩
instance {d : D} : CelD (some (.io d)) d := ⟨_, rfl, rfl⟩
class VarR (c : Option Cel) (i : Nat) (r : outParam R) : Prop where h : ∀ e : En, e[i]? = some c → var i e = some (r, e)
instance {d : D} {i : Nat} : VarR (some (.fz d)) i (.v d) := ⟨fun e h => ev_varF h⟩
instance {d : D} {i : Nat} : VarR (some (.ow d)) i (.b i) := ⟨fun e h => ev_varO h⟩
instance {d : D} {i : Nat} : VarR (some (.io d)) i (.b i) := ⟨fun e h => ev_varI h⟩
instance {e : En} {i : Nat} {c : Option Cel} {r : R} {Q : R → En → Prop} {RR : Prop} [Lk1 e i c] [VarR c i r] [Rs (Q r e) RR] : Rn (Wp (var i) e Q) RR := ⟨fun hh => ⟨r, e, VarR.h e Lk1.h, Rs.h hh⟩⟩
class Gt (x : R) (e : En) (d : outParam D) : Prop where h : x.get e = some d
instance {d : D} {e : En} : Gt (.v d) e d := ⟨rfl⟩
instance {d : D} {e : En} : Gt (.n d) e d := ⟨rfl⟩
instance {i : Nat} {e : En} {c : Option Cel} {d : D} [Lk1 e i c] [k : CelD c d] : Gt (.b i) e d := ⟨by
  obtain ⟨s, rfl, rfl⟩ := k.h
  have h := Lk1.h (e := e) (i := i) (c := some s)
  simp only [R.get, h]⟩
class SetE (e : En) (i : Nat) (c : Option Cel) (e' : outParam En) : Prop where h : e.set i c = e'
instance {x c : Option Cel} {e : En} : SetE (x :: e) 0 c (c :: e) := ⟨rfl⟩
instance {x c : Option Cel} {e e' : En} {i : Nat} [SetE e i c e'] : SetE (x :: e) (i + 1) c (x :: e') := ⟨by rw [List.set_cons_succ, SetE.h (e := e)]⟩
class FzC (c : Option Cel) (e : En) (i : Nat) (d : outParam D) (e' : outParam En) : Prop where h : e[i]? = some c → frz (.b i) e = some (d, e')
instance {d : D} {e : En} {i : Nat} : FzC (some (.fz d)) e i d e := ⟨fun h => by simp only [frz, h]⟩
instance {d : D} {e e' : En} {i : Nat} [s : SetE e i (some (.fz d)) e'] : FzC (some (.ow d)) e i d e' := ⟨fun h => by simp only [frz, h, s.h]⟩
class Fz (x : R) (e : En) (d : outParam D) (e' : outParam En) : Prop where h : frz x e = some (d, e')
instance {d : D} {e : En} : Fz (.v d) e d e := ⟨rfl⟩
instance {d : D} {e : En} : Fz (.n d) e d e := ⟨rfl⟩
instance {i : Nat} {e e' : En} {c : Option Cel} {d : D} [Lk1 e i c] [FzC c e i d e'] : Fz (.b i) e d e' := ⟨FzC.h Lk1.h⟩
class NIo (c : Option Cel) : Prop where h : ∀ e : En, stoX (some c) e = some e
instance : NIo none := ⟨fun _ => rfl⟩
instance {d : D} : NIo (some (.fz d)) := ⟨fun _ => rfl⟩
instance {d : D} : NIo (some (.ow d)) := ⟨fun _ => rfl⟩
instance {x : Option (D × Bool)} : NIo (fre x) := ⟨fun _ => stoX_fre x _⟩
class StC (i : Nat) (s : Cel) (e : En) (e' : outParam En) : Prop where h : sto i s e = some e'
instance {i : Nat} {s : Cel} {e e' : En} {c : Option Cel} [Lk1 e i c] [n : NIo c] [q : SetE e i (some s) e'] : StC i s e e' := ⟨by rw [sto_go, Lk1.h (e := e) (c := c), n.h, q.h]⟩
class StR (i : Nat) (x : R) (e : En) (e' : outParam En) : Prop where h : stR i x e = some e'
instance {i : Nat} {d : D} {e e' : En} [q : StC i (.fz d) e e'] : StR i (.v d) e e' := ⟨q.h⟩
instance {i : Nat} {d : D} {e e' : En} [q : StC i (.ow d) e e'] : StR i (.n d) e e' := ⟨q.h⟩
instance {i j : Nat} {d : D} {e e1 e' : En} [q : Fz (.b j) e d e1] [q2 : StC i (.fz d) e1 e'] : StR i (.b j) e e' := ⟨by simp only [stR, q.h, Option.bind_some]; exact q2.h⟩
instance {i : Nat} {x : R} {e e' : En} {Q : Out → Prop} {RR : Prop} [q : StR i x e e'] [Rs (Q (.nx e')) RR] : Rn (Ka i x e Q) RR := ⟨fun hh => ka q.h (Rs.h hh)⟩
instance {x : R} {e e' : En} {d : D} {Q : D → En → Prop} {RR : Prop} [q : Fz x e d e'] [Rs (Q d e') RR] : Rn (KF x e Q) RR := ⟨fun hh => kf q.h (Rs.h hh)⟩
class KrC (c : Option Cel) (r : outParam R) : Prop where h : ∀ (e : En) (i : Nat) (Q : Out → Prop), e[i]? = some c → Q (.rt r e) → Kr (.b i) e Q
instance {d : D} : KrC (some (.ow d)) (.n d) := ⟨fun _ _ _ h k => kr_b h k⟩
instance {d : D} : KrC (some (.fz d)) (.v d) := ⟨fun _ _ _ h k => kr_bf h k⟩
instance {i : Nat} {e : En} {c : Option Cel} {r : R} {Q : Out → Prop} {RR : Prop} [Lk1 e i c] [KrC c r] [Rs (Q (.rt r e)) RR] : Rn (Kr (.b i) e Q) RR := ⟨fun hh => KrC.h e i Q Lk1.h (Rs.h hh)⟩
class Tg (g : D → En → Option En) (d : D) (e : En) (e' : outParam En) : Prop where h : g d e = some e'

class Tgs (g : List D → En → Option En) (d : List D) (e : En) (e' : outParam En) : Prop where h : g d e = some e'
instance {i : Nat} {d : D} {e e' : En} [q : StC i (.fz d) e e'] : Tg (gN i) d e e' := ⟨q.h⟩
instance {g : List D → En → Option En} {ds : List D} {e e' : En} [q : Tgs g ds e e'] : Tg (gT g) (.tuple ds) e e' := ⟨q.h⟩
instance {e : En} : Tgs gs0 [] e e := ⟨rfl⟩
instance {g : D → En → Option En} {k : List D → En → Option En} {d : D} {ds : List D} {e e1 e2 : En} [q : Tg g d e e1] [q2 : Tgs k ds e1 e2] : Tgs (gs1 g k) (d :: ds) e e2 := ⟨by unfold gs1; simp only [q.h, Option.bind_some]; exact q2.h⟩
instance {g : D → En → Option En} {x : R} {d : D} {e e1 e2 : En} {Q : Out → Prop} {RR : Prop} [q : Fz x e d e1] [q2 : Tg g d e1 e2] [Rs (Q (.nx e2)) RR] : Rn (Kg g x e Q) RR := ⟨fun hh => kg q.h q2.h (Rs.h hh)⟩
instance {x : R} {e : En} {b : Bool} {Q : Bool → En → Prop} {RR : Prop} [q : Gt x e (.bool b)] [Rs (Q b e) RR] : Rn (KT x e Q) RR := ⟨fun hh => kt q.h (Rs.h hh)⟩
instance {x : R} {e : En} {i : Int} {Q : Option Int → En → Prop} {RR : Prop} [q : Gt x e (.int i)] [Rs (Q (some i) e) RR] : Rn (KO x e Q) RR := ⟨fun hh => ko q.h (Rs.h hh)⟩
class Op2 (o : D → D → Option R) (x y : D) (r : outParam R) : Prop where h : o x y = some r
class Op1 (o : D → Option R) (x : D) (r : outParam R) : Prop where h : o x = some r
instance {i j : Int} : Op2 addD (.int i) (.int j) (.v (.int (i + j))) := ⟨rfl⟩
instance {i j : Int} : Op2 subD (.int i) (.int j) (.v (.int (i - j))) := ⟨rfl⟩
instance {i j : Int} : Op2 ltD (.int i) (.int j) (.v (.bool (decide (i < j)))) := ⟨rfl⟩
instance {i j : Int} : Op2 leD (.int i) (.int j) (.v (.bool (decide (i ≤ j)))) := ⟨rfl⟩
instance {i j : Int} : Op2 eqR (.int i) (.int j) (.v (.bool (decide (i = j)))) := ⟨rfl⟩
instance {i j : Int} : Op2 neR (.int i) (.int j) (.v (.bool (!decide (i = j)))) := ⟨rfl⟩
instance {i j : Str} : Op2 eqR (.str i) (.str j) (.v (.bool (decide (i = j)))) := ⟨rfl⟩
instance {i j : Str} : Op2 neR (.str i) (.str j) (.v (.bool (!decide (i = j)))) := ⟨rfl⟩
instance {i j : Bool} : Op2 eqR (.bool i) (.bool j) (.v (.bool (decide (i = j)))) := ⟨rfl⟩
instance {i j : Bool} : Op2 neR (.bool i) (.bool j) (.v (.bool (!decide (i = j)))) := ⟨rfl⟩
instance : Op2 isR .none .none (.v (.bool true)) := ⟨rfl⟩
instance {ds : List D} : Op2 isR (.tuple ds) .none (.v (.bool false)) := ⟨rfl⟩
instance {ds : List D} : Op2 isR (.list ds) .none (.v (.bool false)) := ⟨rfl⟩
instance {i : Int} : Op2 isR (.int i) .none (.v (.bool false)) := ⟨rfl⟩
instance : Op2 isntR .none .none (.v (.bool (!true))) := ⟨rfl⟩
instance {ds : List D} : Op2 isntR (.tuple ds) .none (.v (.bool (!false))) := ⟨rfl⟩
instance {ds : List D} : Op2 isntR (.list ds) .none (.v (.bool (!false))) := ⟨rfl⟩
instance {i : Int} : Op2 isntR (.int i) .none (.v (.bool (!false))) := ⟨rfl⟩
instance {i : Int} : Op1 negD (.int i) (.v (.int (-i))) := ⟨rfl⟩
instance {o : D → D → Option R} {x y r : R} {dx dy : D} {e : En} {Q : R → En → Prop} {RR : Prop} [q1 : Gt x e dx] [q2 : Gt y e dy] [q3 : Op2 o dx dy r] [Rs (Q r e) RR] : Rn (K2 o x y e Q) RR := ⟨fun hh => k2 q1.h q2.h q3.h (Rs.h hh)⟩
instance {o : D → Option R} {x r : R} {dx : D} {e : En} {Q : R → En → Prop} {RR : Prop} [q1 : Gt x e dx] [q3 : Op1 o dx r] [Rs (Q r e) RR] : Rn (K1 o x e Q) RR := ⟨fun hh => k1 q1.h q3.h (Rs.h hh)⟩
class GtA (x : List R) (e : En) (d : outParam (List D)) : Prop where h : getAll x e = some d
instance {e : En} : GtA [] e [] := ⟨rfl⟩
instance {x : R} {rs : List R} {d : D} {ds : List D} {e : En} [q : Gt x e d] [q2 : GtA rs e ds] : GtA (x :: rs) e (d :: ds) := ⟨by unfold getAll; rw [q.h]; simp only [Option.bind_some]; rw [q2.h]; rfl⟩
class OpB (o : List D → Option R) (x : List D) (r : outParam R) : Prop where h : o x = some r
instance {ds : List D} : OpB lenD [.list ds] (.v (.int ds.length)) := ⟨rfl⟩
instance {ds : List D} : OpB lenD [.tuple ds] (.v (.int ds.length)) := ⟨rfl⟩
instance {ds : List D} : OpB tupleD [.list ds] (.v (.tuple ds)) := ⟨rfl⟩
instance {ds : List D} : OpB listD [.list ds] (.n (.list ds)) := ⟨rfl⟩
instance {ds : List D} : OpB listD [.tuple ds] (.n (.list ds)) := ⟨rfl⟩
instance {o : List D → Option R} {rs : List R} {ds : List D} {r : R} {e : En} {Q : R → En → Prop} {RR : Prop} [q1 : GtA rs e ds] [q2 : OpB o ds r] [Rs (Q r e) RR] : Rn (KB o rs e Q) RR := ⟨fun hh => kb q1.h q2.h (Rs.h hh)⟩
instance {x : R} {e e1 : En} {ds : List D} {Q : List D → En → Prop} {RR : Prop} [q : Fz x e (.list ds) e1] [Rs (Q ds e1) RR] : Rn (Kit x e Q) RR := ⟨fun hh => kit_l q.h (Rs.h hh)⟩
instance {x : R} {e e1 : En} {ds : List D} {Q : List D → En → Prop} {RR : Prop} [q : Fz x e (.tuple ds) e1] [Rs (Q ds e1) RR] : Rn (Kit x e Q) RR := ⟨fun hh => kit_t q.h (Rs.h hh)⟩
instance {A B RR : Prop} {j : Decidable (true = true)} [Rs A RR] : Rn (@_root_.ite Prop (true = true) j A B) RR := ⟨fun hh => if_T (Rs.h hh)⟩
instance {A B RR : Prop} {j : Decidable (false = true)} [Rs B RR] : Rn (@_root_.ite Prop (false = true) j A B) RR := ⟨fun hh => if_F (Rs.h hh)⟩
instance {A B RR : Prop} {j : Decidable ((!false) = true)} [Rs A RR] : Rn (@_root_.ite Prop ((!false) = true) j A B) RR := ⟨fun hh => if_NF (Rs.h hh)⟩
instance {A B RR : Prop} {j : Decidable ((!true) = true)} [Rs B RR] : Rn (@_root_.ite Prop ((!true) = true) j A B) RR := ⟨fun hh => if_NT (Rs.h hh)⟩
end Sl

set_option Elab.async false
set_option linter.all false
set_option maxRecDepth 100000
set_option maxHeartbeats 2000000
set_option autoImplicit false
/-! Loops by kinds of names: kept, free, or of a predicate by the turn's number. -/
namespace Sl
open PySem L2
inductive Kd where
  | k
  | f
  | o (P : Nat → D → Prop)
  | i (P : Nat → D → Prop)
  | z (P : Nat → D → Prop)
def AllT (n : Nat) : List Kd → En → (En → Prop) → Prop
  | .k :: m, c :: e, P => AllT n m e fun t => P (c :: t)
  | .f :: m, _ :: e, P => ∀ x, AllT n m e fun t => P (fre x :: t)
  | .o p :: m, _ :: e, P => ∀ d, p n d → AllT n m e fun t => P (some (.ow d) :: t)
  | .i p :: m, _ :: e, P => ∀ d, p n d → AllT n m e fun t => P (some (.io d) :: t)
  | .z p :: m, _ :: e, P => ∀ d, p n d → AllT n m e fun t => P (some (.fz d) :: t)
  | _, e, P => P e
def InT (n : Nat) : List Kd → En → En → Prop
  | .k :: m, c :: e, t => ∃ t', t = c :: t' ∧ InT n m e t'
  | .f :: m, _ :: e, t => ∃ x t', t = fre x :: t' ∧ InT n m e t'
  | .o p :: m, _ :: e, t => ∃ d t', t = some (.ow d) :: t' ∧ p n d ∧ InT n m e t'
  | .i p :: m, _ :: e, t => ∃ d t', t = some (.io d) :: t' ∧ p n d ∧ InT n m e t'
  | .z p :: m, _ :: e, t => ∃ d t', t = some (.fz d) :: t' ∧ p n d ∧ InT n m e t'
  | _, e, t => t = e
section
variable {n : Nat} {m : List Kd} {c : Option Cel} {e t : En} {d : D} {p : Nat → D → Prop}
theorem inT_k (h : InT n m e t) : InT n (.k :: m) (c :: e) (c :: t) := ⟨t, rfl, h⟩
theorem inT_none (h : InT n m e t) : InT n (.f :: m) (c :: e) (none :: t) := ⟨none, t, rfl, h⟩
theorem inT_fz (h : InT n m e t) : InT n (.f :: m) (c :: e) (some (.fz d) :: t) := ⟨some (d, false), t, rfl, h⟩
theorem inT_ow (h : InT n m e t) : InT n (.f :: m) (c :: e) (some (.ow d) :: t) := ⟨some (d, true), t, rfl, h⟩
theorem inT_fre {x : Option (D × Bool)} (h : InT n m e t) : InT n (.f :: m) (c :: e) (fre x :: t) := ⟨x, t, rfl, h⟩
theorem inT_o (hp : p n d) (h : InT n m e t) : InT n (.o p :: m) (c :: e) (some (.ow d) :: t) := ⟨d, t, rfl, hp, h⟩
theorem inT_i (hp : p n d) (h : InT n m e t) : InT n (.i p :: m) (c :: e) (some (.io d) :: t) := ⟨d, t, rfl, hp, h⟩
theorem inT_z (hp : p n d) (h : InT n m e t) : InT n (.z p :: m) (c :: e) (some (.fz d) :: t) := ⟨d, t, rfl, hp, h⟩
theorem inT_nil : InT n [] e e := by unfold InT; rfl
end
theorem allT_in : ∀ {n : Nat} {m : List Kd} {e t : En} {P : En → Prop}, AllT n m e P → InT n m e t → P t
  | n, .k :: m, c :: e, t, P, h, h1 => by
    obtain ⟨t', rfl, h1⟩ := h1
    exact allT_in (P := fun t => P (c :: t)) h h1
  | n, .f :: m, c :: e, t, P, h, h1 => by
    obtain ⟨x, t', rfl, h1⟩ := h1
    exact allT_in (P := fun t => P (fre x :: t)) (h x) h1
  | n, .o p :: m, c :: e, t, P, h, h1 => by
    obtain ⟨d, t', rfl, hp, h1⟩ := h1
    exact allT_in (P := fun t => P (some (.ow d) :: t)) (h d hp) h1
  | n, .i p :: m, c :: e, t, P, h, h1 => by
    obtain ⟨d, t', rfl, hp, h1⟩ := h1
    exact allT_in (P := fun t => P (some (.io d) :: t)) (h d hp) h1
  | n, .z p :: m, c :: e, t, P, h, h1 => by
    obtain ⟨d, t', rfl, hp, h1⟩ := h1
    exact allT_in (P := fun t => P (some (.fz d) :: t)) (h d hp) h1
  | n, [], e, t, P, h, h1 => by
    unfold InT at h1
    unfold AllT at h
    subst h1
    exact h
  | n, a :: m, [], t, P, h, h1 => by
    cases a <;> (unfold InT at h1; unfold AllT at h; subst h1; exact h)
section
variable {Q : Out → Prop} {tg : D → En → Option En} {body : En → Option Out}
theorem lk_ty (m : List Kd) {ds : List D} {e : En} (he : InT 0 m e e)
    (hs : ∀ i d, ds[i]? = some d → AllT i m e fun e' => ∃ e1, tg d e' = some e1 ∧ Ws body e1 (Li (fun e2 => InT (i + 1) m e e2) Q))
    (hd : AllT ds.length m e fun e' => Q (.nx e')) : Lk tg body ds e Q := by
  refine lk_inv (fun i e' => InT i m e e') he (fun i d e' hi h1 => ?_) fun e' h1 => ?_
  · exact allT_in (P := fun e' => ∃ e1, tg d e' = some e1 ∧ Ws body e1 (Li (fun e2 => InT (i + 1) m e e2) Q)) (hs i d hi) h1
  · exact allT_in (P := fun e' => Q (.nx e')) hd h1
/-- a while: the number n falls -/
theorem ws_ty (m : List Kd) (n0 : Nat) {c : M Bool} {n : Nat} {e : En} (hn : n0 < n) (he : InT n0 m e e)
    (hs : ∀ k, AllT k m e fun e' => Wp c e' fun b e1 => if b = true then Ws body e1 (Li (fun e2 => ∃ k', k' < k ∧ InT k' m e e2) Q) else Q (.nx e1)) : Ws (whl c body n) e Q :=
  ws_whl (fun k e' => InT k m e e') n0 he hn fun k e' h1 => allT_in (P := fun e' => Wp c e' fun b e1 => if b = true then Ws body e1 (Li (fun e2 => ∃ k', k' < k ∧ InT k' m e e2) Q) else Q (.nx e1)) (hs k) h1
end
/-- comprehensions: each item of T -/
theorem kl_ty {vs : List Nat} {g1 : D → En → Option En} {cf : M Bool} {fe : M R} {ds : List D} {e : En} {Q : R → En → Prop} (m : List Kd) (T : D → Prop) (he : InT 0 m e e)
    (hs : ∀ i d, ds[i]? = some d → AllT i m e fun e' => Kt vs g1 cf fe d e' fun o e2 => (∀ x, o = some x → T x) ∧ InT (i + 1) m e e2)
    (hd : ∀ acc : List D, acc.length ≤ ds.length → (∀ x ∈ acc, T x) → AllT ds.length m e fun e' => Q (.n (.list acc)) e') : Kl vs g1 cf fe ds e Q := by
  refine kl_inv (fun i acc e' => (acc.length ≤ i ∧ ∀ x ∈ acc, T x) ∧ InT i m e e') ⟨⟨by simp, by simp⟩, he⟩ (fun i d acc e' hi h1 => ?_) fun acc e' h1 => ?_
  · have h := allT_in (P := fun e' => Kt vs g1 cf fe d e' fun o e2 => (∀ x, o = some x → T x) ∧ InT (i + 1) m e e2) (hs i d hi) h1.2
    obtain ⟨e1, q1, b, e2, q2, q3⟩ := h
    refine ⟨e1, q1, b, e2, q2, ?_⟩
    cases b with
    | true =>
      obtain ⟨x, e3, w1, y, e4, w2, w3, w4⟩ := q3
      refine ⟨x, e3, w1, y, e4, w2, ⟨by simp only [Option.toList_some, List.length_append, List.length_singleton]; omega, fun z hz => ?_⟩, w4⟩
      rcases List.mem_append.mp hz with hz | hz
      · exact h1.1.2 z hz
      · exact w3 z (by simp at hz; rw [hz])
    | false =>
      exact ⟨⟨by simp; omega, fun z hz => h1.1.2 z (by simpa using hz)⟩, q3.2⟩
  · exact allT_in (P := fun e' => Q (.n (.list acc)) e') (hd acc h1.1.1 h1.1.2) h1.2
/-- .. as many as there are -/
theorem kl_tyM {vs : List Nat} {g1 : D → En → Option En} {fe : M R} {ds : List D} {e : En} {Q : R → En → Prop} (m : List Kd) (T : D → Prop) (he : InT 0 m e e)
    (hs : ∀ i d, ds[i]? = some d → AllT i m e fun e' => ∃ e1, g1 d (wipeE e' vs) = some e1 ∧ Wp fe e1 fun x e3 => KF x e3 fun y e4 => T y ∧ InT (i + 1) m e (back e' e4 vs))
    (hd : ∀ acc : List D, acc.length = ds.length → (∀ x ∈ acc, T x) → AllT ds.length m e fun e' => Q (.n (.list acc)) e') : Kl vs g1 yesT fe ds e Q := by
  refine kl_inv (fun i acc e' => (acc.length = i ∧ ∀ x ∈ acc, T x) ∧ InT i m e e') ⟨⟨by simp, by simp⟩, he⟩ (fun i d acc e' hi h1 => ?_) fun acc e' h1 => ?_
  · obtain ⟨e1, q1, x, e3, w1, y, e4, w2, w3, w4⟩ := allT_in (P := fun e' => ∃ e1, g1 d (wipeE e' vs) = some e1 ∧ Wp fe e1 fun x e3 => KF x e3 fun y e4 => T y ∧ InT (i + 1) m e (back e' e4 vs)) (hs i d hi) h1.2
    refine ⟨e1, q1, true, e1, rfl, if_T ⟨x, e3, w1, y, e4, w2, ⟨by simp only [Option.toList_some, List.length_append, List.length_singleton]; omega, fun z hz => ?_⟩, w4⟩⟩
    rcases List.mem_append.mp hz with hz | hz
    · exact h1.1.2 z hz
    · simp at hz; rw [hz]; exact w3
  · exact allT_in (P := fun e' => Q (.n (.list acc)) e') (hd acc h1.1.1 h1.1.2) h1.2
/-! predicates of data -/
def TI (lo hi : Int) (d : D) : Prop := ∃ i : Int, d = .int i ∧ lo ≤ i ∧ i < hi
def TL (n : Nat) (T : D → Prop) (d : D) : Prop := ∃ ds : List D, d = .list ds ∧ ds.length ≤ n ∧ ∀ x ∈ ds, T x
def TU (n : Nat) (T : D → Prop) (d : D) : Prop := ∃ ds : List D, d = .tuple ds ∧ ds.length ≤ n ∧ ∀ x ∈ ds, T x
theorem ti_ints : ∀ {lo hi : Int} {ds : List D}, (∀ x ∈ ds, TI lo hi x) → ∃ ns : List Int, ds = ns.map .int ∧ ∀ x ∈ ns, lo ≤ x ∧ x < hi
  | lo, hi, [], _ => ⟨[], rfl, by simp⟩
  | lo, hi, d :: ds, h => by
    obtain ⟨ns, rfl, h2⟩ := ti_ints (ds := ds) (fun x hx => h x (List.mem_cons_of_mem _ hx))
    obtain ⟨i, rfl, h3⟩ := h d (List.mem_cons_self ..)
    refine ⟨i :: ns, rfl, fun x hx => ?_⟩
    rcases List.mem_cons.mp hx with rfl | hx
    · exact h3
    · exact h2 x hx
/-- a list of things that come of others -/
theorem of_all {α : Type} {enc : α → D} {P : α → Prop} : ∀ {ds : List D}, (∀ x ∈ ds, ∃ a, x = enc a ∧ P a) → ∃ as : List α, ds = as.map enc ∧ ∀ a ∈ as, P a
  | [], _ => ⟨[], rfl, by simp⟩
  | d :: ds, h => by
    obtain ⟨as, rfl, h2⟩ := of_all (ds := ds) (fun x hx => h x (List.mem_cons_of_mem _ hx))
    obtain ⟨a, rfl, h3⟩ := h d (List.mem_cons_self ..)
    refine ⟨a :: as, rfl, fun x hx => ?_⟩
    rcases List.mem_cons.mp hx with rfl | hx
    · exact h3
    · exact h2 x hx
theorem mem_snoc {α : Type} {P : α → Prop} {ds : List α} {x : α} (h : ∀ y ∈ ds, P y) (hx : P x) : ∀ y ∈ ds ++ [x], P y := fun y hy => by
  rcases List.mem_append.mp hy with hy | hy
  · exact h y hy
  · rw [List.mem_singleton] at hy; rw [hy]; exact hx
theorem mem_app {α : Type} {P : α → Prop} {ds es : List α} (h : ∀ y ∈ ds, P y) (hx : ∀ y ∈ es, P y) : ∀ y ∈ ds ++ es, P y := fun y hy => by
  rcases List.mem_append.mp hy with hy | hy
  · exact h y hy
  · exact hx y hy
end Sl

set_option Elab.async false
set_option linter.all false
set_option maxRecDepth 100000
set_option maxHeartbeats 2000000
set_option autoImplicit false
/-! a list turned round -/
namespace Sl
open PySem PySem.Spec PyProof.Rows L2
def rvlD : D → Option R
  | .list ds => some (.n (.list ds.reverse))
  | _ => none
section
variable {ι : Type} {K : PySem.W.Frag} {X : ι → Cx} {a : Expr} {f : M R} {pos p1 p2 p3 : Pos} {k : Nat}
theorem RepA.rev {F : Hp} : ∀ {vs : List V} {ds : List D}, RepA K F vs ds → RepA K F vs.reverse ds.reverse
  | _, _, .nil => .nil
  | _, _, .cons h r => by
    rw [List.reverse_cons, List.reverse_cons]
    exact (RepA.rev r).append (.cons h .nil)
theorem so_revL (ha : SoE K X a f) (hK : ∀ i, (X i).K = K := by intro _; rfl) : SoE K X (.Subscript a (.Slice none none (some (.UnaryOp .USub (.Constant (.int 1) k p1) p2)) p3) pos) (una rvlD f) := by
  obtain ⟨ta, pa, ha⟩ := ha
  refine ⟨tRevL K ta, fun i => by have := pe_revL (k := k) (p1 := p1) (p2 := p2) (p3 := p3) (pos := pos) (pa i); rw [hK i] at this; exact this, fun F H σ e r e' rel hf Q q => ?_⟩
  obtain ⟨⟨r1, e1⟩, h1, hf⟩ := bind_some hf
  obtain ⟨d, h2, hf⟩ := bind_some hf
  obtain ⟨z, h3, h4⟩ := Option.map_eq_some_iff.mp hf
  cases h4
  cases d with
  | list ds =>
    cases h3
    refine ha F H σ e r1 e1 rel h1 _ fun v F1 H1 p1 rv => ?_
    obtain ⟨a, xs, rfl, h5, r2⟩ := (p1.rel.view rv h2).lst p1.rel.sub
    exact ⟨a, xs, rfl, h5, gr_l p1.rel.sub (fun v F3 H3 gr rr => q v F3 H3 (p1.trans (gr.pst p1.rel)) (rr.wide p1.stp.dom)) r2.rev⟩
  | _ => cases h3
end
end Sl

set_option Elab.async false
set_option linter.all false
set_option maxRecDepth 100000
set_option maxHeartbeats 2000000
set_option autoImplicit false
/-! a call of one of two defs, chosen by a number -/
namespace Sl
open PySem PySem.Spec PyProof.Rows L2 Evl
def callC (m1 m2 : Mm) (fi : M R) (fs : M (List R)) : M R := fun e => (fi e).bind fun p => (p.1.get p.2).bind fun d => match d with
  | .int i => if i = 0 then callP m1 fs p.2 else if i = 1 then callP m2 fs p.2 else none
  | _ => none
section
variable {ι : Type} {K : PySem.W.Frag} {X : ι → Cx} {a ie : Expr} {es : List Expr} {g : M R} {fs : M (List R)} {pos p p1 p2 p3 p4 : Pos} {x y : Str} {P : Program} {w : World} {mg : Str → Option Value} {base : Heap} {ps qs : List Str} {k k' : Nat} {m1 m2 : Mm}
theorem RepR.basis {F2 H2 H1 H : Hp} {σ : L2.St} {v : V} {r : R} (h : RepR K F2 H2 H1 σ v r) (hd : ∀ a, H a ≠ none → H1 a ≠ none) : RepR K F2 H2 H σ v r := by
  cases r with
  | v d => exact h
  | b i => exact h
  | n d =>
    obtain ⟨a, o, h1, h2, h3⟩ := h
    refine ⟨a, o, h1, ?_, h3⟩
    cases z : H a with
    | none => rfl
    | some u => exact absurd h2 (hd a (by rw [z]; simp))
theorem pe_callX {X : Cx} {func e : Expr} {es : List Expr} {tf : TE} {t : TA} {S : Addr → Sp → Prop} {pos : Pos} (hf : PE X func tf)
    (A : ∀ f sp, S f sp → ∃ (fd : FuncData) (ps : List Str) (k : Nat), FnOk X.prog X.w X.K X.mg X.base CX0 k f fd ps sp ∧ Room k X.A ∧ PySem.W.keepIn X.K (.ref f) = true ∧ Binds X.K fd ps []) (ha : PA X (e :: es) t)
    (hcall : eval (.Call func (e :: es) [] pos) X.env = (do callWith pos (← eval func X.env) [] (backTo pos (starEach (e :: es) X.env)) (backToKw pos (keywordEach [] X.env))))
    (he : starEach (e :: es) X.env = (false, eval e X.env) :: starEach es X.env) (hpl : (backTo pos (starEach es X.env)).any (·.1) = false) :
    PE X (.Call func (e :: es) [] pos) (fun σ H Q => tf σ H fun v H1 => ∃ f sp, v = .ref f ∧ S f sp ∧ t σ H1 fun vs H2 => sp (vs ++ []) H2 Q E0) := by
  refine ⟨fun pins s σ H Q I h => ?_⟩
  rw [hcall]
  refine wpAny_bind (thn (hf.run pins s σ H _ I h) fun u s1 ⟨v, H1, I1, r1, q1⟩ => ?_)
  obtain ⟨f, sp, rfl, hS, ht⟩ := q1
  obtain ⟨fd, ps, k, F, hr, hk, hb⟩ := A f sp hS
  cases r1
  refine PySem.W.callWith_K (h₀ := X.base) I.ok.mod.kin hk (thn (ha.run pos pins s1 σ H1 _ I1 ht) fun us s2 ⟨vs, H2, I2, r, q⟩ => ⟨I2.kIn, ?_⟩) he hpl
  exact run_fn F hr hb .nil pass0 I2 r q
theorem so_callC (G : Def P w K mg base x ps k m1) (G' : Def P w K mg base y qs k' m2) (hr : ∀ i, Room k (X i).A) (hr' : ∀ i, Room k' (X i).A) (hu : HU X) (hi : SoE K X ie g) (ha : SoP K X (a :: es) fs)
    (hX : ∀ i, (X i).prog = P ∧ (X i).w = w ∧ (X i).K = K ∧ (X i).mg = mg ∧ (X i).base = base := by intro _; exact ⟨rfl, rfl, rfl, rfl, rfl⟩)
    (hg : ∀ i, Gl (X i) x := by intro _; rfl) (hg' : ∀ i, Gl (X i) y := by intro _; rfl) (hdb : (x == ("__debug__" : Str)) = false := by decide) (hdb' : (y == ("__debug__" : Str)) = false := by decide)
    (hs : PlainIx ie := by intro _ _; rfl)
    (hst : ∀ i, starEach [.Name x p1, .Name y p2] (X i).env = (false, eval (.Name x p1) (X i).env) :: starEach [.Name y p2] (X i).env := by intro _; rfl)
    (hst' : ∀ i, starEach [.Name y p2] (X i).env = (false, eval (.Name y p2) (X i).env) :: starEach [] (X i).env := by intro _; rfl)
    (he : ∀ i, starEach (a :: es) (X i).env = (false, eval a (X i).env) :: starEach es (X i).env := by intro _; rfl) (hpl : ∀ i, (backTo pos (starEach es (X i).env)).any (·.1) = false := by intro _; rfl) :
    SoE K X (.Call (.Subscript (.List [.Name x p1, .Name y p2] p3) ie p4) (a :: es) [] pos) (callC m1 m2 g fs) := by
  obtain ⟨f1, fd1, mf1, kf1, bf1, F1, _⟩ := G.ex
  obtain ⟨f2, fd2, mf2, kf2, bf2, F2, _⟩ := G'.ex
  obtain ⟨t, pa, ha⟩ := ha
  obtain ⟨tb, pb, hi⟩ := hi
  refine ⟨fun σ H Q => tOp (rIxS K) (tLst (tCons (tC (.ref f1)) (tCons (tC (.ref f2)) tNil))) tb σ H fun v H1 => ∃ f sp, v = .ref f ∧ ((f = f1 ∧ sp = spM K m1) ∨ (f = f2 ∧ sp = spM K m2)) ∧ t σ H1 fun vs H2 => sp (vs ++ []) H2 Q E0, fun i => ?_, fun F H σ e r e' rel hf Q q => ?_⟩
  · obtain ⟨h1, h2, h3, h4, h5⟩ := hX i
    have hix := ix_all (X := X i) (by have := hu i; omega)
    subst h1 h2 h3 h4 h5
    refine pe_callX (S := fun f sp => (f = f1 ∧ sp = spM (X i).K m1) ∨ (f = f2 ∧ sp = spM (X i).K m2)) (pe_ix hix (pe_lst (pa_cons (pe_glob (v := .ref f1) (hg i) mf1 rfl hdb) (pa_cons (pe_glob (v := .ref f2) (hg' i) mf2 rfl hdb') pa_nil (hst' i)) (hst i))) (pb i) hs) ?_ (pa i) rfl (he i) (hpl i)
    rintro f sp (⟨rfl, rfl⟩ | ⟨rfl, rfl⟩)
    · exact ⟨fd1, ps, k, F1, hr i, kf1, bf1⟩
    · exact ⟨fd2, qs, k', F2, hr' i, kf2, bf2⟩
  · obtain ⟨⟨r1, e1⟩, h1, hf⟩ := bind_some hf
    obtain ⟨d, h2, hf⟩ := bind_some hf
    refine ⟨by rw [sizeLine_eq]; simp, fun pL hp => ?_⟩
    have gr := Grow.loose (o := .lst [V.ref f1, V.ref f2]) rel.sub hp
    have ps0 := gr.pst rel
    refine hi F _ σ e r1 e1 ps0.rel h1 _ fun v F1' H1 pp rv => ?_
    have hv := pp.rel.view rv h2
    have hH1 : H1 pL = some (.lst [V.ref f1, V.ref f2]) := by
      refine pp.stp.hh pL _ upd_same fun ho => ?_
      exact (rel.ownH ho).1 hp
    have pt := ps0.trans pp
    cases d with
    | int j =>
      simp only at hf
      split at hf
      · rename_i hj
        subst hj
        refine .inl (.inl ⟨pL, _, 0, .ref f1, rfl, hv.int, sq_of hH1, rfl, f1, _, rfl, .inl ⟨rfl, rfl⟩, ?_⟩)
        exact callP_sem ha F1' H1 σ e1 r e' pp.rel hf Q fun v F2 H2 p2 rr => q v F2 H2 (pt.trans p2) (rr.basis pt.stp.dom)
      · split at hf
        · rename_i hj
          subst hj
          refine .inl (.inl ⟨pL, _, 1, .ref f2, rfl, hv.int, sq_of hH1, rfl, f2, _, rfl, .inr ⟨rfl, rfl⟩, ?_⟩)
          exact callP_sem ha F1' H1 σ e1 r e' pp.rel hf Q fun v F2 H2 p2 rr => q v F2 H2 (pt.trans p2) (rr.basis pt.stp.dom)
        · cases hf
    | _ => cases hf
end
end Sl

set_option Elab.async false
set_option linter.all false
set_option maxRecDepth 100000
set_option maxHeartbeats 2000000
set_option autoImplicit false
/-! the greatest of a list or of a tuple -/
namespace Sl
open PySem PySem.Spec PyProof.Rows L2 PySem.W PySem.SeqAt
def maxTD : List D → Option R
  | [.tuple ds] => match intsD ds with
    | some (n :: ns) => some (.v (.int (maxI n ns)))
    | _ => none
  | x => maxLD x
/-- max of a tuple of ints -/
def rMaxT (K : PySem.W.Frag) : List V → Hp → VK → Prop := fun vs H Q => ∃ (a : Addr) (n : Int) (ns : List Int), vs = [V.ref a] ∧ SqT K H a ((n :: ns).map V.int) ∧ Q (.int (maxI n ns)) H
def rMaxLT (K : PySem.W.Frag) : List V → Hp → VK → Prop := fun vs H Q => rMax K vs H Q ∨ rMaxT K vs H Q
theorem reads_ints {h : Heap} : ∀ {ns : List Int} {us : List Value}, Vals (ns.map V.int) us → ReadsAll h us (ns.map PyData.int) []
  | [], _, r => by
    cases r
    exact ReadsAll.nil
  | n :: ns, _, r => by
    cases r with
    | cons r1 r2 =>
      obtain ⟨t, rfl⟩ := r1
      exact ReadsAll.cons (Reads.int n t) (reads_ints r2)
theorem alike_ints (ns : List Int) : AlikeAll (ns.map PyData.int) := by
  refine ⟨fun x hx y hy => ?_, fun x hx => ?_⟩
  · obtain ⟨i, _, rfl⟩ := List.mem_map.mp hx
    obtain ⟨j, _, rfl⟩ := List.mem_map.mp hy
    rfl
  · obtain ⟨i, _, rfl⟩ := List.mem_map.mp hx
    exact fun e => by cases e
theorem depth_intsM (ns : List Int) : PyData.depthAll (ns.map PyData.int) = 0 := by
  induction ns with
  | nil => rfl
  | cons n ns ih =>
    show max (PyData.int n).depth (PyData.depthAll (ns.map .int)) = 0
    rw [ih]
    rfl
theorem fold_maxI (ns : List Int) : ∀ n : Int, ns.foldl max n = maxI n ns := by
  induction ns with
  | nil => intro n; rfl
  | cons m ns ih =>
    intro n
    show ns.foldl max (max n m) = maxI (if n < m then m else n) ns
    rw [ih]
    congr 1
    split <;> omega
theorem cr_maxT {X : Cx} (hc : X.calm = true) (hu : X.A.units + 2 < cLine) : CallR X (.builtin "max") (rMaxT X.K) := by
  intro pins s σ H vs us Q I r h
  obtain ⟨a, n, ns, rfl, hs, q⟩ := h
  obtain ⟨its, rv, ⟨o, ho, hcl, k, hd⟩, _⟩ := I.tuple hs
  rw [Vals.ref1 r]
  have rr : ReadsAll s.heap its.toArray.toList (.int n :: ns.map .int) [] := by
    have := reads_ints (h := s.heap) (ns := n :: ns) rv
    simpa using this
  refine max_tuple_data (I.ok.hd hc) ⟨o, ho, hcl, k, hd⟩ rr (alike_ints (n :: ns)) (by rw [show PyData.depthAll (PyData.int n :: ns.map .int) = 0 from depth_intsM (n :: ns)]; omega) fun i v h' tk bs hv rv' hk => ?_
  rw [maxD_ints, fold_maxI] at rv'
  cases rv'
  exact ⟨.int _, H, I.kept hk, ⟨_, rfl⟩, q⟩
section
variable {ι : Type} {K : PySem.W.Frag} {X : ι → Cx} {a : Expr} {fs : M (List R)} {pos p : Pos}
theorem l_maxLT : CaL K (rMaxLT K) maxTD := by
  intro F H vs ds res s hv ho Q q
  by_cases hd : ∃ es, ds = [.tuple es]
  · obtain ⟨es, rfl⟩ := hd
    simp only [maxTD] at ho
    split at ho
    · rename_i n ns hn
      cases ho
      obtain ⟨v, rfl, h⟩ := vw1 hv
      obtain ⟨a, xs, rfl, hs, r⟩ := h.tup s
      have e := intsD_rep r hn
      subst e
      exact .inr ⟨a, n, ns, rfl, hs, gr_v s q (.int _)⟩
    · cases ho
  · refine .inl (l_maxL F H vs ds res s hv ?_ Q q)
    unfold maxTD at ho
    split at ho
    · exact absurd ⟨_, rfl⟩ hd
    · exact ho
theorem so_maxT (hu : HU X) (hm : ∀ i, (X i).mg "max" = none) (ha : SoP K X [a] fs) (hK : ∀ i, (X i).K = K := by intro _; rfl) (hc : ∀ i, (X i).calm = true := by intro _; rfl) (hg : ∀ i, Gl (X i) "max" := by intro _; rfl) (he : ∀ i, starEach [a] (X i).env = (false, eval a (X i).env) :: starEach [] (X i).env := by intro _; rfl) : SoE K X (.Call (.Name "max" p) [a] [] pos) (blt maxTD fs) :=
  so_blt (fun i => by
    have h1 := cr_max (X := X i) (hc i)
    have h2 := cr_maxT (X := X i) (hc i) (by have := hu i; omega)
    rw [hK i] at h1 h2
    intro pins s σ H vs us Q I r h
    rcases h with h | h
    · exact h1 pins s σ H vs us Q I r h
    · exact h2 pins s σ H vs us Q I r h) l_maxLT hm (by decide +kernel) ha hg (he := he)
end
end Sl

set_option Elab.async false
set_option linter.all false
set_option maxRecDepth 100000
set_option maxHeartbeats 2000000
set_option autoImplicit false
/-! .index of a list of flat things, of a tuple of texts that stands at the top -/
namespace Sl
open PySem PySem.Spec PyProof.Rows L2 Evl
def ixF (y : D) : List D → Option Nat
  | [] => none
  | z :: r => if PyData.eqv z y = true then some 0 else (ixF y r).map (· + 1)
def indexLD : D → List D → Option R
  | .list ds, [y] => if (flatD y && ds.all flatD) = true then (ixF y ds).map fun j => .v (.int (j : Nat)) else none
  | _, _ => none
def strIx (z : Str) : List D → Option Nat
  | [] => none
  | .str y :: r => if y = z then some 0 else (strIx z r).map (· + 1)
  | _ => none
def ixTD (ds : List D) : List D → Option R
  | [.str z] => if ds.all (fun d => match d with | .str _ => true | _ => false) = true then (strIx z ds).map fun j => .v (.int (j : Nat)) else none
  | _ => none
def ixT (ds : List D) (f : M (List D)) : M R := fun e => (f e).bind fun p => (ixTD ds p.1).map fun r => (r, p.2)
section
variable {K : PySem.W.Frag}
theorem ixF_ok {F : Hp} {y : V} {d : D} (hy : Rep K F y d) (fy : flatD d = true) : ∀ {vs : List V} {ds : List D} {j : Nat}, RepA K F vs ds → ds.all flatD = true → ixF d ds = some j → ∃ z, vs[j]? = some z ∧ eqV z y = true ∧ ∀ (m : Nat) (z' : V), m < j → vs[m]? = some z' → eqV z' y = false
  | _, _, j, .nil, _, h => by cases h
  | _, _, j, .cons (v := v) (vs := vs) (d := e) (ds := ds) h' r, f, h => by
    rw [List.all_cons, Bool.and_eq_true] at f
    unfold ixF at h
    have ev := eqV_eqv h' hy f.1 fy
    split at h
    · rename_i he
      cases h
      exact ⟨v, by simp, by rw [ev]; exact he, fun m z' hm => absurd hm (Nat.not_lt_zero _)⟩
    · rename_i he
      obtain ⟨j', h1, rfl⟩ := Option.map_eq_some_iff.mp h
      obtain ⟨z, w1, w2, w3⟩ := ixF_ok hy fy r f.2 h1
      refine ⟨z, by simpa using w1, w2, fun m z' hm hz => ?_⟩
      cases m with
      | zero =>
        simp at hz
        subst hz
        rw [ev]
        simpa using he
      | succ m => exact w3 m z' (by omega) (by simpa using hz)
theorem l_index : MeF K (rIndex K) indexLD := by
  intro F H x dx vs ds res s hx hv ho Q q
  unfold indexLD at ho
  split at ho
  · rename_i es y
    split at ho
    · rename_i hf
      rw [Bool.and_eq_true] at hf
      obtain ⟨j, h1, rfl⟩ := Option.map_eq_some_iff.mp ho
      obtain ⟨a, xs, rfl, hs, r⟩ := hx.lst s
      cases hv with
      | cons h hs' =>
        cases hs'
        obtain ⟨z, w1, w2, w3⟩ := ixF_ok h hf.1 r hf.2 h1
        exact ⟨a, xs, _, j, z, rfl, rfl, hs, flat_V h hf.1, flat_all r hf.2, w1, w2, w3, gr_v s q (.int _)⟩
    · cases ho
  · cases ho
theorem strIx_ok {F : Hp} {z : Str} : ∀ {vs : List V} {ds : List D} {j : Nat}, RepA K F vs ds → ds.all (fun d => match d with | .str _ => true | _ => false) = true → strIx z ds = some j → ∃ ys : List Str, vs = ys.map V.str ∧ ys[j]? = some z ∧ ∀ m, m < j → ys[m]? ≠ some z
  | _, _, j, .nil, _, h => by cases h
  | _, _, j, .cons (v := v) (vs := vs) (d := e) (ds := ds) h' r, f, h => by
    rw [List.all_cons, Bool.and_eq_true] at f
    cases e with
    | str y =>
      cases h'
      unfold strIx at h
      split at h
      · rename_i he
        cases h
        have hs : ∀ {vs : List V} {ds : List D}, RepA K F vs ds → ds.all (fun d => match d with | .str _ => true | _ => false) = true → ∃ ys : List Str, vs = ys.map V.str := by
          intro vs ds r
          induction ds generalizing vs with
          | nil => intro _; cases r; exact ⟨[], rfl⟩
          | cons d ds ih =>
            intro f
            rw [List.all_cons, Bool.and_eq_true] at f
            cases r with
            | cons h r =>
              obtain ⟨ys, rfl⟩ := ih r f.2
              cases d with
              | str y => cases h; exact ⟨y :: ys, rfl⟩
              | _ => exact absurd f.1 Bool.false_ne_true
        obtain ⟨ys, rfl⟩ := hs r f.2
        exact ⟨y :: ys, rfl, by simp [he], fun m hm => absurd hm (Nat.not_lt_zero _)⟩
      · rename_i he
        obtain ⟨j', h1, rfl⟩ := Option.map_eq_some_iff.mp h
        obtain ⟨ys, rfl, w1, w2⟩ := strIx_ok r f.2 h1
        refine ⟨y :: ys, rfl, by simpa using w1, fun m hm => ?_⟩
        cases m with
        | zero => simpa using he
        | succ m => simpa using w2 m (by omega)
    | _ => exact absurd f.1 Bool.false_ne_true
end
section
variable {ι : Type} {K : PySem.W.Frag} {X : ι → Cx} {a b : Expr} {es : List Expr} {f : M R} {fs : M (List D)} {pos apos p : Pos} {x : Str} {mg : Str → Option Value} {ds : List D}
theorem so_index (ho : SoE K X b f) (ha : SoA K X (a :: es) fs) (hK : ∀ i, (X i).K = K := by intro _; rfl)
    (hbase : ∀ i, attributeBase b "index" (X i).env (eval b (X i).env) = eval b (X i).env := by intro _; rfl)
    (hfew : ∀ i, ((backTo pos (starEach (a :: es) (X i).env)).all (fun x => !x.1) && (backToKw pos (keywordEach [] (X i).env)).all (fun x => x.1.isSome)
      && decide ((a :: es).length + ([] : List Keyword).length + (if ([] : List Keyword).isEmpty then 0 else 1) < 30)) = true := by intro _; rfl)
    (hline : (apos.endLine == pos.line) = true := by rfl) (hs : ∀ i, starEach (a :: es) (X i).env = (false, eval a (X i).env) :: starEach es (X i).env := by intro _; rfl) (hplain : ∀ i, (backTo pos (starEach es (X i).env)).any (·.1) = false := by intro _; rfl) :
    SoE K X (.Call (.Attribute b "index" apos) (a :: es) [] pos) (methF "list" indexLD f fs) :=
  so_methF PySem.F.plainAttrs_list PySem.F.slot_list_index PySem.F.type_list_index (fun i => by have := mt_index (X := X i); rw [hK i] at this; exact this) l_index ho ha hK hbase hfew hline hs hplain
theorem so_ixT (h : ∃ a o, mg x = some (.ref a) ∧ K.lookup a = some o ∧ o.cls = .type "tuple" ∧ o.dict = none ∧ ∀ F, Rep K F (.ref a) (.tuple ds)) (ha : SoA K X (a :: es) fs) (hm : ∀ i, (X i).mg = mg := by intro _; rfl) (hg : ∀ i, Gl (X i) x := by intro _; rfl) (hd : (x == ("__debug__" : Str)) = false := by decide) (hK : ∀ i, (X i).K = K := by intro _; rfl)
    (hbase : ∀ i, attributeBase (.Name x p) "index" (X i).env (eval (.Name x p) (X i).env) = eval (.Name x p) (X i).env := by intro _; rfl)
    (hfew : ∀ i, ((backTo pos (starEach (a :: es) (X i).env)).all (fun x => !x.1) && (backToKw pos (keywordEach [] (X i).env)).all (fun x => x.1.isSome)
      && decide ((a :: es).length + ([] : List Keyword).length + (if ([] : List Keyword).isEmpty then 0 else 1) < 30)) = true := by intro _; rfl)
    (hline : (apos.endLine == pos.line) = true := by rfl) (hs : ∀ i, starEach (a :: es) (X i).env = (false, eval a (X i).env) :: starEach es (X i).env := by intro _; rfl) (hplain : ∀ i, (backTo pos (starEach es (X i).env)).any (·.1) = false := by intro _; rfl) :
    SoE K X (.Call (.Attribute (.Name x p) "index" apos) (a :: es) [] pos) (ixT ds fs) := by
  obtain ⟨ad, o, h1, h2, h3, h4, h5⟩ := h
  obtain ⟨ta, pargs, ha⟩ := ha
  refine ⟨tBM K "tuple" (fun x xs H Q => ∃ p, ∃ ys : List Str, ∃ z j, x = .ref p ∧ xs = [.str z] ∧ SqT K H p (ys.map V.str) ∧ ys[j]? = some z ∧ (∀ m, m < j → ys[m]? ≠ some z) ∧ Q (.int (j : Nat)) H) (tC (.ref ad)) ta, fun i => ?_, fun F H σ e r e' rel hf Q q => ?_⟩
  · have hmt := mt_tup_index (X := X i)
    rw [hK i] at hmt
    have := pe_bm PySem.F.plainAttrs_tuple PySem.F.slot_tuple_index PySem.F.type_tuple_index hmt (pe_glob (v := .ref ad) (hg i) (by rw [hm i]; exact h1) rfl hd) (pargs i) (hbase i) (hfew i) hline (hs i) (hplain i)
    rw [hK i] at this
    exact this
  · obtain ⟨⟨as, e1⟩, h6, hf⟩ := bind_some hf
    obtain ⟨z, h7, h8⟩ := Option.map_eq_some_iff.mp hf
    cases h8
    refine ⟨.inr (.inl ⟨rfl, o, h2, h3, h4⟩), ha F H σ e as e1 rel h6 _ fun vs F1 H1 p1 ra => ?_⟩
    unfold ixTD at h7
    split at h7
    · rename_i z hz
      have hz : as = [.str z] := hz
      subst hz
      split at h7
      · rename_i hall
        obtain ⟨j, h9, rfl⟩ := Option.map_eq_some_iff.mp h7
        cases ra with
        | cons r1 r2 =>
          cases r2
          cases r1
          cases h5 F1 with
          | tup hs' rs =>
            obtain ⟨ys, rfl, w1, w2⟩ := strIx_ok rs hall h9
            exact ⟨ad, ys, z, j, rfl, rfl, ex_t p1.rel.sub hs', w1, w2, q _ F1 H1 p1 (.int _)⟩
      · cases h7
    · cases h7
end
end Sl

set_option Elab.async false
set_option linter.all false
set_option maxRecDepth 100000
set_option maxHeartbeats 2000000
set_option autoImplicit false
/-! a walk over a list that a name owns, which is not touched within, and stays the name's own -/
namespace Sl
open PySem PySem.Spec PyProof.Rows L2 Evl
open Classical in
/-- what a turn gives, as long as the list stands -/
noncomputable def chkO (v : Nat) (ds : List D) (body : En → Option Out) : En → Option Out := fun e => (body e).bind fun o => match o with
  | .nx e2 => if e2[v]? = some (some (.io (.list ds))) then some (.nx e2) else none
  | .ct e2 => if e2[v]? = some (some (.io (.list ds))) then some (.ct e2) else none
  | o => some o
def unE (v : Nat) (e : En) : En := match e[v]? with
  | some (some (.io d)) => e.set v (some (.ow d))
  | _ => e
def unO (v : Nat) : Out → Out
  | .nx e => .nx (unE v e)
  | .ct e => .ct (unE v e)
  | .bk e => .bk (unE v e)
  | .rt r e => .rt r (unE v e)
noncomputable def forO (v : Nat) (tg : D → En → Option En) (body : En → Option Out) : En → Option Out := fun e => match e[v]? with
  | some (some (.ow (.list ds))) => if ds.length ≤ sizeLine then (loop tg (chkO v ds body) ds (e.set v (some (.io (.list ds))))).map (unO v) else none
  | some (some (.io (.list ds))) => if ds.length ≤ sizeLine then loop tg (chkO v ds body) ds e else none
  | _ => none
section
variable {K : PySem.W.Frag} {F0 H0 F H F' H' : Hp} {IO : List (Nat × Addr)} {σ : L2.St} {e e' : En}
/-- the walk of a list at an address, whatever stands in it -/
theorem walk_any {a : Addr} {n : Nat} : Walk (Itl K a) n (fun H => ∃ xs, SqL K H a xs ∧ xs.length = n) (fun i H x H' => H' = H ∧ ∀ xs, SqL K H a xs → xs[i]? = some x) :=
  ⟨fun i H hi ⟨xs, q, hl⟩ => ⟨xs, xs[i], q, by simp [hl, hi]⟩, fun H ⟨xs, q, hl⟩ => ⟨xs, q, by omega⟩, fun _ _ _ _ _ _ y => y⟩
theorem RelE.toIo (r : RelE K F H σ e) {v : Nat} {d : D} (h : e[v]? = some (some (.ow d))) : RelE K F H σ (e.set v (some (.io d))) := by
  have hi := (List.getElem?_eq_some_iff.mp h).1
  refine ⟨by rw [List.length_set]; exact r.len, r.sub, fun i d' q => ?_, fun i s q qs => ?_, fun i j s t a h1 s1 h2 s2 h3 h4 => ?_⟩
  · rw [set_get hi] at q
    by_cases z : i = v
    · rw [if_pos z] at q; cases q
    · rw [if_neg z] at q; exact r.fz i d' q
  · rw [set_get hi] at q
    by_cases z : i = v
    · rw [if_pos z] at q
      cases q
      subst z
      exact r.ow i (.ow d) h rfl
    · rw [if_neg z] at q; exact r.ow i s q qs
  · have g : ∀ (i : Nat) (s : Cel), (e.set v (some (.io d)))[i]? = some (some s) → s.own = true → ∃ s' : Cel, e[i]? = some (some s') ∧ s'.own = true := fun i s h' hs => by
      rw [set_get hi] at h'
      by_cases z : i = v
      · subst z; exact ⟨_, h, rfl⟩
      · rw [if_neg z] at h'; exact ⟨s, h', hs⟩
    obtain ⟨s', y1, y2⟩ := g i s h1 s1
    obtain ⟨t', y3, y4⟩ := g j t h2 s2
    exact r.ds i j s' t' a y1 y2 y3 y4 h3 h4
theorem RelE.ofIo (r : RelE K F H σ e) (v : Nat) : RelE K F H σ (unE v e) := by
  unfold unE
  split
  · rename_i d h
    have hi := (List.getElem?_eq_some_iff.mp h).1
    refine ⟨by rw [List.length_set]; exact r.len, r.sub, fun i d' q => ?_, fun i s q qs => ?_, fun i j s t a h1 s1 h2 s2 h3 h4 => ?_⟩
    · rw [set_get hi] at q
      by_cases z : i = v
      · rw [if_pos z] at q; cases q
      · rw [if_neg z] at q; exact r.fz i d' q
    · rw [set_get hi] at q
      by_cases z : i = v
      · rw [if_pos z] at q
        cases q
        subst z
        exact r.ow i (.io d) h rfl
      · rw [if_neg z] at q; exact r.ow i s q qs
    · have g : ∀ (i : Nat) (s : Cel), (e.set v (some (.ow d)))[i]? = some (some s) → s.own = true → ∃ s' : Cel, e[i]? = some (some s') ∧ s'.own = true := fun i s h' hs => by
        rw [set_get hi] at h'
        by_cases z : i = v
        · subst z; exact ⟨_, h, rfl⟩
        · rw [if_neg z] at h'; exact ⟨s, h', hs⟩
      obtain ⟨s', y1, y2⟩ := g i s h1 s1
      obtain ⟨t', y3, y4⟩ := g j t h2 s2
      exact r.ds i j s' t' a y1 y2 y3 y4 h3 h4
  · exact r
theorem Bs.toIo (b : Bs F0 H0 IO F H σ e) {v : Nat} {d : D} {a : Addr} (h : e[v]? = some (some (.ow d))) (ha : σ[v]? = some (some (.ref a))) : Bs F0 H0 ((v, a) :: IO) F H σ (e.set v (some (.io d))) := by
  have hi := (List.getElem?_eq_some_iff.mp h).1
  refine ⟨b.ff, fun a' o h1 h2 => b.keep a' o h1 fun p hp => h2 p (List.mem_cons_of_mem _ hp), b.old, b.dom, fun i d' a' q1 q2 => ?_, fun i d' a' q1 q2 => ?_, fun p hp => ?_⟩
  · rw [set_get hi] at q1
    by_cases z : i = v
    · rw [if_pos z] at q1; cases q1
    · rw [if_neg z] at q1; exact b.ow i d' a' q1 q2
  · rw [set_get hi] at q1
    by_cases z : i = v
    · subst z
      rw [ha] at q2
      cases q2
      exact List.mem_cons_self ..
    · rw [if_neg z] at q1; exact List.mem_cons_of_mem _ (b.io i d' a' q1 q2)
  · rcases List.mem_cons.mp hp with rfl | hp
    · exact ⟨d, by rw [set_get hi, if_pos rfl], ha⟩
    · obtain ⟨d', q1, q2⟩ := b.has p hp
      have z : p.1 ≠ v := fun z => by rw [z, h] at q1; cases q1
      exact ⟨d', by rw [set_get hi, if_neg z]; exact q1, q2⟩
theorem Bs.ofIo {v : Nat} {a : Addr} (b : Bs F0 H0 ((v, a) :: IO) F H σ e) (h0 : H0 a = none) (hn : ∀ p ∈ IO, p.1 ≠ v) : Bs F0 H0 IO F H σ (unE v e) := by
  obtain ⟨d, g1, g2⟩ := b.has (v, a) (List.mem_cons_self ..)
  have g1 : e[v]? = some (some (.io d)) := g1
  have g2 : σ[v]? = some (some (.ref a)) := g2
  have hi := (List.getElem?_eq_some_iff.mp g1).1
  have eu : unE v e = e.set v (some (.ow d)) := by unfold unE; rw [g1]
  rw [eu]
  refine ⟨b.ff, fun a' o h1 h2 => b.keep a' o h1 fun p hp => ?_, b.old, b.dom, fun i d' a' q1 q2 => ?_, fun i d' a' q1 q2 => ?_, fun p hp => ?_⟩
  · rcases List.mem_cons.mp hp with rfl | hp
    · intro z
      have z : a = a' := z
      subst z
      rw [h0] at h1
      cases h1
    · exact h2 p hp
  · rw [set_get hi] at q1
    by_cases z : i = v
    · subst z
      rw [g2] at q2
      cases q2
      exact h0
    · rw [if_neg z] at q1; exact b.ow i d' a' q1 q2
  · rw [set_get hi] at q1
    by_cases z : i = v
    · rw [if_pos z] at q1; cases q1
    · rw [if_neg z] at q1
      rcases List.mem_cons.mp (b.io i d' a' q1 q2) with h | h
      · exact absurd (congrArg Prod.fst h) z
      · exact h
  · obtain ⟨d', q1, q2⟩ := b.has p (List.mem_cons_of_mem _ hp)
    exact ⟨d', by rw [set_get hi, if_neg (hn p hp)]; exact q1, q2⟩
end
section
variable {ι : Type} {K : PySem.W.Frag} {X : ι → Cx} {st : Stmt} {sts : List Stmt} {ex : Expr} {f : M R} {g h : En → Option Out} {pos : Pos}
theorem so_stuckB : SoB K X sts stuck := ⟨fun _ _ _ => False, fun i => by constructor <;> (intros; first | contradiction | exact False.elim ‹_›), fun F0 H0 IO F H σ e out rel b hg Dn p => by cases hg⟩
/-- the loop itself -/
theorem loopO_ok {g1 : D → En → Option En} {js : List Nat} {tg' : TG} {t1 : TS} (sg : SemG K tg' js g1) (s1 : SemS K t1 g) {F0 H0 F H : Hp} {IO : List (Nat × Addr)} {σ : L2.St} {e : En} {out : Out} {v : Nat} {a : Addr} {ds : List D}
    (rel : RelE K F H σ e) (b : Bs F0 H0 IO F H σ e) (hv : e[v]? = some (some (.io (.list ds)))) (ha : σ[v]? = some (some (.ref a))) (hm : (v, a) ∈ IO) (hl : loop g1 (chkO v ds g) ds e = some out) {Dn : Ends} (q : Post K F0 H0 IO Dn out) :
    ∃ W : Nat → Nat → L2.St → Hp → Prop, (∃ m, W 0 m σ H) ∧ ∀ i m σ H, W i m σ H →
      ((Itl K a).stop i H ∧ Dn.nx σ H) ∨ ((Itl K a).go i H ∧ ∃ N : L2.St → Hp → Prop, (∀ σ' H', N σ' H' → ∃ m', m' < m ∧ W (i + 1) m' σ' H') ∧ ∀ x H', (Itl K a).yld i H x H' → tg' x σ H' fun σ2 H2 => t1 { Dn with nx := N, ct := N, bk := Dn.nx } σ2 H2) := by
  have look : ∀ {F' H' : Hp} {σ' : L2.St} {e' : En}, RelE K F' H' σ' e' → Bs F H0 IO F' H' σ' e' → e'[v]? = some (some (.io (.list ds))) → σ'[v]? = some (some (.ref a)) ∧ ∃ xs, H' a = some (.lst xs) ∧ RepA K F' xs ds := by
    intro F' H' σ' e' r' b' h'
    obtain ⟨d, g1, g2⟩ := b'.has (v, a) hm
    obtain ⟨a', o, q1, q2, q3, q4⟩ := r'.ow v _ h' rfl
    have g2 : σ'[v]? = some (some (.ref a)) := g2
    rw [g2] at q1
    cases q1
    obtain ⟨xs, rfl, rr⟩ := RepO.list q4
    exact ⟨g2, xs, q3, rr⟩
  refine for_it (walk_any (n := ds.length)) (fun i σ' H' => ∃ F' e', RelE K F' H' σ' e' ∧ Bs F H0 IO F' H' σ' e' ∧ e'[v]? = some (some (.io (.list ds))) ∧ loop g1 (chkO v ds g) (ds.drop i) e' = some out) ?_ ?_ ?_ ?_
  · exact ⟨F, e, rel, b.rebase, hv, by simpa using hl⟩
  · rintro i σ' H' _ ⟨F', e', r1, b', h', _⟩
    obtain ⟨_, xs, q1, q2⟩ := look r1 b' h'
    exact ⟨xs, sq_of q1, q2.length⟩
  · rintro i x σ' Hc Hc' hi ⟨F', e', r1, b', h', zl⟩ ⟨rfl, y⟩
    obtain ⟨_, xs, q1, q2⟩ := look r1 b' h'
    obtain ⟨d, hd, rd⟩ := q2.getV (y xs (sq_of q1))
    have hdrop : ds.drop i = d :: ds.drop (i + 1) := by
      rw [List.drop_eq_getElem_cons hi]
      congr 1
      rw [List.getElem?_eq_getElem hi] at hd
      exact Option.some.inj hd
    rw [hdrop] at zl
    obtain ⟨e2, y1, zl⟩ := bind_some zl
    obtain ⟨o', y2, zl⟩ := bind_some zl
    obtain ⟨o, y3, y4⟩ := bind_some y2
    refine sg F' _ σ' e' x d e2 r1 rd y1 _ fun σ2 r2 b2 _ => ?_
    refine s1 F H0 IO F' _ σ2 e2 o r2 (b2 F H0 IO b') y3 _ ?_
    cases o with
    | nx e3 =>
      simp only at y4
      split at y4
      · rename_i hh
        cases y4
        exact fun σ3 F3 H3 r3 b3 => ⟨F3, e3, r3, b3, hh, zl⟩
      · cases y4
    | ct e3 =>
      simp only at y4
      split at y4
      · rename_i hh
        cases y4
        exact fun σ3 F3 H3 r3 b3 => ⟨F3, e3, r3, b3, hh, zl⟩
      · cases y4
    | bk e3 =>
      cases y4
      cases zl
      exact fun σ3 F3 H3 r3 b3 => q σ3 F3 H3 r3 (b.unbase b3)
    | rt r e3 =>
      cases y4
      cases zl
      exact fun v σ3 F3 H3 r3 b3 rv => q v σ3 F3 H3 r3 (b.unbase b3) rv
  · rintro σ' H' ⟨F', e', r1, b', h', zl⟩
    rw [List.drop_length] at zl
    cases zl
    exact q σ' F' H' r1 (b.unbase b')
theorem so_forO {tg : Expr} {v : Nat} {x : Str} {p2 : Pos} {body : List Stmt} {g1 : D → En → Option En} {js : List Nat} (hx : SoE K X (.Name x p2) (var v)) (hg : SoG K X tg js g1) (hb : SoB K X body g) (hp : ∀ i, PassesOwn (model (X i).prog (X i).w) (X i).A (X i).env (X i).xe)
    (hv : ∀ j, (X j).N[v]? = some x := by intro _; rfl) (hK : ∀ i, (X i).K = K := by intro _; rfl) (hc : ∀ i, (X i).calm = true := by intro _; rfl) (hs : ∀ i y, foldedSetIterable (.Name x p2) (X i).env y = pure y := by intro _ _; rfl) : SoS K X (.For tg (.Name x p2) body [] pos) (forO v g1 g) := by
  obtain ⟨ta, pa, sa⟩ := hx
  obtain ⟨tg', pg, sg⟩ := hg
  obtain ⟨t1, p1, s1⟩ := hb
  refine ⟨_, fun i => ps_for (hp i) (hc i) (by have := pi_seq (tg := tg) (pa i); rw [hK i] at this; exact this) (pg i) (p1 i) (hs i), fun F0 H0 IO F H σ e out rel b hg Dn q => ?_⟩
  unfold forO at hg
  split at hg
  · rename_i ds hd
    split at hg
    · rename_i hz
      obtain ⟨o, z1, z2⟩ := Option.map_eq_some_iff.mp hg
      subst z2
      obtain ⟨a, ob, q1, q2, q3, q4⟩ := rel.ow v _ hd rfl
      obtain ⟨xs, rfl, rr⟩ := RepO.list q4
      refine sa F H σ e (.b v) e rel (by unfold var; rw [hd]) _ fun w F1 H1 pp rv => ?_
      have rv : σ[v]? = some (some w) := rv
      rw [q1] at rv
      cases rv
      obtain ⟨a', ob', w1, w2, w3, w4⟩ := pp.rel.ow v _ hd rfl
      rw [q1] at w1
      cases w1
      obtain ⟨xs', rfl, rr'⟩ := RepO.list w4
      have b1 := b.step rel pp
      refine ⟨a, xs', rfl, .inl ⟨sq_of w3, fun hz' => ?_⟩⟩
      have h0 : H0 a = none := b1.ow v _ a hd q1
      have hn : ∀ p ∈ IO, p.1 ≠ v := fun p hp z => by
        obtain ⟨d', y1, _⟩ := b1.has p hp
        rw [z, hd] at y1
        cases y1
      have hi := (List.getElem?_eq_some_iff.mp hd).1
      refine loopO_ok sg s1 (pp.rel.toIo hd) (b1.toIo hd q1) (by rw [set_get hi, if_pos rfl]) q1 (List.mem_cons_self ..) z1 (Dn := Dn) ?_
      cases o with
      | nx e3 => exact fun σ3 F3 H3 r3 b3 => q σ3 F3 H3 (r3.ofIo v) (b3.ofIo h0 hn)
      | ct e3 => exact fun σ3 F3 H3 r3 b3 => q σ3 F3 H3 (r3.ofIo v) (b3.ofIo h0 hn)
      | bk e3 => exact fun σ3 F3 H3 r3 b3 => q σ3 F3 H3 (r3.ofIo v) (b3.ofIo h0 hn)
      | rt r e3 => exact fun w σ3 F3 H3 r3 b3 rv => q w σ3 F3 H3 (r3.ofIo v) (b3.ofIo h0 hn) rv
    · cases hg
  · rename_i ds hd
    split at hg
    · rename_i hz
      obtain ⟨a, ob, q1, q2, q3, q4⟩ := rel.ow v _ hd rfl
      refine sa F H σ e (.b v) e rel (by unfold var; rw [hd]) _ fun w F1 H1 pp rv => ?_
      have rv : σ[v]? = some (some w) := rv
      rw [q1] at rv
      cases rv
      obtain ⟨a', ob', w1, w2, w3, w4⟩ := pp.rel.ow v _ hd rfl
      rw [q1] at w1
      cases w1
      obtain ⟨xs', rfl, rr'⟩ := RepO.list w4
      have b1 := b.step rel pp
      exact ⟨a, xs', rfl, .inl ⟨sq_of w3, fun hz' => loopO_ok sg s1 pp.rel b1 hd q1 (b1.io v _ a hd q1) hg q⟩⟩
    · cases hg
  · cases hg
end
end Sl

set_option Elab.async false
set_option linter.all false
set_option maxRecDepth 100000
set_option maxHeartbeats 2000000
set_option autoImplicit false
/-! Steps for owned walks, index. -/
namespace Sl
open PySem L2
def KU (v : Nat) (Q : Out → Prop) : Out → Prop := fun o => Q (unO v o)
def KCh (v : Nat) (ds : List D) (Q : Out → Prop) : Out → Prop
  | .nx e => e[v]? = some (some (.io (.list ds))) ∧ Q (.nx e)
  | .ct e => e[v]? = some (some (.io (.list ds))) ∧ Q (.ct e)
  | o => Q o
section
variable {v : Nat} {tg : D → En → Option En} {body : En → Option Out} {e e2 : En} {Q : Out → Prop} {ds : List D} {r : R}
theorem ws_forO (h : e[v]? = some (some (.ow (.list ds)))) (hz : ds.length ≤ 16777216) (hs : e.set v (some (.io (.list ds))) = e2) (k : Lk tg (chkO v ds body) ds e2 (KU v Q)) : Ws (forO v tg body) e Q := by
  subst hs
  obtain ⟨o, h1, q⟩ := k
  refine ⟨unO v o, ?_, q⟩
  unfold forO
  rw [h]
  simp only
  rw [if_pos (small_size hz), h1]
  rfl
theorem ws_forI (h : e[v]? = some (some (.io (.list ds)))) (hz : ds.length ≤ 16777216) (k : Lk tg (chkO v ds body) ds e Q) : Ws (forO v tg body) e Q := by
  obtain ⟨o, h1, q⟩ := k
  refine ⟨o, ?_, q⟩
  unfold forO
  rw [h]
  simp only
  rw [if_pos (small_size hz), h1]
theorem ws_chk (k : Ws body e (KCh v ds Q)) : Ws (chkO v ds body) e Q := by
  obtain ⟨o, h1, q⟩ := k
  cases o with
  | nx e3 => exact ⟨.nx e3, by unfold chkO; rw [h1]; simp only [Option.bind_some]; rw [if_pos q.1], q.2⟩
  | ct e3 => exact ⟨.ct e3, by unfold chkO; rw [h1]; simp only [Option.bind_some]; rw [if_pos q.1], q.2⟩
  | bk e3 => exact ⟨_, by unfold chkO; rw [h1]; rfl, q⟩
  | rt r e3 => exact ⟨_, by unfold chkO; rw [h1]; rfl, q⟩
theorem ku_nx (h : unE v e = e2) (k : Q (.nx e2)) : KU v Q (.nx e) := by subst h; exact k
theorem ku_rt (h : unE v e = e2) (k : Q (.rt r e2)) : KU v Q (.rt r e) := by subst h; exact k
theorem kch_nx (h : e[v]? = some (some (.io (.list ds)))) (k : Q (.nx e)) : KCh v ds Q (.nx e) := ⟨h, k⟩
theorem kch_ct (h : e[v]? = some (some (.io (.list ds)))) (k : Q (.ct e)) : KCh v ds Q (.ct e) := ⟨h, k⟩
theorem kch_rt (k : Q (.rt r e)) : KCh v ds Q (.rt r e) := k
theorem kch_bk (k : Q (.bk e)) : KCh v ds Q (.bk e) := k
end
section
variable {e : En} {Q : R → En → Prop} {f : M R} {fs : M (List D)} {ds : List D}
def KX (ds as : List D) (e : En) (Q : R → En → Prop) : Prop := ∃ r, ixTD ds as = some r ∧ Q r e
theorem kx_ix {as : List D} {r : R} (h : ixTD ds as = some r) (k : Q r e) : KX ds as e Q := ⟨r, h, k⟩
theorem wp_ixT (k : Wp fs e fun as e1 => KX ds as e1 Q) : Wp (ixT ds fs) e Q := by
  obtain ⟨as, e1, h1, r, h2, q⟩ := k
  exact ⟨r, e1, by unfold ixT; rw [h1]; simp only [Option.bind_some]; rw [h2]; rfl, q⟩
theorem ev_ixT {as : List D} {r : R} (h1 : EvA fs e as) (h2 : ixTD ds as = some r) : Ev (ixT ds fs) e r := by
  unfold Ev ixT; rw [h1]; simp only [Option.bind_some]; rw [h2]; rfl
theorem ev_methF {T : String} {o : D → List D → Option R} {x r : R} {d : D} {as : List D} (h1 : Ev f e x) (h2 : x.get e = some d) (h3 : isT T d = true) (h4 : EvA fs e as) (h5 : x.nf.get e = some d) (h6 : o d as = some r) : Ev (methF T o f fs) e r := by
  unfold Ev methF; rw [h1]; simp only [Option.bind_some]; rw [h2]; simp only [Option.bind_some]; rw [if_pos h3, h4]; simp only [Option.bind_some]; rw [h5]; simp only [Option.bind_some]; rw [h6]; rfl
end
/-- a comprehension over what is told by a kind of data -/
theorem kl_enc {α : Type} {vs : List Nat} {g1 : D → En → Option En} {cf : M Bool} {fe : M R} {e : En} {as : List α} {Q : R → En → Prop} (enc : α → D) (p : α → Bool) (F : α → D)
    (ht : ∀ x ∈ as, ∃ e1 b, g1 (enc x) (wipeE e vs) = some e1 ∧ EvT cf e1 b ∧ b = p x ∧ (b = true → ∃ r d, Ev fe e1 r ∧ frz r e1 = some (d, e1) ∧ d = F x) ∧ back e e1 vs = e)
    (k : Q (.n (.list ((as.filter p).map F))) e) : Kl vs g1 cf fe (as.map enc) e Q := by
  refine kl_inv (fun i acc e' => acc = ((as.take i).filter p).map F ∧ e' = e) ⟨rfl, rfl⟩ (fun i d acc e' hi hI => ?_) fun acc e' hI => ?_
  · obtain ⟨rfl, rfl⟩ := hI
    have hlt : i < as.length := by
      have := (List.getElem?_eq_some_iff.mp hi).1
      simpa using this
    have hd : d = enc as[i] := by
      rw [List.getElem?_map, List.getElem?_eq_getElem hlt] at hi
      exact (Option.some.inj hi).symm
    subst hd
    obtain ⟨e1, b, h1, h2, h3, h4, h5⟩ := ht _ (List.getElem_mem hlt)
    have htk : as.take (i + 1) = as.take i ++ [as[i]] := by rw [List.take_succ_eq_append_getElem hlt]
    refine ⟨e1, h1, b, e1, h2, ?_⟩
    subst h3
    rw [htk, List.filter_append, List.map_append]
    by_cases hb : p as[i] = true
    · obtain ⟨r, d, h6, h7, rfl⟩ := h4 hb
      rw [if_pos hb]
      exact ⟨r, e1, h6, _, e1, h7, by simp [hb], h5⟩
    · rw [if_neg hb]
      exact ⟨by simp [hb], h5⟩
  · obtain ⟨rfl, rfl⟩ := hI
    rw [List.length_map, List.take_length]
    exact k
theorem kl_encM {α : Type} {vs : List Nat} {g1 : D → En → Option En} {fe : M R} {e : En} {as : List α} {Q : R → En → Prop} (enc : α → D) (F : α → D)
    (ht : ∀ x ∈ as, ∃ e1, g1 (enc x) (wipeE e vs) = some e1 ∧ (∃ r d, Ev fe e1 r ∧ frz r e1 = some (d, e1) ∧ d = F x) ∧ back e e1 vs = e)
    (k : Q (.n (.list (as.map F))) e) : Kl vs g1 yesT fe (as.map enc) e Q :=
  kl_enc enc (fun _ => true) F (fun x hx => by
    obtain ⟨e1, h1, h2, h3⟩ := ht x hx
    exact ⟨e1, true, h1, rfl, rfl, fun _ => h2, h3⟩) (by
    have : as.filter (fun _ => true) = as := by simp
    rw [this]; exact k)
theorem all_true_map {α : Type} {as : List α} : allD [.list (as.map fun _ => PyData.bool true)] = some (.v (.bool true)) := by
  rw [all_map (b := fun _ : α => true)]
  simp
theorem any_false_map {α : Type} {as : List α} : anyD [.list (as.map fun _ => PyData.bool false)] = some (.v (.bool false)) := by
  rw [any_map (b := fun _ : α => false)]
  simp
/-! what can be compared -/
def Sh (n : Nat) (d : D) : Prop := d.canLay0 = true ∧ d.depth ≤ n
def ShA (n : Nat) (ds : List D) : Prop := ∀ x ∈ ds, Sh n x
section
variable {n : Nat} {d : D} {ds : List D}
theorem sh_int {i : Int} : Sh n (.int i) := ⟨rfl, Nat.zero_le _⟩
theorem sh_str {i : Str} (h : (PyData.str i).canLay0 = true) : Sh n (.str i) := ⟨h, Nat.zero_le _⟩
theorem sh_bool {i : Bool} : Sh n (.bool i) := ⟨rfl, Nat.zero_le _⟩
theorem sh_none : Sh n .none := ⟨rfl, Nat.zero_le _⟩
theorem shA_nil : ShA n [] := fun _ h => by cases h
theorem shA_cons (h : Sh n d) (k : ShA n ds) : ShA n (d :: ds) := fun x hx => by
  rcases List.mem_cons.mp hx with rfl | hx
  · exact h
  · exact k x hx
theorem shA_app {es : List D} (h : ShA n ds) (k : ShA n es) : ShA n (ds ++ es) := mem_app h k
theorem shA_ints {ns : List Int} : ShA n (ns.map .int) := fun x hx => by
  obtain ⟨i, _, rfl⟩ := List.mem_map.mp hx
  exact sh_int
theorem shA_map {α : Type} {f : α → D} {as : List α} (h : ∀ a, Sh n (f a)) : ShA n (as.map f) := fun x hx => by
  obtain ⟨i, _, rfl⟩ := List.mem_map.mp hx
  exact h i
theorem shA_all (h : ShA n ds) : PyData.canLayAll0 ds = true ∧ PyData.depthAll ds ≤ n := by
  induction ds with
  | nil => exact ⟨rfl, Nat.zero_le _⟩
  | cons d ds ih =>
    have ih := ih fun x hx => h x (List.mem_cons_of_mem _ hx)
    have h1 := h d (List.mem_cons_self ..)
    rw [shp_cons, dep_cons, ih.1, h1.1]
    exact ⟨rfl, Nat.max_le.mpr ⟨h1.2, ih.2⟩⟩
theorem sh_list (h : ShA n ds) : Sh (n + 1) (.list ds) := by
  have := shA_all h
  refine ⟨this.1, ?_⟩
  show PyData.depthAll ds + 1 ≤ n + 1
  omega
theorem sh_tup (h : ShA n ds) : Sh (n + 1) (.tuple ds) := by
  have := shA_all h
  refine ⟨this.1, ?_⟩
  show PyData.depthAll ds + 1 ≤ n + 1
  omega
theorem sh_mono {m : Nat} (h : Sh n d) (hm : n ≤ m) : Sh m d := ⟨h.1, by have := h.2; omega⟩
theorem sh_ok (h : Sh n d) (hn : n ≤ 64) : SeqAt.shaped d = true := by
  unfold SeqAt.shaped
  rw [h.1, Bool.true_and, decide_eq_true_eq]
  have := h.2
  omega
end
theorem ev_chn {f g h : M R} {e : En} {o o' : D → D → Option R} {x y z : R} {dx dy dz : D} {a b : Bool} (h1 : Ev f e x) (h2 : Ev g e y) (h3 : x.get e = some dx) (h4 : y.get e = some dy) (h5 : o dx dy = some (.v (.bool a))) (h6 : Ev h e z) (h7 : z.get e = some dz) (h8 : o' dy dz = some (.v (.bool b))) :
    Ev (chn o o' f g h) e (.v (.bool (a && b))) := by
  unfold Ev chn
  rw [h1]; simp only [Option.bind_some]; rw [h2]; simp only [Option.bind_some]; rw [h3]; simp only [Option.bind_some]; rw [h4]; simp only [Option.bind_some]; rw [h5]; simp only [Option.bind_some]
  cases a with
  | false => rfl
  | true =>
    rw [h6]; simp only [Option.bind_some]; rw [h7]; simp only [Option.bind_some]; rw [h4]; simp only [Option.bind_some]; rw [h8]; simp
theorem kc_C {m1 m2 : Mm} {fi : M R} {fs : M (List R)} {e : En} {Q : R → En → Prop} (k : Wp fi e fun x e1 => ∃ i : Int, x.get e1 = some (.int i) ∧ ((i = 0 ∧ Wp (callP m1 fs) e1 Q) ∨ (i = 1 ∧ Wp (callP m2 fs) e1 Q))) : Wp (callC m1 m2 fi fs) e Q := by
  obtain ⟨x, e1, h1, i, h2, h3⟩ := k
  rcases h3 with ⟨rfl, r, e2, h4, q⟩ | ⟨rfl, r, e2, h4, q⟩
  · exact ⟨r, e2, by unfold callC; rw [h1]; simp only [Option.bind_some]; rw [h2]; simp only [Option.bind_some, if_true]; exact h4, q⟩
  · exact ⟨r, e2, by unfold callC; rw [h1]; simp only [Option.bind_some]; rw [h2]; show (if (1 : Int) = 0 then callP m1 fs e1 else if (1 : Int) = 1 then callP m2 fs e1 else none) = _; rw [if_neg (by decide), if_pos rfl]; exact h4, q⟩
end Sl

set_option Elab.async false
set_option linter.all false
set_option maxRecDepth 100000
set_option maxHeartbeats 2000000
set_option autoImplicit false
/-! Facts found by their form: tests that are decided, calls whose worth is known. -/
namespace Sl
open PySem L2
class Tru (p : Prop) : Prop where h : p
class Fls (p : Prop) : Prop where h : ¬ p
section
variable {p q A B RR : Prop}
instance {dp : Decidable p} {j : Decidable (decide p = true)} [f : Tru p] [Rs A RR] : Rn (@_root_.ite Prop (decide p = true) j A B) RR := ⟨fun hh => if_dY f.h (Rs.h hh)⟩
instance {dp : Decidable p} {j : Decidable (decide p = true)} [f : Fls p] [Rs B RR] : Rn (@_root_.ite Prop (decide p = true) j A B) RR := ⟨fun hh => if_dN f.h (Rs.h hh)⟩
instance {dp : Decidable p} {j : Decidable ((!decide p) = true)} [f : Tru p] [Rs B RR] : Rn (@_root_.ite Prop ((!decide p) = true) j A B) RR := ⟨fun hh => if_ndec (fun n => absurd f.h n) fun _ => Rs.h hh⟩
instance {dp : Decidable p} {j : Decidable ((!decide p) = true)} [f : Fls p] [Rs A RR] : Rn (@_root_.ite Prop ((!decide p) = true) j A B) RR := ⟨fun hh => if_ndec (fun _ => Rs.h hh) fun y => absurd y f.h⟩
end
instance {a : Int} : Tru (a = a) := ⟨rfl⟩
instance {a : Str} : Tru (a = a) := ⟨rfl⟩
instance {i : Int} : Op2 modD (.int i) (.int 2) (.v (.int (i % 2))) := ⟨mod_sym (by decide)⟩
instance {i : Int} : Op2 divD (.int i) (.int 2) (.v (.int (i / 2))) := ⟨div_sym (by decide)⟩
instance {i : Int} : Op2 mulD (.int 2) (.int i) (.v (.int (2 * i))) := ⟨mul_l (by decide)⟩
instance {i : Int} : Op2 mulD (.int i) (.int 2) (.v (.int (i * 2))) := ⟨mul_r (by decide)⟩
instance {i : Int} : Op2 modD (.int i) (.int 3) (.v (.int (i % 3))) := ⟨mod_sym (by decide)⟩
instance {i : Int} : Op2 divD (.int i) (.int 3) (.v (.int (i / 3))) := ⟨div_sym (by decide)⟩
instance {i : Int} : Op2 mulD (.int 3) (.int i) (.v (.int (3 * i))) := ⟨mul_l (by decide)⟩
instance {i : Int} : Op2 mulD (.int i) (.int 3) (.v (.int (i * 3))) := ⟨mul_r (by decide)⟩
instance {i : Int} : Op2 modD (.int i) (.int 4) (.v (.int (i % 4))) := ⟨mod_sym (by decide)⟩
instance {i : Int} : Op2 divD (.int i) (.int 4) (.v (.int (i / 4))) := ⟨div_sym (by decide)⟩
instance {i : Int} : Op2 mulD (.int 4) (.int i) (.v (.int (4 * i))) := ⟨mul_l (by decide)⟩
instance {i : Int} : Op2 mulD (.int i) (.int 4) (.v (.int (i * 4))) := ⟨mul_r (by decide)⟩
instance {i : Int} : Op2 modD (.int i) (.int 8) (.v (.int (i % 8))) := ⟨mod_sym (by decide)⟩
instance {i : Int} : Op2 divD (.int i) (.int 8) (.v (.int (i / 8))) := ⟨div_sym (by decide)⟩
instance {i : Int} : Op2 mulD (.int 8) (.int i) (.v (.int (8 * i))) := ⟨mul_l (by decide)⟩
instance {i : Int} : Op2 mulD (.int i) (.int 8) (.v (.int (i * 8))) := ⟨mul_r (by decide)⟩
instance {i : Int} : Op2 modD (.int i) (.int 10) (.v (.int (i % 10))) := ⟨mod_sym (by decide)⟩
instance {i : Int} : Op2 divD (.int i) (.int 10) (.v (.int (i / 10))) := ⟨div_sym (by decide)⟩
instance {i : Int} : Op2 mulD (.int 10) (.int i) (.v (.int (10 * i))) := ⟨mul_l (by decide)⟩
instance {i : Int} : Op2 mulD (.int i) (.int 10) (.v (.int (i * 10))) := ⟨mul_r (by decide)⟩
instance {i : Int} : Op2 modD (.int i) (.int 12) (.v (.int (i % 12))) := ⟨mod_sym (by decide)⟩
instance {i : Int} : Op2 divD (.int i) (.int 12) (.v (.int (i / 12))) := ⟨div_sym (by decide)⟩
instance {i : Int} : Op2 mulD (.int 12) (.int i) (.v (.int (12 * i))) := ⟨mul_l (by decide)⟩
instance {i : Int} : Op2 mulD (.int i) (.int 12) (.v (.int (i * 12))) := ⟨mul_r (by decide)⟩
instance {i : Int} : Op2 modD (.int i) (.int 16) (.v (.int (i % 16))) := ⟨mod_sym (by decide)⟩
instance {i : Int} : Op2 divD (.int i) (.int 16) (.v (.int (i / 16))) := ⟨div_sym (by decide)⟩
instance {i : Int} : Op2 mulD (.int 16) (.int i) (.v (.int (16 * i))) := ⟨mul_l (by decide)⟩
instance {i : Int} : Op2 mulD (.int i) (.int 16) (.v (.int (i * 16))) := ⟨mul_r (by decide)⟩
instance {i : Int} : Op2 modD (.int i) (.int 20) (.v (.int (i % 20))) := ⟨mod_sym (by decide)⟩
instance {i : Int} : Op2 divD (.int i) (.int 20) (.v (.int (i / 20))) := ⟨div_sym (by decide)⟩
instance {i : Int} : Op2 mulD (.int 20) (.int i) (.v (.int (20 * i))) := ⟨mul_l (by decide)⟩
instance {i : Int} : Op2 mulD (.int i) (.int 20) (.v (.int (i * 20))) := ⟨mul_r (by decide)⟩
instance {i : Int} : Op2 modD (.int i) (.int 40) (.v (.int (i % 40))) := ⟨mod_sym (by decide)⟩
instance {i : Int} : Op2 divD (.int i) (.int 40) (.v (.int (i / 40))) := ⟨div_sym (by decide)⟩
instance {i : Int} : Op2 mulD (.int 40) (.int i) (.v (.int (40 * i))) := ⟨mul_l (by decide)⟩
instance {i : Int} : Op2 mulD (.int i) (.int 40) (.v (.int (i * 40))) := ⟨mul_r (by decide)⟩
instance {i : Int} : Op2 modD (.int i) (.int 99) (.v (.int (i % 99))) := ⟨mod_sym (by decide)⟩
instance {i : Int} : Op2 divD (.int i) (.int 99) (.v (.int (i / 99))) := ⟨div_sym (by decide)⟩
instance {i : Int} : Op2 mulD (.int 99) (.int i) (.v (.int (99 * i))) := ⟨mul_l (by decide)⟩
instance {i : Int} : Op2 mulD (.int i) (.int 99) (.v (.int (i * 99))) := ⟨mul_r (by decide)⟩
instance {i : Int} : Op2 modD (.int i) (.int 100) (.v (.int (i % 100))) := ⟨mod_sym (by decide)⟩
instance {i : Int} : Op2 divD (.int i) (.int 100) (.v (.int (i / 100))) := ⟨div_sym (by decide)⟩
instance {i : Int} : Op2 mulD (.int 100) (.int i) (.v (.int (100 * i))) := ⟨mul_l (by decide)⟩
instance {i : Int} : Op2 mulD (.int i) (.int 100) (.v (.int (i * 100))) := ⟨mul_r (by decide)⟩
instance {i : Int} : Op2 modD (.int i) (.int 101) (.v (.int (i % 101))) := ⟨mod_sym (by decide)⟩
instance {i : Int} : Op2 divD (.int i) (.int 101) (.v (.int (i / 101))) := ⟨div_sym (by decide)⟩
instance {i : Int} : Op2 mulD (.int 101) (.int i) (.v (.int (101 * i))) := ⟨mul_l (by decide)⟩
instance {i : Int} : Op2 mulD (.int i) (.int 101) (.v (.int (i * 101))) := ⟨mul_r (by decide)⟩
instance {i : Int} : Op2 modD (.int i) (.int 10000) (.v (.int (i % 10000))) := ⟨mod_sym (by decide)⟩
instance {i : Int} : Op2 divD (.int i) (.int 10000) (.v (.int (i / 10000))) := ⟨div_sym (by decide)⟩
instance {i : Int} : Op2 mulD (.int 10000) (.int i) (.v (.int (10000 * i))) := ⟨mul_l (by decide)⟩
instance {i : Int} : Op2 mulD (.int i) (.int 10000) (.v (.int (i * 10000))) := ⟨mul_r (by decide)⟩
instance {k : Int} {ns : List Int} : Op2 inR (.int k) (.tuple (ns.map .int)) (.v (.bool (decide (k ∈ ns)))) := ⟨in_tup rfl⟩
instance {k : Int} {ns : List Int} : Op2 inR (.int k) (.list (ns.map .int)) (.v (.bool (decide (k ∈ ns)))) := ⟨in_lst rfl⟩
instance {k : Int} {ns : List Int} : Op2 ninR (.int k) (.tuple (ns.map .int)) (.v (.bool (!decide (k ∈ ns)))) := ⟨nin_tup rfl⟩
instance {k : Int} {ns : List Int} : Op2 ninR (.int k) (.list (ns.map .int)) (.v (.bool (!decide (k ∈ ns)))) := ⟨nin_lst rfl⟩
instance {es : List (D × D)} : Op1 (isiD "int") (.dict es) (.v (.bool false)) := ⟨isiD_dict (by decide +kernel) (by decide +kernel)⟩
instance {es : List (D × D)} : Op1 (isiD "bool") (.dict es) (.v (.bool false)) := ⟨isiD_dict (by decide +kernel) (by decide +kernel)⟩
instance {es : List (D × D)} : Op1 (isiD "str") (.dict es) (.v (.bool false)) := ⟨isiD_dict (by decide +kernel) (by decide +kernel)⟩
instance {es : List (D × D)} : Op1 (isiD "list") (.dict es) (.v (.bool false)) := ⟨isiD_dict (by decide +kernel) (by decide +kernel)⟩
instance {es : List (D × D)} : Op1 (isiD "tuple") (.dict es) (.v (.bool false)) := ⟨isiD_dict (by decide +kernel) (by decide +kernel)⟩
theorem isi2D_dict {T T2 : String} {b b2 : Bool} (h1 : kitB "dict" T = some b) (h2 : kitB "ValueError" T = some b) (h3 : kitB "dict" T2 = some b2) (h4 : kitB "ValueError" T2 = some b2) {es : List (D × D)} : isi2D T T2 (.dict es) = some (.v (.bool (b || b2))) := by
  by_cases h : nx es = true
  · unfold isi2D; rw [tyD_nx h, h1]; cases b <;> simp [h3]
  · have e : tyD (.dict es) = "ValueError" := if_neg h
    unfold isi2D; rw [e, h2]; cases b <;> simp [h4]
instance {es : List (D × D)} : Op1 (isi2D "list" "tuple") (.dict es) (.v (.bool false)) := ⟨isi2D_dict (T := "list") (T2 := "tuple") (b := false) (b2 := false) (by decide +kernel) (by decide +kernel) (by decide +kernel) (by decide +kernel)⟩
instance {es : List (D × D)} : Op1 (isi2D "tuple" "list") (.dict es) (.v (.bool false)) := ⟨isi2D_dict (T := "tuple") (T2 := "list") (b := false) (b2 := false) (by decide +kernel) (by decide +kernel) (by decide +kernel) (by decide +kernel)⟩
class AllI (ds : List D) (ns : outParam (List Int)) : Prop where h : ds = ns.map .int
instance : AllI [] [] := ⟨rfl⟩
instance {i : Int} {ds : List D} {ns : List Int} [q : AllI ds ns] : AllI (.int i :: ds) (i :: ns) := ⟨by rw [q.h]; rfl⟩
instance {k : Int} {ds : List D} {ns : List Int} [q : AllI ds ns] : Op2 inR (.int k) (.tuple ds) (.v (.bool (decide (k ∈ ns)))) := ⟨in_tup q.h⟩
instance {k : Int} {ds : List D} {ns : List Int} [q : AllI ds ns] : Op2 inR (.int k) (.list ds) (.v (.bool (decide (k ∈ ns)))) := ⟨in_lst q.h⟩
instance {k : Int} {ds : List D} {ns : List Int} [q : AllI ds ns] : Op2 ninR (.int k) (.tuple ds) (.v (.bool (!decide (k ∈ ns)))) := ⟨nin_tup q.h⟩
instance {k : Int} {ds : List D} {ns : List Int} [q : AllI ds ns] : Op2 ninR (.int k) (.list ds) (.v (.bool (!decide (k ∈ ns)))) := ⟨nin_lst q.h⟩
/-- .. of texts -/
class AllS (ds : List D) (ns : outParam (List Str)) : Prop where h : ds = ns.map .str
instance : AllS [] [] := ⟨rfl⟩
instance {i : Str} {ds : List D} {ns : List Str} [q : AllS ds ns] : AllS (.str i :: ds) (i :: ns) := ⟨by rw [q.h]; rfl⟩
theorem any_strs (k : Str) (ns : List Str) : ((ns.map PyData.str).any fun y => PyData.eqv y (.str k)) = decide (k ∈ ns) := by
  induction ns with
  | nil => simp
  | cons n ns ih =>
    rw [List.map_cons, List.any_cons, ih]
    by_cases h : n = k
    · subst h; simp [PyData.eqv]
    · have h' : ¬ k = n := fun q => h q.symm
      simp [PyData.eqv, h, h', List.mem_cons]
theorem flat_strs (ns : List Str) : (ns.map PyData.str).all flatD = true := by simp [List.all_eq_true, flatD]
theorem inS_tup (k : Str) (ns : List Str) : inD (.str k) (.tuple (ns.map .str)) = some (decide (k ∈ ns)) := by
  show inSeq (.str k) (ns.map .str) = _
  unfold inSeq
  rw [flat_strs, any_strs]
  rfl
instance {k : Str} {ds : List D} {ns : List Str} [q : AllS ds ns] : Op2 inR (.str k) (.tuple ds) (.v (.bool (decide (k ∈ ns)))) := ⟨by rw [q.h]; unfold inR; rw [inS_tup]; rfl⟩
instance {k : Str} {ds : List D} {ns : List Str} [q : AllS ds ns] : Op2 ninR (.str k) (.tuple ds) (.v (.bool (!decide (k ∈ ns)))) := ⟨by rw [q.h]; unfold ninR; rw [inS_tup]; rfl⟩
instance : Fls (("stop" : Str) = "load") := ⟨by decide⟩
instance : Fls (("stop" : Str) = "store") := ⟨by decide⟩
instance : Fls (("stop" : Str) = "add") := ⟨by decide⟩
instance : Fls (("stop" : Str) = "less") := ⟨by decide⟩
instance : Fls (("stop" : Str) = "go") := ⟨by decide⟩
instance : Fls (("stop" : Str) = "nought") := ⟨by decide⟩
instance : Fls (("stop" : Str) = "great") := ⟨by decide⟩
instance : Fls (("stop" : Str) = "say") := ⟨by decide⟩
instance : Fls (("stop" : Str) = "hear") := ⟨by decide⟩
instance : Fls (("stop" : Str) = "patch") := ⟨by decide⟩
instance : Fls (("stop" : Str) = "norow") := ⟨by decide⟩
instance : Fls (("stop" : Str) = "beyond") := ⟨by decide⟩
instance : Fls (("load" : Str) = "stop") := ⟨by decide⟩
instance : Fls (("load" : Str) = "store") := ⟨by decide⟩
instance : Fls (("load" : Str) = "add") := ⟨by decide⟩
instance : Fls (("load" : Str) = "less") := ⟨by decide⟩
instance : Fls (("load" : Str) = "go") := ⟨by decide⟩
instance : Fls (("load" : Str) = "nought") := ⟨by decide⟩
instance : Fls (("load" : Str) = "great") := ⟨by decide⟩
instance : Fls (("load" : Str) = "say") := ⟨by decide⟩
instance : Fls (("load" : Str) = "hear") := ⟨by decide⟩
instance : Fls (("load" : Str) = "patch") := ⟨by decide⟩
instance : Fls (("load" : Str) = "norow") := ⟨by decide⟩
instance : Fls (("load" : Str) = "beyond") := ⟨by decide⟩
instance : Fls (("store" : Str) = "stop") := ⟨by decide⟩
instance : Fls (("store" : Str) = "load") := ⟨by decide⟩
instance : Fls (("store" : Str) = "add") := ⟨by decide⟩
instance : Fls (("store" : Str) = "less") := ⟨by decide⟩
instance : Fls (("store" : Str) = "go") := ⟨by decide⟩
instance : Fls (("store" : Str) = "nought") := ⟨by decide⟩
instance : Fls (("store" : Str) = "great") := ⟨by decide⟩
instance : Fls (("store" : Str) = "say") := ⟨by decide⟩
instance : Fls (("store" : Str) = "hear") := ⟨by decide⟩
instance : Fls (("store" : Str) = "patch") := ⟨by decide⟩
instance : Fls (("store" : Str) = "norow") := ⟨by decide⟩
instance : Fls (("store" : Str) = "beyond") := ⟨by decide⟩
instance : Fls (("add" : Str) = "stop") := ⟨by decide⟩
instance : Fls (("add" : Str) = "load") := ⟨by decide⟩
instance : Fls (("add" : Str) = "store") := ⟨by decide⟩
instance : Fls (("add" : Str) = "less") := ⟨by decide⟩
instance : Fls (("add" : Str) = "go") := ⟨by decide⟩
instance : Fls (("add" : Str) = "nought") := ⟨by decide⟩
instance : Fls (("add" : Str) = "great") := ⟨by decide⟩
instance : Fls (("add" : Str) = "say") := ⟨by decide⟩
instance : Fls (("add" : Str) = "hear") := ⟨by decide⟩
instance : Fls (("add" : Str) = "patch") := ⟨by decide⟩
instance : Fls (("add" : Str) = "norow") := ⟨by decide⟩
instance : Fls (("add" : Str) = "beyond") := ⟨by decide⟩
instance : Fls (("less" : Str) = "stop") := ⟨by decide⟩
instance : Fls (("less" : Str) = "load") := ⟨by decide⟩
instance : Fls (("less" : Str) = "store") := ⟨by decide⟩
instance : Fls (("less" : Str) = "add") := ⟨by decide⟩
instance : Fls (("less" : Str) = "go") := ⟨by decide⟩
instance : Fls (("less" : Str) = "nought") := ⟨by decide⟩
instance : Fls (("less" : Str) = "great") := ⟨by decide⟩
instance : Fls (("less" : Str) = "say") := ⟨by decide⟩
instance : Fls (("less" : Str) = "hear") := ⟨by decide⟩
instance : Fls (("less" : Str) = "patch") := ⟨by decide⟩
instance : Fls (("less" : Str) = "norow") := ⟨by decide⟩
instance : Fls (("less" : Str) = "beyond") := ⟨by decide⟩
instance : Fls (("go" : Str) = "stop") := ⟨by decide⟩
instance : Fls (("go" : Str) = "load") := ⟨by decide⟩
instance : Fls (("go" : Str) = "store") := ⟨by decide⟩
instance : Fls (("go" : Str) = "add") := ⟨by decide⟩
instance : Fls (("go" : Str) = "less") := ⟨by decide⟩
instance : Fls (("go" : Str) = "nought") := ⟨by decide⟩
instance : Fls (("go" : Str) = "great") := ⟨by decide⟩
instance : Fls (("go" : Str) = "say") := ⟨by decide⟩
instance : Fls (("go" : Str) = "hear") := ⟨by decide⟩
instance : Fls (("go" : Str) = "patch") := ⟨by decide⟩
instance : Fls (("go" : Str) = "norow") := ⟨by decide⟩
instance : Fls (("go" : Str) = "beyond") := ⟨by decide⟩
instance : Fls (("nought" : Str) = "stop") := ⟨by decide⟩
instance : Fls (("nought" : Str) = "load") := ⟨by decide⟩
instance : Fls (("nought" : Str) = "store") := ⟨by decide⟩
instance : Fls (("nought" : Str) = "add") := ⟨by decide⟩
instance : Fls (("nought" : Str) = "less") := ⟨by decide⟩
instance : Fls (("nought" : Str) = "go") := ⟨by decide⟩
instance : Fls (("nought" : Str) = "great") := ⟨by decide⟩
instance : Fls (("nought" : Str) = "say") := ⟨by decide⟩
instance : Fls (("nought" : Str) = "hear") := ⟨by decide⟩
instance : Fls (("nought" : Str) = "patch") := ⟨by decide⟩
instance : Fls (("nought" : Str) = "norow") := ⟨by decide⟩
instance : Fls (("nought" : Str) = "beyond") := ⟨by decide⟩
instance : Fls (("great" : Str) = "stop") := ⟨by decide⟩
instance : Fls (("great" : Str) = "load") := ⟨by decide⟩
instance : Fls (("great" : Str) = "store") := ⟨by decide⟩
instance : Fls (("great" : Str) = "add") := ⟨by decide⟩
instance : Fls (("great" : Str) = "less") := ⟨by decide⟩
instance : Fls (("great" : Str) = "go") := ⟨by decide⟩
instance : Fls (("great" : Str) = "nought") := ⟨by decide⟩
instance : Fls (("great" : Str) = "say") := ⟨by decide⟩
instance : Fls (("great" : Str) = "hear") := ⟨by decide⟩
instance : Fls (("great" : Str) = "patch") := ⟨by decide⟩
instance : Fls (("great" : Str) = "norow") := ⟨by decide⟩
instance : Fls (("great" : Str) = "beyond") := ⟨by decide⟩
instance : Fls (("say" : Str) = "stop") := ⟨by decide⟩
instance : Fls (("say" : Str) = "load") := ⟨by decide⟩
instance : Fls (("say" : Str) = "store") := ⟨by decide⟩
instance : Fls (("say" : Str) = "add") := ⟨by decide⟩
instance : Fls (("say" : Str) = "less") := ⟨by decide⟩
instance : Fls (("say" : Str) = "go") := ⟨by decide⟩
instance : Fls (("say" : Str) = "nought") := ⟨by decide⟩
instance : Fls (("say" : Str) = "great") := ⟨by decide⟩
instance : Fls (("say" : Str) = "hear") := ⟨by decide⟩
instance : Fls (("say" : Str) = "patch") := ⟨by decide⟩
instance : Fls (("say" : Str) = "norow") := ⟨by decide⟩
instance : Fls (("say" : Str) = "beyond") := ⟨by decide⟩
instance : Fls (("hear" : Str) = "stop") := ⟨by decide⟩
instance : Fls (("hear" : Str) = "load") := ⟨by decide⟩
instance : Fls (("hear" : Str) = "store") := ⟨by decide⟩
instance : Fls (("hear" : Str) = "add") := ⟨by decide⟩
instance : Fls (("hear" : Str) = "less") := ⟨by decide⟩
instance : Fls (("hear" : Str) = "go") := ⟨by decide⟩
instance : Fls (("hear" : Str) = "nought") := ⟨by decide⟩
instance : Fls (("hear" : Str) = "great") := ⟨by decide⟩
instance : Fls (("hear" : Str) = "say") := ⟨by decide⟩
instance : Fls (("hear" : Str) = "patch") := ⟨by decide⟩
instance : Fls (("hear" : Str) = "norow") := ⟨by decide⟩
instance : Fls (("hear" : Str) = "beyond") := ⟨by decide⟩
instance : Fls (("patch" : Str) = "stop") := ⟨by decide⟩
instance : Fls (("patch" : Str) = "load") := ⟨by decide⟩
instance : Fls (("patch" : Str) = "store") := ⟨by decide⟩
instance : Fls (("patch" : Str) = "add") := ⟨by decide⟩
instance : Fls (("patch" : Str) = "less") := ⟨by decide⟩
instance : Fls (("patch" : Str) = "go") := ⟨by decide⟩
instance : Fls (("patch" : Str) = "nought") := ⟨by decide⟩
instance : Fls (("patch" : Str) = "great") := ⟨by decide⟩
instance : Fls (("patch" : Str) = "say") := ⟨by decide⟩
instance : Fls (("patch" : Str) = "hear") := ⟨by decide⟩
instance : Fls (("patch" : Str) = "norow") := ⟨by decide⟩
instance : Fls (("patch" : Str) = "beyond") := ⟨by decide⟩
instance : Fls (("norow" : Str) = "stop") := ⟨by decide⟩
instance : Fls (("norow" : Str) = "load") := ⟨by decide⟩
instance : Fls (("norow" : Str) = "store") := ⟨by decide⟩
instance : Fls (("norow" : Str) = "add") := ⟨by decide⟩
instance : Fls (("norow" : Str) = "less") := ⟨by decide⟩
instance : Fls (("norow" : Str) = "go") := ⟨by decide⟩
instance : Fls (("norow" : Str) = "nought") := ⟨by decide⟩
instance : Fls (("norow" : Str) = "great") := ⟨by decide⟩
instance : Fls (("norow" : Str) = "say") := ⟨by decide⟩
instance : Fls (("norow" : Str) = "hear") := ⟨by decide⟩
instance : Fls (("norow" : Str) = "patch") := ⟨by decide⟩
instance : Fls (("norow" : Str) = "beyond") := ⟨by decide⟩
instance : Fls (("beyond" : Str) = "stop") := ⟨by decide⟩
instance : Fls (("beyond" : Str) = "load") := ⟨by decide⟩
instance : Fls (("beyond" : Str) = "store") := ⟨by decide⟩
instance : Fls (("beyond" : Str) = "add") := ⟨by decide⟩
instance : Fls (("beyond" : Str) = "less") := ⟨by decide⟩
instance : Fls (("beyond" : Str) = "go") := ⟨by decide⟩
instance : Fls (("beyond" : Str) = "nought") := ⟨by decide⟩
instance : Fls (("beyond" : Str) = "great") := ⟨by decide⟩
instance : Fls (("beyond" : Str) = "say") := ⟨by decide⟩
instance : Fls (("beyond" : Str) = "hear") := ⟨by decide⟩
instance : Fls (("beyond" : Str) = "patch") := ⟨by decide⟩
instance : Fls (("beyond" : Str) = "norow") := ⟨by decide⟩
theorem inS_lst (k : Str) (ns : List Str) : inD (.str k) (.list (ns.map .str)) = some (decide (k ∈ ns)) := by
  show (if (flatD (.str k) && (ns.map PyData.str).all flatD) = true then some ((ns.map PyData.str).any fun y => y.eqv (.str k)) else _) = _
  rw [flat_strs, any_strs]
  rfl
instance {k : Str} {ds : List D} {ns : List Str} [q : AllS ds ns] : Op2 inR (.str k) (.list ds) (.v (.bool (decide (k ∈ ns)))) := ⟨by rw [q.h]; unfold inR; rw [inS_lst]; rfl⟩
instance {k : Str} {ds : List D} {ns : List Str} [q : AllS ds ns] : Op2 ninR (.str k) (.list ds) (.v (.bool (!decide (k ∈ ns)))) := ⟨by rw [q.h]; unfold ninR; rw [inS_lst]; rfl⟩
instance {ns : List Str} : AllS (ns.map .str) ns := ⟨rfl⟩
instance {ns : List Str} {i : Int} [p : Tru (0 ≤ i)] [q : Tru (i < (ns.map PyData.str).length)] : Op2 ixD (.list (ns.map .str)) (.int i) (.v (.str (ns.getD i.toNat ""))) := ⟨by
  have h0 := p.h
  have h1 := q.h
  rw [List.length_map] at h1
  show (atI (ns.map PyData.str) i).map R.v = _
  rw [atI_nat h0, List.getElem?_map, List.getElem?_eq_getElem (by omega), List.getD_eq_getElem?_getD, List.getElem?_eq_getElem (by omega)]
  rfl⟩
instance {ns : List Int} {i : Int} [p : Tru (0 ≤ i)] [q : Tru (i < (ns.map PyData.int).length)] : Op2 ixD (.list (ns.map .int)) (.int i) (.v (.int (ns.getD i.toNat 0))) := ⟨by
  have h0 := p.h
  have h1 := q.h
  rw [List.length_map] at h1
  show (atI (ns.map PyData.int) i).map R.v = _
  rw [atI_nat h0, List.getElem?_map, List.getElem?_eq_getElem (by omega), List.getD_eq_getElem?_getD, List.getElem?_eq_getElem (by omega)]
  rfl⟩
instance {ns : List Int} {i : Int} [p : Tru (0 ≤ i)] [q : Tru (i < (ns.map PyData.int).length)] : Op2 ixD (.tuple (ns.map .int)) (.int i) (.v (.int (ns.getD i.toNat 0))) := ⟨by
  have h0 := p.h
  have h1 := q.h
  rw [List.length_map] at h1
  show (atI (ns.map PyData.int) i).map R.v = _
  rw [atI_nat h0, List.getElem?_map, List.getElem?_eq_getElem (by omega), List.getD_eq_getElem?_getD, List.getElem?_eq_getElem (by omega)]
  rfl⟩
theorem getD_mem {α : Type} {l : List α} {i : Nat} {d : α} (h : i < l.length) : l.getD i d ∈ l := by
  rw [List.getD_eq_getElem?_getD, List.getElem?_eq_getElem h]
  exact List.getElem_mem h
section
variable {α : Type} {k a : α} {l : List α}
instance : Fls (k ∈ ([] : List α)) := ⟨by simp⟩
instance [p : Fls (k = a)] [q : Fls (k ∈ l)] : Fls (k ∈ a :: l) := ⟨fun h => by
  rcases List.mem_cons.mp h with h | h
  · exact p.h h
  · exact q.h h⟩
instance [p : Tru (k = a)] : Tru (k ∈ a :: l) := ⟨by rw [p.h]; exact List.mem_cons_self ..⟩
instance [q : Tru (k ∈ l)] : Tru (k ∈ a :: l) := ⟨List.mem_cons_of_mem _ q.h⟩
end
class Cal (m : Mm) (sl : List Cel) (r : outParam R) (out : outParam (List Cel)) : Prop where h : m sl = some (r, out)
class NoB (rs : List R) : Prop where h : rs.any isB = false
instance : NoB [] := ⟨rfl⟩
instance {d : D} {rs : List R} [q : NoB rs] : NoB (.v d :: rs) := ⟨by rw [List.any_cons, q.h]; rfl⟩
instance {d : D} {rs : List R} [q : NoB rs] : NoB (.n d :: rs) := ⟨by rw [List.any_cons, q.h]; rfl⟩
class OkC (r : R) (rs : List R) : Prop where h : (okR r || !(rs.any isB)) = true
instance {r : R} {rs : List R} [q : NoB rs] : OkC r rs := ⟨okB q.h⟩
instance {b : Bool} {rs : List R} : OkC (.v (.bool b)) rs := ⟨rfl⟩
instance {b : Int} {rs : List R} : OkC (.v (.int b)) rs := ⟨rfl⟩
instance {b : Str} {rs : List R} : OkC (.v (.str b)) rs := ⟨rfl⟩
instance {rs : List R} : OkC (.v .none) rs := ⟨rfl⟩
class FzA (ds : List D) (sl : outParam (List Cel)) : Prop where h : ds.map Cel.fz = sl
instance : FzA [] [] := ⟨rfl⟩
instance {d : D} {ds : List D} {sl : List Cel} [q : FzA ds sl] : FzA (d :: ds) (.fz d :: sl) := ⟨by rw [List.map_cons, q.h]⟩
instance {m : Mm} {rs : List R} {e : En} {ds : List D} {sl out : List Cel} {r : R} {Q : R → En → Prop} {RR : Prop} [q1 : GtA rs e ds] [q2 : FzA ds sl] [q3 : Cal m sl r out] [q4 : OkC r rs] [Rs (Q r e) RR] : Rn (KC m rs e Q) RR :=
  ⟨fun hh => kcx q1.h q2.h (wm_eq q3.h ⟨q4.h, Rs.h hh⟩)⟩
instance {m : Mm} {sl out : List Cel} {r : R} {Q : R → List Cel → Prop} {RR : Prop} [q3 : Cal m sl r out] [Rs (Q r out) RR] : Rn (Wm m sl Q) RR := ⟨fun hh => wm_eq q3.h (Rs.h hh)⟩
/-! the readings as equations, for tests in comprehensions, still go by `walk_at "ev"` -/
end Sl

set_option Elab.async false
set_option linter.all false
set_option maxRecDepth 100000
set_option maxHeartbeats 4000000
set_option autoImplicit false
namespace Rd
open Sl
@[reducible] def c_BY_BOX : D := .tuple [.str "load", .str "store", .str "add", .str "less", .str "say", .str "hear", .str "patch", .str "loadby", .str "storeby", .str "addby", .str "lessby", .str "sayby", .str "hearby", .str "patchby", .str "goby", .str "noughtby", .str "greatby"]
@[reducible] def c_BY_ROW : D := .tuple [.str "go", .str "nought", .str "great"]
@[reducible] def c_ENDING : D := .tuple [.str "stop", .str "norow", .str "beyond", .str "off", .str "lost"]
@[reducible] def c_LAST : D := .tuple [.str "go", .str "goby", .str "switch", .str "stop", .str "norow", .str "beyond", .str "off", .str "lost"]
@[reducible] def c_DOING_BY : D := .tuple [.str "loadby", .str "storeby", .str "addby", .str "lessby", .str "sayby", .str "hearby", .str "patchby"]
@[reducible] def c_DOING : D := .tuple [.str "load", .str "store", .str "add", .str "less", .str "say", .str "hear", .str "patch"]
@[reducible] def c_LEADING_BY : D := .tuple [.str "goby", .str "noughtby", .str "greatby"]
/-- kind_of: word -/
def b_kind_of : En → Option Out :=
  ret (bin divD (var 0) (con (.int 100)))
def m_kind_of : Mm := runM 1 1 b_kind_of
/-- address_of: word -/
def b_address_of : En → Option Out :=
  ret (bin modD (var 0) (con (.int 100)))
def m_address_of : Mm := runM 1 1 b_address_of
/-- word_of: kind, address -/
def b_word_of : En → Option Out :=
  ret (bin addD (bin mulD (var 0) (con (.int 100))) (var 1))
def m_word_of : Mm := runM 2 2 b_word_of
/-- patched: word, other -/
def b_patched : En → Option Out :=
  ret (callP m_word_of (consF (callP m_kind_of (consF (var 0) (nilP))) (consF (callP m_address_of (consF (var 1) (nilP))) (nilP))))
def m_patched : Mm := runM 2 2 b_patched
/-- is_from: thing, low, high -/
def b_is_from : En → Option Out :=
  ret (andV (isi "int" (var 0)) (andV (notV (isi "bool" (var 0))) (chn leD leD (var 1) (var 0) (var 2))))
def m_is_from : Mm := runM 3 3 b_is_from
/-- is_tuple_of: thing, low, high -/
def b_is_tuple_of : En → Option Out :=
  ret (andV (isi "tuple" (var 0)) (chn leD leD (var 1) (blt lenD (consP (var 0) (nilP))) (var 2)))
def m_is_tuple_of : Mm := runM 3 3 b_is_tuple_of
/-- law_pool: cell -/
def b_law_pool : En → Option Out :=
  ret (lstE (consA (blt maxD (consP (con (.int 0)) (consP (bin subD (var 0) (bin powD (con (.int 10)) (con (.int 18)))) (nilP)))) (consA (bin modD (var 0) (con (.int 999999937))) (consA (con (.int 0)) (nilA)))))
def m_law_pool : Mm := runM 1 1 b_law_pool
/-- law_next: pool, base, digit, turn, close, stir -/
def b_law_next : En → Option Out :=
  seq (ifS (tst (bin gtD (bin ixD (var 0) (con (.int 0))) (con (.int 0)))) (seq (asg 2 (bin modD (bin ixD (var 0) (con (.int 0))) (var 1)))
  (seq (setS setXD (bin divD (bin ixD (var 0) (con (.int 0))) (var 1)) (var 0) (con (.int 0)))
  (ret (var 2)))) (pas))
  (seq (asg 3 (bin addD (bin ixD (var 0) (con (.int 2))) (con (.int 1))))
  (seq (setS setXD (var 3) (var 0) (con (.int 2)))
  (seq (asg 4 (bin modD (bin addD (bin addD (bin ixD (var 0) (con (.int 1))) (bin mulD (bin mulD (con (.int 524287)) (var 3)) (var 3))) (bin mulD (con (.int 8191)) (var 3))) (con (.int 999999937))))
  (seq (asg 5 (bin modD (bin mulD (bin addD (var 4) (con (.int 17))) (bin addD (var 4) (con (.int 131071)))) (con (.int 2147483587))))
  (ret (bin modD (bin divD (bin modD (bin mulD (var 5) (var 5)) (con (.int 1073741789))) (con (.int 32))) (var 1)))))))
def m_law_next : Mm := runM 2 6 b_law_next
def b_law_cells_1 : En → Option Out :=
  setS setXD (bin addD (bin mulD (bin modD (bin ixD (var 2) (bin modD (var 3) (var 1))) (bin powD (con (.int 10)) (con (.int 60)))) (con (.int 31))) (bin ixD (var 0) (var 3))) (var 2) (bin modD (var 3) (var 1))
/-- law_cells: script, most, cells, k -/
def b_law_cells : En → Option Out :=
  seq (asg 2 (blt listD (consP (slc slD (var 0) (noP) (someP (var 1))) (nilP))))
  (seq (forS (rngE (consA (var 1) (consA (blt lenD (consP (var 0) (nilP))) (nilA)))) (gN 3) (b_law_cells_1))
  (ret (var 2)))
def m_law_cells : Mm := runM 2 4 b_law_cells
/-- law_doing:  -/
def b_law_doing : En → Option Out :=
  ret (lstE (consA (con (.str "load")) (consA (con (.str "store")) (consA (con (.str "add")) (consA (con (.str "less")) (consA (con (.str "say")) (consA (con (.str "hear")) (consA (con (.str "patch")) (nilA)))))))))
def m_law_doing : Mm := runM 0 0 b_law_doing
/-- law_ending:  -/
def b_law_ending : En → Option Out :=
  ret (lstE (consA (con (.str "stop")) (consA (con (.str "norow")) (consA (con (.str "beyond")) (consA (con (.str "off")) (consA (con (.str "lost")) (nilA)))))))
def m_law_ending : Mm := runM 0 0 b_law_ending
/-- law_within: thing, low, high -/
def b_law_within : En → Option Out :=
  ret (andV (isi "int" (var 0)) (andV (notV (isi "bool" (var 0))) (chn leD leD (var 1) (var 0) (var 2))))
def m_law_within : Mm := runM 3 3 b_law_within
/-- law_put: some, at, thing -/
def b_law_put : En → Option Out :=
  ret (bin addD (bin addD (slc slD (var 0) (noP) (someP (var 1))) (tupE (consA (var 2) (nilA)))) (slc slD (var 0) (someP (bin addD (var 1) (con (.int 1)))) (noP)))
def m_law_put : Mm := runM 3 3 b_law_put
/-- are_boxes: thing, word -/
def b_are_boxes : En → Option Out :=
  ret (andV (callP m_is_tuple_of (consF (var 0) (consF (con (.int 1)) (consF (con (.int 99)) (nilP))))) (blt allD (consP (lcE [1] (iterE (var 0)) (gN 1) (yesT) (callP m_is_from (consF (var 1) (consF (con (.int 0)) (consF (con (.int 9999)) (nilP)))))) (nilP))))
def m_are_boxes : Mm := runM 1 2 b_are_boxes
/-- is_row: thing, boxes, tables, rows -/
def b_is_row : En → Option Out :=
  seq (ifS (orT (notT (tst (callP m_is_tuple_of (consF (var 0) (consF (con (.int 3)) (consF (con (.int 3)) (nilP))))))) (orT (notT (tst (isi "str" (bin ixD (var 0) (con (.int 0)))))) (notT (tst (callP m_is_from (consF (bin ixD (var 0) (con (.int 2))) (consF (con (.int 0)) (consF (con (.int 99)) (nilP))))))))) (ret (con (.bool false))) (pas))
  (seq (ifS (tst (bin inR (bin ixD (var 0) (con (.int 0))) (con c_BY_BOX))) (ret (callP m_is_from (consF (bin ixD (var 0) (con (.int 1))) (consF (con (.int 0)) (consF (bin subD (var 1) (con (.int 1))) (nilP)))))) (pas))
  (seq (ifS (tst (bin inR (bin ixD (var 0) (con (.int 0))) (con c_BY_ROW))) (ret (callP m_is_from (consF (bin ixD (var 0) (con (.int 1))) (consF (con (.int 0)) (consF (bin subD (var 3) (con (.int 1))) (nilP)))))) (pas))
  (seq (ifS (tst (bin eqR (bin ixD (var 0) (con (.int 0))) (con (.str "switch")))) (ret (callP m_is_from (consF (bin ixD (var 0) (con (.int 1))) (consF (con (.int 0)) (consF (bin subD (var 2) (con (.int 1))) (nilP)))))) (pas))
  (ret (andV (bin inR (bin ixD (var 0) (con (.int 0))) (con c_ENDING)) (callP m_is_from (consF (bin ixD (var 0) (con (.int 1))) (consF (con (.int 0)) (consF (con (.int 0)) (nilP))))))))))
def m_is_row : Mm := runM 4 4 b_is_row
def b_is_table_1 : En → Option Out :=
  seq (ifS (orT (notT (tst (callP m_is_tuple_of (consF (var 4) (consF (con (.int 2)) (consF (con (.int 2)) (nilP))))))) (notT (tst (callP m_is_from (consF (bin ixD (var 4) (con (.int 0))) (consF (bin addD (var 3) (con (.int 1))) (consF (con (.int 10099)) (nilP)))))))) (ret (con (.bool false))) (pas))
  (seq (ifS (notT (tst (callP m_is_from (consF (bin ixD (var 4) (con (.int 1))) (consF (con (.int 0)) (consF (bin subD (var 2) (con (.int 1))) (nilP))))))) (ret (con (.bool false))) (pas))
  (asg 3 (bin ixD (var 4) (con (.int 0)))))
/-- is_table: thing, boxes, rows, ahead, pair -/
def b_is_table : En → Option Out :=
  seq (ifS (orT (notT (tst (callP m_is_tuple_of (consF (var 0) (consF (con (.int 2)) (consF (con (.int 2)) (nilP))))))) (orT (notT (tst (callP m_is_from (consF (bin ixD (var 0) (con (.int 0))) (consF (con (.int 0)) (consF (bin subD (var 1) (con (.int 1))) (nilP))))))) (notT (tst (isi "tuple" (bin ixD (var 0) (con (.int 1)))))))) (ret (con (.bool false))) (pas))
  (seq (asg 3 (una negD (con (.int 1))))
  (seq (forS (iterE (bin ixD (var 0) (con (.int 1)))) (gN 4) (b_is_table_1))
  (ret (con (.bool true)))))
def m_is_table : Mm := runM 3 5 b_is_table
/-- are_doors: thing, boxes, rows, door -/
def b_are_doors : En → Option Out :=
  seq (ifS (notT (tst (callP m_is_tuple_of (consF (var 0) (consF (var 1) (consF (var 1) (nilP))))))) (ret (con (.bool false))) (pas))
  (ret (blt allD (consP (lcE [3] (iterE (var 0)) (gN 3) (yesT) (orV (bin isR (var 3) (con .none)) (callP m_is_from (consF (var 3) (consF (con (.int 0)) (consF (bin subD (var 2) (con (.int 1))) (nilP))))))) (nilP))))
def m_are_doors : Mm := runM 3 4 b_are_doors
/-- law_names: leading, found, name -/
def b_law_names : En → Option Out :=
  seq (asg 0 (lstE (consA (con (.str "go")) (consA (con (.str "nought")) (consA (con (.str "great")) (nilA))))))
  (seq (asg 1 (bin addD (callP m_law_doing nilP) (lcE [2] (iterE (bin addD (callP m_law_doing nilP) (var 0))) (gN 2) (yesT) (bin addD (var 2) (con (.str "by"))))))
  (ret (bin addD (bin addD (bin addD (var 1) (var 0)) (lstE (consA (con (.str "switch")) (nilA)))) (callP m_law_ending nilP))))
def m_law_names : Mm := runM 0 3 b_law_names
/-- law_word: pool, many, way -/
def b_law_word__2 : En → Option Out :=
  seq (asg 2 (callIO [true, false] m_law_next (consP (var 0) (consF (con (.int 5)) (nilP)))))
  (seq (ifS (tst (bin eqR (var 2) (con (.int 0)))) (ret (callIO [true, false] m_law_next (consP (var 0) (consF (var 1) (nilP))))) (pas))
  (seq (ifS (tst (bin eqR (var 2) (con (.int 1)))) (ret (bin addD (bin mulD (con (.int 100)) (callIO [true, false] m_law_next (consP (var 0) (consF (con (.int 12)) (nilP))))) (callIO [true, false] m_law_next (consP (var 0) (consF (var 1) (nilP)))))) (pas))
  (seq (ifS (tst (bin eqR (var 2) (con (.int 2)))) (ret (callIO [true, false] m_law_next (consP (var 0) (consF (con (.int 10000)) (nilP))))) (pas))
  (seq (ifS (tst (bin eqR (var 2) (con (.int 3)))) (ret (bin addD (bin mulD (con (.int 100)) (callIO [true, false] m_law_next (consP (var 0) (consF (con (.int 100)) (nilP))))) (bin modD (bin ixD (lstE (consA (var 1) (consA (bin subD (var 1) (con (.int 1))) (consA (con (.int 99)) (nilA))))) (callIO [true, false] m_law_next (consP (var 0) (consF (con (.int 3)) (nilP))))) (con (.int 100))))) (pas))
  (ret (bin ixD (lstE (consA (con (.int 0)) (consA (con (.int 9999)) (consA (con (.int 5000)) (consA (con (.int 4999)) (consA (con (.int 99)) (consA (con (.int 100)) (nilA)))))))) (callIO [true, false] m_law_next (consP (var 0) (consF (con (.int 6)) (nilP))))))))))
def m_law_word__2 : Mm := runM 2 3 b_law_word__2
/-- law_row: pool, name, boxes, rows, tables, operand -/
def b_law_row : En → Option Out :=
  seq (asg 5 (con (.int 0)))
  (seq (ifS (tst (bin inR (var 1) (lstE (consA (con (.str "go")) (consA (con (.str "nought")) (consA (con (.str "great")) (nilA))))))) (asg 5 (callIO [true, false] m_law_next (consP (var 0) (consF (var 3) (nilP))))) (ifS (tst (bin eqR (var 1) (con (.str "switch")))) (asg 5 (callIO [true, false] m_law_next (consP (var 0) (consF (blt maxD (consP (con (.int 1)) (consP (var 4) (nilP)))) (nilP))))) (ifS (tst (bin ninR (var 1) (callP m_law_ending nilP))) (asg 5 (callIO [true, false] m_law_next (consP (var 0) (consF (var 2) (nilP))))) (pas))))
  (ret (tupE (consA (var 1) (consA (var 5) (consA (callIO [true, false] m_law_next (consP (var 0) (consF (con (.int 100)) (nilP)))) (nilA)))))))
def m_law_row : Mm := runM 5 6 b_law_row
def b_law_table_1 : En → Option Out :=
  seq (asg 6 (bin ixD (var 1) (callIO [true, false] m_law_next (consP (var 0) (consF (blt lenD (consP (var 1) (nilP))) (nilP))))))
  (seq (asg 7 (lstE (consA (bin ixD (var 1) (var 3)) (consA (bin addD (con (.int 10000)) (bin divD (bin ixD (var 1) (var 3)) (con (.int 100)))) (consA (var 6) (consA (bin addD (con (.int 10000)) (bin divD (var 6) (con (.int 100)))) (nilA)))))))
  (seq (drp (mutM "list" extD (var 7) (consA (lstE (consA (callIO [true, false] m_law_next (consP (var 0) (consF (con (.int 10100)) (nilP)))) (consA (con (.int 0)) (consA (con (.int 9999)) (consA (con (.int 10099)) (nilA)))))) (nilA))))
  (drp (mutM "list" appD (var 4) (consA (bin ixD (var 7) (callIO [true, false] m_law_next (consP (var 0) (consF (con (.int 8)) (nilP))))) (nilA))))))
/-- law_table: pool, words, rows, box, items, turn, word, some, pairs, item -/
def b_law_table : En → Option Out :=
  seq (asg 3 (callIO [true, false] m_law_next (consP (var 0) (consF (blt lenD (consP (var 1) (nilP))) (nilP)))))
  (seq (asg 4 (lstE (nilA)))
  (seq (forS (rngE (consA (callIO [true, false] m_law_next (consP (var 0) (consF (con (.int 7)) (nilP)))) (nilA))) (gN 5) (b_law_table_1))
  (seq (asg 8 (lcE [9] (iterE (blt sortSetD (consP (var 4) (nilP)))) (gN 9) (yesT) (tupE (consA (var 9) (consA (callIO [true, false] m_law_next (consP (var 0) (consF (var 2) (nilP)))) (nilA))))))
  (ret (tupE (consA (var 3) (consA (blt tupleD (consP (var 8) (nilP))) (nilA))))))))
def m_law_table : Mm := runM 3 10 b_law_table
def b_law_table_good_1 : En → Option Out :=
  seq (ifS (orT (notT (tst (isi "tuple" (var 3)))) (tst (bin neR (blt lenD (consP (var 3) (nilP))) (con (.int 2))))) (ret (con (.bool false))) (pas))
  (ifS (orT (notT (tst (callP m_law_within (consF (bin ixD (var 3) (con (.int 0))) (consF (con (.int 0)) (consF (con (.int 10099)) (nilP))))))) (notT (tst (callP m_law_within (consF (bin ixD (var 3) (con (.int 1))) (consF (con (.int 0)) (consF (bin subD (var 2) (con (.int 1))) (nilP)))))))) (ret (con (.bool false))) (pas))
/-- law_table_good: table, boxes, rows, pair, items, one, other -/
def b_law_table_good : En → Option Out :=
  seq (ifS (orT (notT (tst (isi "tuple" (var 0)))) (orT (tst (bin neR (blt lenD (consP (var 0) (nilP))) (con (.int 2)))) (notT (tst (callP m_law_within (consF (bin ixD (var 0) (con (.int 0))) (consF (con (.int 0)) (consF (bin subD (var 1) (con (.int 1))) (nilP))))))))) (ret (con (.bool false))) (pas))
  (seq (ifS (notT (tst (isi "tuple" (bin ixD (var 0) (con (.int 1)))))) (ret (con (.bool false))) (pas))
  (seq (forS (iterE (bin ixD (var 0) (con (.int 1)))) (gN 3) (b_law_table_good_1))
  (seq (asg 4 (lcE [3] (iterE (bin ixD (var 0) (con (.int 1)))) (gN 3) (yesT) (bin ixD (var 3) (con (.int 0)))))
  (ret (blt allD (consP (lcE [5, 6] (zipE2 (consA (var 4) (consA (slc slD (var 4) (someP (con (.int 1))) (noP)) (nilA)))) (gT (gs1 (gN 5) (gs1 (gN 6) (gs0)))) (yesT) (bin ltD (var 5) (var 6))) (nilP)))))))
def m_law_table_good : Mm := runM 3 7 b_law_table_good
/-- law_other: pool, most, some -/
def b_law_other : En → Option Out :=
  seq (asg 2 (lstE (consA (bin addD (var 1) (con (.int 1))) (consA (una negD (con (.int 1))) (consA (var 1) (consA (con (.int 0)) (consA (con .none) (consA (con (.bool true)) (consA (con (.bool false)) (consA (con (.str "0")) (consA (tupE (consA (con (.int 0)) (nilA))) (consA (lstE (consA (con (.int 0)) (nilA))) (consA (bin powD (con (.int 10)) (con (.int 20))) (consA (una negD (bin powD (con (.int 10)) (con (.int 20)))) (consA (con (.str "load")) (consA (dctE (nilA)) (nilA)))))))))))))))))
  (ret (bin ixD (var 2) (callIO [true, false] m_law_next (consP (var 0) (consF (con (.int 14)) (nilP))))))
def m_law_other : Mm := runM 2 3 b_law_other
/-- is_still: thing, rows, tables, doors, boxes, row, one -/
def b_is_still : En → Option Out :=
  seq (ifS (notT (tst (callP m_is_tuple_of (consF (var 0) (consF (con (.int 4)) (consF (con (.int 4)) (nilP))))))) (ret (con (.bool false))) (pas))
  (seq (asgT (gT (gs1 (gN 1) (gs1 (gN 2) (gs1 (gN 3) (gs1 (gN 4) (gs0)))))) (var 0))
  (seq (ifS (orT (notT (tst (callP m_is_tuple_of (consF (var 1) (consF (con (.int 1)) (consF (con (.int 2000)) (nilP))))))) (orT (notT (tst (callP m_is_tuple_of (consF (var 2) (consF (con (.int 0)) (consF (con (.int 99)) (nilP))))))) (notT (tst (callP m_are_boxes (consF (var 4) (nilP))))))) (ret (con (.bool false))) (pas))
  (seq (ifS (orT (notT (tst (blt allD (consP (lcE [5] (iterE (var 1)) (gN 5) (yesT) (callP m_is_row (consF (var 5) (consF (blt lenD (consP (var 4) (nilP))) (consF (blt lenD (consP (var 2) (nilP))) (consF (blt lenD (consP (var 1) (nilP))) (nilP))))))) (nilP))))) (tst (bin ninR (bin ixD (bin ixD (var 1) (una negD (con (.int 1)))) (con (.int 0))) (con c_LAST)))) (ret (con (.bool false))) (pas))
  (ret (andV (callP m_are_doors (consF (var 3) (consF (blt lenD (consP (var 4) (nilP))) (consF (blt lenD (consP (var 1) (nilP))) (nilP))))) (blt allD (consP (lcE [6] (iterE (var 2)) (gN 6) (yesT) (callP m_is_table (consF (var 6) (consF (blt lenD (consP (var 4) (nilP))) (consF (blt lenD (consP (var 1) (nilP))) (nilP)))))) (nilP))))))))
def m_is_still : Mm := runM 1 7 b_is_still
/-- law_words: pool, many, k -/
def b_law_words : En → Option Out :=
  ret (blt tupleD (consP (lcE [2] (rngE (consA (var 1) (nilA))) (gN 2) (yesT) (callIO [true, false] m_law_word__2 (consP (var 0) (consF (var 1) (nilP))))) (nilP)))
def m_law_words : Mm := runM 2 3 b_law_words
/-- law_row_good: row, boxes, tables, rows, most -/
def b_law_row_good : En → Option Out :=
  seq (ifS (orT (notT (tst (isi "tuple" (var 0)))) (orT (tst (bin neR (blt lenD (consP (var 0) (nilP))) (con (.int 3)))) (notT (tst (isi "str" (bin ixD (var 0) (con (.int 0)))))))) (ret (con (.bool false))) (pas))
  (seq (ifS (orT (tst (bin ninR (bin ixD (var 0) (con (.int 0))) (callP m_law_names nilP))) (notT (tst (callP m_law_within (consF (bin ixD (var 0) (con (.int 2))) (consF (con (.int 0)) (consF (con (.int 99)) (nilP)))))))) (ret (con (.bool false))) (pas))
  (seq (asg 4 (bin subD (var 1) (con (.int 1))))
  (seq (ifS (tst (bin inR (bin ixD (var 0) (con (.int 0))) (lstE (consA (con (.str "go")) (consA (con (.str "nought")) (consA (con (.str "great")) (nilA))))))) (asg 4 (bin subD (var 3) (con (.int 1)))) (pas))
  (seq (ifS (tst (bin eqR (bin ixD (var 0) (con (.int 0))) (con (.str "switch")))) (asg 4 (bin subD (var 2) (con (.int 1)))) (pas))
  (seq (ifS (tst (bin inR (bin ixD (var 0) (con (.int 0))) (callP m_law_ending nilP))) (asg 4 (con (.int 0))) (pas))
  (ret (callP m_law_within (consF (bin ixD (var 0) (con (.int 1))) (consF (con (.int 0)) (consF (var 4) (nilP)))))))))))
def m_law_row_good : Mm := runM 4 5 b_law_row_good
/-- law_other_row: pool, rows, at, boxes, tables, row, way, names, most, some -/
def b_law_other_row : En → Option Out :=
  seq (asg 5 (bin ixD (var 1) (var 2)))
  (seq (asg 6 (callIO [true, false] m_law_next (consP (var 0) (consF (con (.int 7)) (nilP)))))
  (seq (ifS (tst (bin eqR (var 6) (con (.int 0)))) (seq (asg 7 (bin addD (callP m_law_names nilP) (lstE (consA (con (.str "")) (consA (con (.str "Load")) (consA (con (.str "loadbyby")) (consA (con (.str "switchby")) (consA (con (.str "stopby")) (consA (con (.str "jump")) (consA (con .none) (consA (con (.int 0)) (consA (tupE (consA (con (.str "load")) (nilA))) (nilA)))))))))))))
  (seq (drp (mutM "list" extD (var 7) (consA (lstE (consA (lstE (nilA)) (consA (lstE (consA (con (.str "load")) (nilA))) (consA (dctE (nilA)) (consA (tupE (consA (lstE (consA (con (.str "load")) (nilA))) (nilA))) (consA (con (.bool true)) (consA (dctE (consA (con (.str "load")) (consA (con (.int 0)) (nilA)))) (nilA)))))))) (nilA))))
  (ret (callP m_law_put (consF (var 1) (consF (var 2) (consF (bin addD (tupE (consA (bin ixD (var 7) (callIO [true, false] m_law_next (consP (var 0) (consF (blt lenD (consP (var 7) (nilP))) (nilP))))) (nilA))) (slc slD (var 5) (someP (con (.int 1))) (noP))) (nilP)))))))) (pas))
  (seq (ifS (tst (bin eqR (var 6) (con (.int 1)))) (seq (asg 8 (bin ixD (lstE (consA (bin subD (var 3) (con (.int 1))) (consA (bin subD (blt lenD (consP (var 1) (nilP))) (con (.int 1))) (consA (bin subD (var 4) (con (.int 1))) (consA (con (.int 0)) (nilA)))))) (callIO [true, false] m_law_next (consP (var 0) (consF (con (.int 4)) (nilP))))))
  (ret (callP m_law_put (consF (var 1) (consF (var 2) (consF (tupE (consA (bin ixD (var 5) (con (.int 0))) (consA (callIO [true, false] m_law_other (consP (var 0) (consF (var 8) (nilP)))) (consA (bin ixD (var 5) (con (.int 2))) (nilA))))) (nilP))))))) (pas))
  (seq (ifS (tst (bin eqR (var 6) (con (.int 2)))) (ret (callP m_law_put (consF (var 1) (consF (var 2) (consF (bin addD (slc slD (var 5) (noP) (someP (con (.int 2)))) (tupE (consA (callIO [true, false] m_law_other (consP (var 0) (consF (con (.int 99)) (nilP)))) (nilA)))) (nilP)))))) (pas))
  (seq (ifS (tst (bin eqR (var 6) (con (.int 3)))) (seq (asg 9 (lstE (consA (slc slD (var 5) (noP) (someP (con (.int 2)))) (consA (bin addD (var 5) (tupE (consA (con (.int 0)) (nilA)))) (consA (blt listD (consP (var 5) (nilP))) (consA (con .none) (consA (tupE (nilA)) (consA (bin ixD (var 5) (con (.int 0))) (nilA)))))))))
  (ret (callP m_law_put (consF (var 1) (consF (var 2) (consF (bin ixD (var 9) (callIO [true, false] m_law_next (consP (var 0) (consF (con (.int 6)) (nilP))))) (nilP))))))) (pas))
  (seq (ifS (tst (bin eqR (var 6) (con (.int 4)))) (ret (bin addD (slc slD (var 1) (noP) (someP (var 2))) (slc slD (var 1) (someP (bin addD (var 2) (con (.int 1)))) (noP)))) (pas))
  (seq (ifS (tst (bin eqR (var 6) (con (.int 5)))) (ret (bin addD (slc slD (var 1) (noP) (someP (una negD (con (.int 1))))) (tupE (consA (tupE (consA (bin ixD (callP m_law_names nilP) (callIO [true, false] m_law_next (consP (var 0) (consF (con (.int 26)) (nilP))))) (consA (con (.int 0)) (consA (con (.int 0)) (nilA))))) (nilA))))) (pas))
  (ret (bin addD (var 1) (slc slD (var 1) (someP (var 2)) (someP (bin addD (var 2) (con (.int 1))))))))))))))
def m_law_other_row : Mm := runM 5 10 b_law_other_row
/-- law_other_table: pool, tables, at, rows, boxes, box, pairs, way, some, more, spot, twice, item, row, pair -/
def b_law_other_table : En → Option Out :=
  seq (ifS (tst (bin eqR (var 1) (tupE (nilA)))) (ret (tupE (consA (tupE (consA (callIO [true, false] m_law_other (consP (var 0) (consF (bin subD (var 4) (con (.int 1))) (nilP)))) (consA (tupE (nilA)) (nilA)))) (nilA)))) (pas))
  (seq (asgT (gT (gs1 (gN 5) (gs1 (gN 6) (gs0)))) (bin ixD (var 1) (bin modD (var 2) (blt lenD (consP (var 1) (nilP))))))
  (seq (asg 2 (bin modD (var 2) (blt lenD (consP (var 1) (nilP)))))
  (seq (asg 7 (callIO [true, false] m_law_next (consP (var 0) (consF (con (.int 6)) (nilP)))))
  (seq (ifS (tst (bin eqR (var 7) (con (.int 0)))) (ret (callP m_law_put (consF (var 1) (consF (var 2) (consF (tupE (consA (callIO [true, false] m_law_other (consP (var 0) (consF (bin subD (var 4) (con (.int 1))) (nilP)))) (consA (var 6) (nilA)))) (nilP)))))) (pas))
  (seq (ifS (tst (bin eqR (var 7) (con (.int 1)))) (seq (asg 8 (lstE (consA (tupE (consA (var 5) (nilA))) (consA (tupE (consA (var 5) (consA (blt listD (consP (var 6) (nilP))) (nilA)))) (consA (lstE (consA (var 5) (consA (var 6) (nilA)))) (consA (tupE (consA (var 5) (consA (var 6) (consA (con (.int 0)) (nilA))))) (consA (con .none) (nilA))))))))
  (ret (callP m_law_put (consF (var 1) (consF (var 2) (consF (bin ixD (var 8) (callIO [true, false] m_law_next (consP (var 0) (consF (con (.int 5)) (nilP))))) (nilP))))))) (pas))
  (seq (ifS (orT (tst (bin eqR (var 7) (con (.int 2)))) (tst (bin eqR (var 6) (tupE (nilA))))) (seq (asg 9 (lstE (consA (tupE (consA (callIO [true, false] m_law_other (consP (var 0) (consF (con (.int 10099)) (nilP)))) (consA (con (.int 0)) (nilA)))) (consA (tupE (consA (con (.int 10100)) (consA (con (.int 0)) (nilA)))) (consA (tupE (consA (con (.int 0)) (nilA))) (consA (lstE (consA (con (.int 0)) (consA (con (.int 0)) (nilA)))) (nilA)))))))
  (seq (drp (mutM "list" appD (var 9) (consA (tupE (consA (con (.int 10099)) (consA (callIO [true, false] m_law_other (consP (var 0) (consF (bin subD (var 3) (con (.int 1))) (nilP)))) (nilA)))) (nilA))))
  (ret (callP m_law_put (consF (var 1) (consF (var 2) (consF (tupE (consA (var 5) (consA (bin addD (var 6) (tupE (consA (bin ixD (var 9) (callIO [true, false] m_law_next (consP (var 0) (consF (con (.int 5)) (nilP))))) (nilA)))) (nilA)))) (nilP)))))))) (pas))
  (seq (asg 10 (callIO [true, false] m_law_next (consP (var 0) (consF (blt lenD (consP (var 6) (nilP))) (nilP)))))
  (seq (ifS (tst (bin eqR (var 7) (con (.int 3)))) (seq (asg 11 (bin addD (bin addD (slc slD (var 6) (noP) (someP (var 10))) (slc slD (var 6) (someP (var 10)) (someP (bin addD (var 10) (con (.int 1)))))) (slc slD (var 6) (someP (var 10)) (noP))))
  (ret (callP m_law_put (consF (var 1) (consF (var 2) (consF (tupE (consA (var 5) (consA (var 11) (nilA)))) (nilP))))))) (pas))
  (seq (ifS (tst (bin eqR (var 7) (con (.int 4)))) (ret (callP m_law_put (consF (var 1) (consF (var 2) (consF (tupE (consA (var 5) (consA (bin addD (slc slD (var 6) (someP (var 10)) (noP)) (slc slD (var 6) (noP) (someP (var 10)))) (nilA)))) (nilP)))))) (pas))
  (seq (asgT (gT (gs1 (gN 12) (gs1 (gN 13) (gs0)))) (bin ixD (var 6) (var 10)))
  (seq (asg 8 (lstE (consA (tupE (consA (callIO [true, false] m_law_other (consP (var 0) (consF (con (.int 10099)) (nilP)))) (consA (var 13) (nilA)))) (nilA))))
  (seq (drp (mutM "list" appD (var 8) (consA (tupE (consA (var 12) (consA (callIO [true, false] m_law_other (consP (var 0) (consF (bin subD (var 3) (con (.int 1))) (nilP)))) (nilA)))) (nilA))))
  (seq (asg 14 (bin ixD (var 8) (callIO [true, false] m_law_next (consP (var 0) (consF (con (.int 2)) (nilP))))))
  (ret (callP m_law_put (consF (var 1) (consF (var 2) (consF (tupE (consA (var 5) (consA (callP m_law_put (consF (var 6) (consF (var 10) (consF (var 14) (nilP))))) (nilA)))) (nilP)))))))))))))))))))
def m_law_other_table : Mm := runM 5 15 b_law_other_table
def b_law_program_1 : En → Option Out :=
  seq (asg 8 (bin ixD (var 1) (callIO [true, false] m_law_next (consP (var 0) (consF (blt lenD (consP (var 1) (nilP))) (nilP))))))
  (seq (ifS (andT (tst (bin eqR (var 8) (con (.str "switch")))) (tst (bin eqR (var 4) (con (.int 0))))) (asg 8 (con (.str "go"))) (pas))
  (drp (mutM "list" appD (var 6) (consA (callIO [true, false, false, false, false] m_law_row (consP (var 0) (consF (var 8) (consF (var 2) (consF (var 3) (consF (var 4) (nilP))))))) (nilA)))))
def b_law_program_2 : En → Option Out :=
  drp (mutM "list" appD (var 10) (consA (bin ixD (lstE (consA (con .none) (consA (callIO [true, false] m_law_next (consP (var 0) (consF (var 3) (nilP)))) (consA (callIO [true, false] m_law_next (consP (var 0) (consF (var 3) (nilP)))) (nilA))))) (callIO [true, false] m_law_next (consP (var 0) (consF (con (.int 3)) (nilP))))) (nilA)))
/-- law_program: pool, names, many, count, tables, words, rows, k, name, last, doors, made -/
def b_law_program : En → Option Out :=
  seq (asg 2 (bin ixD (lstE (consA (con (.int 3)) (consA (con (.int 5)) (consA (con (.int 2)) (consA (con (.int 8)) (consA (con (.int 1)) (consA (con (.int 12)) (consA (con (.int 4)) (consA (con (.int 99)) (nilA)))))))))) (callIO [true, false] m_law_next (consP (var 0) (consF (con (.int 8)) (nilP))))))
  (seq (asg 3 (bin ixD (lstE (consA (con (.int 4)) (consA (con (.int 7)) (consA (con (.int 12)) (consA (con (.int 1)) (consA (con (.int 20)) (consA (con (.int 9)) (consA (con (.int 30)) (consA (con (.int 3)) (nilA)))))))))) (callIO [true, false] m_law_next (consP (var 0) (consF (con (.int 8)) (nilP))))))
  (seq (asg 4 (callIO [true, false] m_law_next (consP (var 0) (consF (con (.int 4)) (nilP)))))
  (seq (asg 5 (callIO [true, false] m_law_words (consP (var 0) (consF (var 2) (nilP)))))
  (seq (asg 6 (lstE (nilA)))
  (seq (forS (rngE (consA (bin subD (var 3) (con (.int 1))) (nilA))) (gN 7) (b_law_program_1))
  (seq (asg 9 (bin addD (callP m_law_ending nilP) (slc slD (lstE (consA (con (.str "go")) (consA (con (.str "goby")) (consA (con (.str "switch")) (nilA))))) (noP) (someP (bin addD (con (.int 2)) (blt intD (consP (bin gtD (var 4) (con (.int 0))) (nilP))))))))
  (seq (asg 8 (bin ixD (var 9) (callIO [true, false] m_law_next (consP (var 0) (consF (blt lenD (consP (var 9) (nilP))) (nilP))))))
  (seq (drp (mutM "list" appD (var 6) (consA (callIO [true, false, false, false, false] m_law_row (consP (var 0) (consF (var 8) (consF (var 2) (consF (var 3) (consF (var 4) (nilP))))))) (nilA))))
  (seq (asg 10 (lstE (nilA)))
  (seq (forS (rngE (consA (var 2) (nilA))) (gN 7) (b_law_program_2))
  (seq (asg 11 (blt tupleD (consP (lcE [7] (rngE (consA (var 4) (nilA))) (gN 7) (yesT) (callIO [true, false, false] m_law_table (consP (var 0) (consF (var 5) (consF (var 3) (nilP)))))) (nilP))))
  (ret (tupE (consA (blt tupleD (consP (var 6) (nilP))) (consA (var 11) (consA (blt tupleD (consP (var 10) (nilP))) (consA (var 5) (nilA))))))))))))))))))
def m_law_program : Mm := runM 2 12 b_law_program
/-- law_due: thing, rows, tables, doors, boxes, part, word, row, door, table -/
def b_law_due__2 : En → Option Out :=
  seq (ifS (orT (notT (tst (isi "tuple" (var 0)))) (tst (bin neR (blt lenD (consP (var 0) (nilP))) (con (.int 4))))) (ret (con (.bool false))) (pas))
  (seq (ifS (notT (tst (blt allD (consP (lcE [5] (iterE (var 0)) (gN 5) (yesT) (isi "tuple" (var 5))) (nilP))))) (ret (con (.bool false))) (pas))
  (seq (asgT (gT (gs1 (gN 1) (gs1 (gN 2) (gs1 (gN 3) (gs1 (gN 4) (gs0)))))) (var 0))
  (seq (ifS (orT (notT (tst (chn ltD ltD (con (.int 0)) (blt lenD (consP (var 4) (nilP))) (con (.int 100))))) (notT (tst (chn ltD ltD (con (.int 0)) (blt lenD (consP (var 1) (nilP))) (con (.int 2001)))))) (ret (con (.bool false))) (pas))
  (seq (ifS (orT (tst (bin gtD (blt lenD (consP (var 2) (nilP))) (con (.int 99)))) (tst (bin neR (blt lenD (consP (var 3) (nilP))) (blt lenD (consP (var 4) (nilP)))))) (ret (con (.bool false))) (pas))
  (seq (ifS (notT (tst (blt allD (consP (lcE [6] (iterE (var 4)) (gN 6) (yesT) (callP m_law_within (consF (var 6) (consF (con (.int 0)) (consF (con (.int 9999)) (nilP)))))) (nilP))))) (ret (con (.bool false))) (pas))
  (seq (ifS (notT (tst (blt allD (consP (lcE [7] (iterE (var 1)) (gN 7) (yesT) (callP m_law_row_good (consF (var 7) (consF (blt lenD (consP (var 4) (nilP))) (consF (blt lenD (consP (var 2) (nilP))) (consF (blt lenD (consP (var 1) (nilP))) (nilP))))))) (nilP))))) (ret (con (.bool false))) (pas))
  (seq (ifS (tst (bin ninR (bin ixD (bin ixD (var 1) (una negD (con (.int 1)))) (con (.int 0))) (bin addD (callP m_law_ending nilP) (lstE (consA (con (.str "go")) (consA (con (.str "goby")) (consA (con (.str "switch")) (nilA)))))))) (ret (con (.bool false))) (pas))
  (seq (ifS (notT (tst (blt allD (consP (lcE [8] (iterE (var 3)) (gN 8) (yesT) (orV (bin isR (var 8) (con .none)) (callP m_law_within (consF (var 8) (consF (con (.int 0)) (consF (bin subD (blt lenD (consP (var 1) (nilP))) (con (.int 1))) (nilP))))))) (nilP))))) (ret (con (.bool false))) (pas))
  (ret (blt allD (consP (lcE [9] (iterE (var 2)) (gN 9) (yesT) (callP m_law_table_good (consF (var 9) (consF (blt lenD (consP (var 4) (nilP))) (consF (blt lenD (consP (var 1) (nilP))) (nilP)))))) (nilP))))))))))))
def m_law_due__2 : Mm := runM 1 10 b_law_due__2
/-- law_spoilt: pool, kind, program, spot, rows, tables, doors, boxes, made, at, door, some -/
def b_law_spoilt : En → Option Out :=
  seq (asgT (gT (gs1 (gN 4) (gs1 (gN 5) (gs1 (gN 6) (gs1 (gN 7) (gs0)))))) (var 2))
  (seq (ifS (tst (bin ltD (var 1) (con (.int 3)))) (seq (asg 8 (callIO [true, false, false, false, false] m_law_other_row (consP (var 0) (consF (var 4) (consF (bin modD (var 3) (blt lenD (consP (var 4) (nilP)))) (consF (blt lenD (consP (var 7) (nilP))) (consF (blt lenD (consP (var 5) (nilP))) (nilP))))))))
  (ret (tupE (consA (var 8) (consA (var 5) (consA (var 6) (consA (var 7) (nilA)))))))) (pas))
  (seq (ifS (tst (bin ltD (var 1) (con (.int 6)))) (seq (asg 8 (callIO [true, false, false, false, false] m_law_other_table (consP (var 0) (consF (var 5) (consF (var 3) (consF (blt lenD (consP (var 4) (nilP))) (consF (blt lenD (consP (var 7) (nilP))) (nilP))))))))
  (ret (tupE (consA (var 4) (consA (var 8) (consA (var 6) (consA (var 7) (nilA)))))))) (pas))
  (seq (asg 9 (bin modD (var 3) (blt lenD (consP (var 7) (nilP)))))
  (seq (ifS (tst (bin eqR (var 1) (con (.int 6)))) (seq (asg 10 (callIO [true, false] m_law_other (consP (var 0) (consF (bin subD (blt lenD (consP (var 4) (nilP))) (con (.int 1))) (nilP)))))
  (ret (tupE (consA (var 4) (consA (var 5) (consA (callP m_law_put (consF (var 6) (consF (var 9) (consF (var 10) (nilP))))) (consA (var 7) (nilA)))))))) (pas))
  (seq (ifS (tst (bin eqR (var 1) (con (.int 7)))) (ret (tupE (consA (var 4) (consA (var 5) (consA (var 6) (consA (callP m_law_put (consF (var 7) (consF (var 9) (consF (callIO [true, false] m_law_other (consP (var 0) (consF (con (.int 9999)) (nilP)))) (nilP))))) (nilA))))))) (pas))
  (seq (ifS (tst (bin eqR (var 1) (con (.int 8)))) (seq (asg 11 (lstE (consA (tupE (consA (var 4) (consA (var 5) (consA (slc slD (var 6) (someP (con (.int 1))) (noP)) (consA (var 7) (nilA)))))) (consA (tupE (consA (var 4) (consA (var 5) (consA (var 6) (nilA))))) (nilA)))))
  (seq (drp (mutM "list" extD (var 11) (consA (lstE (consA (tupE (consA (var 4) (consA (var 5) (consA (var 6) (consA (slc slD (var 7) (noP) (someP (una negD (con (.int 1))))) (nilA)))))) (consA (tupE (nilA)) (consA (blt listD (consP (var 2) (nilP))) (nilA))))) (nilA))))
  (seq (drp (mutM "list" extD (var 11) (consA (lstE (consA (bin addD (var 2) (tupE (consA (tupE (nilA)) (nilA)))) (consA (tupE (consA (blt listD (consP (var 4) (nilP))) (consA (var 5) (consA (var 6) (consA (var 7) (nilA)))))) (nilA)))) (nilA))))
  (seq (drp (mutM "list" extD (var 11) (consA (lstE (consA (tupE (consA (var 4) (consA (lstE (nilA)) (consA (var 6) (consA (var 7) (nilA)))))) (consA (tupE (consA (tupE (nilA)) (consA (var 5) (consA (var 6) (consA (var 7) (nilA)))))) (nilA)))) (nilA))))
  (seq (drp (mutM "list" appD (var 11) (consA (tupE (consA (var 4) (consA (var 5) (consA (blt listD (consP (var 6) (nilP))) (consA (var 7) (nilA)))))) (nilA))))
  (seq (drp (mutM "list" appD (var 11) (consA (tupE (consA (var 4) (consA (var 5) (consA (var 6) (consA (blt listD (consP (var 7) (nilP))) (nilA)))))) (nilA))))
  (ret (bin ixD (var 11) (callIO [true, false] m_law_next (consP (var 0) (consF (con (.int 11)) (nilP)))))))))))) (pas))
  (seq (asg 11 (lstE (consA (con .none) (consA (con (.bool true)) (consA (con (.int 7)) (consA (con (.str "still")) (consA (lstE (nilA)) (consA (dctE (nilA)) (consA (tupE (consA (tupE (nilA)) (consA (tupE (nilA)) (consA (tupE (nilA)) (consA (tupE (nilA)) (nilA)))))) (nilA))))))))))
  (ret (bin ixD (bin addD (var 11) (lstE (consA (tupE (consA (var 4) (consA (con .none) (consA (var 6) (consA (var 7) (nilA)))))) (nilA)))) (callIO [true, false] m_law_next (consP (var 0) (consF (con (.int 8)) (nilP)))))))))))))
def m_law_spoilt : Mm := runM 4 12 b_law_spoilt
def b_law_bounds_right_1 : En → Option Out :=
  ifS (tst (bin neR (callP m_is_still (consF (tupE (consA (bin mulD (var 0) (var 1)) (consA (tupE (nilA)) (consA (tupE (consA (con .none) (nilA))) (consA (tupE (consA (con (.int 0)) (nilA))) (nilA)))))) (nilP))) (bin eqR (var 1) (con (.int 2000))))) (ret (con (.bool false))) (pas)
def b_law_bounds_right_2 : En → Option Out :=
  seq (ifS (tst (bin neR (callP m_is_still (consF (tupE (consA (var 0) (consA (bin mulD (tupE (consA (tupE (consA (con (.int 0)) (consA (tupE (nilA)) (nilA)))) (nilA))) (var 1)) (consA (tupE (consA (con .none) (nilA))) (consA (tupE (consA (con (.int 0)) (nilA))) (nilA)))))) (nilP))) (bin eqR (var 1) (con (.int 99))))) (ret (con (.bool false))) (pas))
  (ifS (tst (bin neR (callP m_is_still (consF (tupE (consA (var 0) (consA (tupE (nilA)) (consA (bin mulD (tupE (consA (con (.int 0)) (nilA))) (var 1)) (consA (bin mulD (tupE (consA (con (.int 9999)) (nilA))) (var 1)) (nilA)))))) (nilP))) (bin eqR (var 1) (con (.int 99))))) (ret (con (.bool false))) (pas))
/-- law_bounds_right: rows, many -/
def b_law_bounds_right : En → Option Out :=
  seq (asg 0 (tupE (consA (tupE (consA (con (.str "stop")) (consA (con (.int 0)) (consA (con (.int 99)) (nilA))))) (nilA))))
  (seq (forS (iterE (lstE (consA (con (.int 2000)) (consA (con (.int 2001)) (nilA))))) (gN 1) (b_law_bounds_right_1))
  (seq (forS (iterE (lstE (consA (con (.int 99)) (consA (con (.int 100)) (nilA))))) (gN 1) (b_law_bounds_right_2))
  (ret (con (.bool true)))))
def m_law_bounds_right : Mm := runM 0 2 b_law_bounds_right
def b_main_k12_1 : En → Option Out :=
  seq (asg 8 (callIO [true, false, false, false] m_law_spoilt (consP (var 2) (consF (var 6) (consF (var 5) (consF (var 7) (nilP)))))))
  (seq (asg 9 (callP m_is_still (consF (var 8) (nilP))))
  (ifS (orT (notT (tst (isi "bool" (var 9)))) (tst (bin neR (var 9) (callP m_law_due__2 (consF (var 8) (nilP)))))) (ret (con (.bool false))) (pas)))
def b_main_k12_2 : En → Option Out :=
  seq (asg 2 (callP m_law_pool (consF (var 1) (nilP))))
  (seq (asg 3 (lcE [10] (rngE (consA (con (.int 8)) (nilA))) (gN 10) (yesT) (callIO [true, false] m_law_next (consP (var 2) (consF (con (.int 10)) (nilP))))))
  (seq (asg 4 (lcE [10] (rngE (consA (con (.int 8)) (nilA))) (gN 10) (yesT) (callIO [true, false] m_law_next (consP (var 2) (consF (con (.int 1000)) (nilP))))))
  (seq (asg 5 (callIO [true, false] m_law_program (consP (var 2) (consF (callP m_law_names nilP) (nilP)))))
  (seq (ifS (orT (tst (bin isntR (callP m_is_still (consF (var 5) (nilP))) (con (.bool true)))) (tst (bin isntR (callP m_law_due__2 (consF (var 5) (nilP))) (con (.bool true))))) (ret (con (.bool false))) (pas))
  (forS (zipE2 (consA (var 3) (consA (var 4) (nilA)))) (gT (gs1 (gN 6) (gs1 (gN 7) (gs0)))) (b_main_k12_1))))))
/-- law: script, cell, pool, kinds, spots, program, kind, spot, thing, found, turn -/
def b_main_k12 : En → Option Out :=
  seq (forS (iterE (bin addD (lstE (consA (con (.int 0)) (nilA))) (callP m_law_cells (consF (var 0) (consF (con (.int 10)) (nilP)))))) (gN 1) (b_main_k12_2))
  (ret (callP m_law_bounds_right nilP))
def m_main_k12 : Mm := runM 1 11 b_main_k12
/-- does_go: name, hand -/
def b_does_go : En → Option Out :=
  seq (ifS (tst (bin eqR (slc slD (var 0) (noP) (someP (con (.int 6)))) (con (.str "nought")))) (ret (bin eqR (var 1) (con (.int 0)))) (pas))
  (seq (ifS (tst (bin eqR (slc slD (var 0) (noP) (someP (con (.int 5)))) (con (.str "great")))) (ret (bin geD (var 1) (con (.int 5000)))) (pas))
  (ret (con (.bool true))))
def m_does_go : Mm := runM 2 2 b_does_go
/-- with_word: boxes, at, word -/
def b_with_word : En → Option Out :=
  ret (bin addD (bin addD (slc slD (var 0) (noP) (someP (var 1))) (tupE (consA (var 2) (nilA)))) (slc slD (var 0) (someP (bin addD (var 1) (con (.int 1)))) (noP)))
def m_with_word : Mm := runM 3 3 b_with_word
/-- law_goes: name, hand -/
def b_law_goes : En → Option Out :=
  seq (ifS (tst (bin eqR (slc slD (var 0) (noP) (someP (con (.int 2)))) (con (.str "go")))) (ret (con (.bool true))) (pas))
  (seq (ifS (tst (bin eqR (slc slD (var 0) (noP) (someP (con (.int 2)))) (con (.str "no")))) (ret (bin eqR (var 1) (con (.int 0)))) (pas))
  (ret (bin gtD (var 1) (con (.int 4999)))))
def m_law_goes : Mm := runM 2 2 b_law_goes
/-- law_done: stand, name, at, hearings, row, hand, boxes, heard, told, words -/
def b_law_done : En → Option Out :=
  seq (asgT (gT (gs1 (gN 4) (gs1 (gN 5) (gs1 (gN 6) (gs1 (gN 7) (gs1 (gN 8) (gs0))))))) (var 0))
  (seq (asg 9 (blt listD (consP (var 6) (nilP))))
  (seq (ifS (tst (bin eqR (var 1) (con (.str "load")))) (asg 5 (bin ixD (var 9) (var 2))) (pas))
  (seq (ifS (tst (bin eqR (var 1) (con (.str "add")))) (asg 5 (bin modD (bin addD (var 5) (bin ixD (var 9) (var 2))) (con (.int 10000)))) (pas))
  (seq (ifS (tst (bin eqR (var 1) (con (.str "less")))) (asg 5 (bin modD (bin subD (bin addD (var 5) (con (.int 10000))) (bin ixD (var 9) (var 2))) (con (.int 10000)))) (pas))
  (seq (ifS (tst (bin eqR (var 1) (con (.str "store")))) (setS setXD (var 5) (var 9) (var 2)) (pas))
  (seq (ifS (tst (bin eqR (var 1) (con (.str "patch")))) (setS setXD (bin addD (bin mulD (bin divD (bin ixD (var 9) (var 2)) (con (.int 100))) (con (.int 100))) (bin modD (var 5) (con (.int 100)))) (var 9) (var 2)) (pas))
  (seq (ifS (tst (bin eqR (var 1) (con (.str "say")))) (asg 8 (bin addD (var 8) (tupE (consA (bin ixD (var 9) (var 2)) (nilA))))) (pas))
  (seq (ifS (tst (bin eqR (var 1) (con (.str "hear")))) (seq (setS setXD (bin ixD (var 3) (var 7)) (var 9) (var 2))
  (asg 7 (bin addD (var 7) (con (.int 1))))) (pas))
  (ret (tupE (consA (bin addD (var 4) (con (.int 1))) (consA (var 5) (consA (blt tupleD (consP (var 9) (nilP))) (consA (var 7) (consA (var 8) (nilA))))))))))))))))
def m_law_done : Mm := runM 4 10 b_law_done
/-- box_meant: row, boxes -/
def b_box_meant : En → Option Out :=
  seq (ifS (tst (bin inR (bin ixD (var 0) (con (.int 0))) (con c_DOING_BY))) (ret (callP m_address_of (consF (bin ixD (var 1) (bin ixD (var 0) (con (.int 1)))) (nilP)))) (pas))
  (ret (bin ixD (var 0) (con (.int 1))))
def m_box_meant : Mm := runM 2 2 b_box_meant
def b_table_row_1 : En → Option Out :=
  ifS (tst (bin eqR (var 4) (var 3))) (ret (var 5)) (pas)
def b_table_row_2 : En → Option Out :=
  forS (iterE (bin ixD (var 0) (con (.int 1)))) (gT (gs1 (gN 4) (gs1 (gN 5) (gs0)))) (b_table_row_1)
/-- table_row: table, boxes, word, item, other, row -/
def b_table_row : En → Option Out :=
  seq (asg 2 (bin ixD (var 1) (bin ixD (var 0) (con (.int 0)))))
  (seq (forS (iterE (tupE (consA (var 2) (consA (bin addD (con (.int 10000)) (callP m_kind_of (consF (var 2) (nilP)))) (nilA))))) (gN 3) (b_table_row_2))
  (ret (con .none)))
def m_table_row : Mm := runM 2 6 b_table_row
/-- end_by_door: program, stand, name, operand, mark, door -/
def b_end_by_door : En → Option Out :=
  seq (asgT (gT (gs1 (gN 2) (gs1 (gN 3) (gs1 (gN 4) (gs0))))) (bin ixD (bin ixD (var 0) (con (.int 0))) (bin ixD (var 1) (con (.int 0)))))
  (seq (asg 5 (callP m_address_of (consF (bin ixD (bin ixD (var 1) (con (.int 2))) (var 3)) (nilP))))
  (seq (ifS (notT (tst (callP m_does_go (consF (var 2) (consF (bin ixD (var 1) (con (.int 1))) (nilP)))))) (ret (con .none)) (pas))
  (seq (ifS (tst (bin geD (var 5) (blt lenD (consP (bin ixD (var 0) (con (.int 2))) (nilP))))) (ret (tupE (consA (con (.str "off")) (consA (var 5) (nilA))))) (pas))
  (seq (ifS (tst (bin isR (bin ixD (bin ixD (var 0) (con (.int 2))) (var 5)) (con .none))) (ret (tupE (consA (con (.str "lost")) (consA (var 5) (nilA))))) (pas))
  (ret (con .none))))))
def m_end_by_door : Mm := runM 2 6 b_end_by_door
/-- law_led: program, stand, name, at, by, row, hand, boxes, heard, told, to -/
def b_law_led : En → Option Out :=
  seq (asgT (gT (gs1 (gN 5) (gs1 (gN 6) (gs1 (gN 7) (gs1 (gN 8) (gs1 (gN 9) (gs0))))))) (var 1))
  (seq (asg 10 (bin addD (var 5) (con (.int 1))))
  (seq (ifS (tst (callP m_law_goes (consF (var 2) (consF (var 6) (nilP))))) (seq (asg 10 (var 3))
  (seq (ifS (andT (tst (var 4)) (tst (bin geD (var 3) (blt lenD (consP (bin ixD (var 0) (con (.int 2))) (nilP)))))) (ret (tupE (consA (con (.bool true)) (consA (tupE (consA (con (.str "off")) (consA (var 3) (nilA)))) (nilA))))) (pas))
  (seq (ifS (tst (var 4)) (asg 10 (bin ixD (bin ixD (var 0) (con (.int 2))) (var 3))) (pas))
  (ifS (tst (bin isR (var 10) (con .none))) (ret (tupE (consA (con (.bool true)) (consA (tupE (consA (con (.str "lost")) (consA (var 3) (nilA)))) (nilA))))) (pas))))) (pas))
  (ret (tupE (consA (con (.bool false)) (consA (tupE (consA (var 10) (consA (var 6) (consA (var 7) (consA (var 8) (consA (var 9) (nilA))))))) (nilA)))))))
def m_law_led : Mm := runM 5 11 b_law_led
/-- end_by_box: program, stand, hearings, name, operand, mark -/
def b_end_by_box : En → Option Out :=
  seq (asgT (gT (gs1 (gN 3) (gs1 (gN 4) (gs1 (gN 5) (gs0))))) (bin ixD (bin ixD (var 0) (con (.int 0))) (bin ixD (var 1) (con (.int 0)))))
  (seq (ifS (tst (bin geD (callP m_box_meant (consF (tupE (consA (var 3) (consA (var 4) (consA (var 5) (nilA))))) (consF (bin ixD (var 1) (con (.int 2))) (nilP)))) (blt lenD (consP (bin ixD (var 1) (con (.int 2))) (nilP))))) (ret (tupE (consA (con (.str "beyond")) (consA (var 5) (nilA))))) (pas))
  (seq (ifS (andT (tst (bin inR (var 3) (tupE (consA (con (.str "hear")) (consA (con (.str "hearby")) (nilA)))))) (tst (bin geD (bin ixD (var 1) (con (.int 3))) (blt lenD (consP (var 2) (nilP)))))) (ret (tupE (consA (con (.str "dry")) (consA (var 5) (nilA))))) (pas))
  (ret (con .none))))
def m_end_by_box : Mm := runM 3 6 b_end_by_box
/-- row_led_to: program, stand, name, operand, mark -/
def b_row_led_to : En → Option Out :=
  seq (asgT (gT (gs1 (gN 2) (gs1 (gN 3) (gs1 (gN 4) (gs0))))) (bin ixD (bin ixD (var 0) (con (.int 0))) (bin ixD (var 1) (con (.int 0)))))
  (seq (ifS (tst (bin eqR (var 2) (con (.str "switch")))) (ret (callP m_table_row (consF (bin ixD (bin ixD (var 0) (con (.int 1))) (var 3)) (consF (bin ixD (var 1) (con (.int 2))) (nilP))))) (pas))
  (seq (ifS (notT (tst (callP m_does_go (consF (var 2) (consF (bin ixD (var 1) (con (.int 1))) (nilP)))))) (ret (bin addD (bin ixD (var 1) (con (.int 0))) (con (.int 1)))) (pas))
  (seq (ifS (tst (bin inR (var 2) (con c_BY_ROW))) (ret (var 3)) (pas))
  (ret (bin ixD (bin ixD (var 0) (con (.int 2))) (callP m_address_of (consF (bin ixD (bin ixD (var 1) (con (.int 2))) (var 3)) (nilP))))))))
def m_row_led_to : Mm := runM 2 5 b_row_led_to
/-- done_by_box: stand, name, at, hearings, row, hand, boxes, heard, told -/
def b_done_by_box : En → Option Out :=
  seq (asgT (gT (gs1 (gN 4) (gs1 (gN 5) (gs1 (gN 6) (gs1 (gN 7) (gs1 (gN 8) (gs0))))))) (var 0))
  (seq (ifS (tst (bin eqR (var 1) (con (.str "load")))) (asg 5 (bin ixD (var 6) (var 2))) (ifS (tst (bin eqR (var 1) (con (.str "store")))) (asg 6 (callP m_with_word (consF (var 6) (consF (var 2) (consF (var 5) (nilP)))))) (ifS (tst (bin eqR (var 1) (con (.str "add")))) (asg 5 (bin modD (bin addD (var 5) (bin ixD (var 6) (var 2))) (con (.int 10000)))) (ifS (tst (bin eqR (var 1) (con (.str "less")))) (asg 5 (bin modD (bin subD (var 5) (bin ixD (var 6) (var 2))) (con (.int 10000)))) (ifS (tst (bin eqR (var 1) (con (.str "say")))) (asg 8 (bin addD (var 8) (tupE (consA (bin ixD (var 6) (var 2)) (nilA))))) (ifS (tst (bin eqR (var 1) (con (.str "hear")))) (seq (asg 6 (callP m_with_word (consF (var 6) (consF (var 2) (consF (bin ixD (var 3) (var 7)) (nilP))))))
  (asg 7 (bin addD (var 7) (con (.int 1))))) (asg 6 (callP m_with_word (consF (var 6) (consF (var 2) (consF (callP m_patched (consF (bin ixD (var 6) (var 2)) (consF (var 5) (nilP)))) (nilP))))))))))))
  (ret (tupE (consA (bin addD (var 4) (con (.int 1))) (consA (var 5) (consA (var 6) (consA (var 7) (consA (var 8) (nilA)))))))))
def m_done_by_box : Mm := runM 4 9 b_done_by_box
def b_law_move_1 : En → Option Out :=
  seq (asg 10 (lcE [13, 14] (iterE (var 7)) (gT (gs1 (gN 13) (gs1 (gN 14) (gs0)))) (tst (bin eqR (var 13) (var 9))) (var 14)))
  (ifS (tst (bin neR (var 10) (lstE (nilA)))) (ret (tupE (consA (con (.bool false)) (consA (bin addD (tupE (consA (bin ixD (var 10) (con (.int 0))) (nilA))) (slc slD (var 1) (someP (con (.int 1))) (noP))) (nilA))))) (pas))
/-- law_move: program, stand, hearings, name, operand, mark, box, pairs, word, item, rows, by, at, other, row -/
def b_law_move : En → Option Out :=
  seq (asgT (gT (gs1 (gN 3) (gs1 (gN 4) (gs1 (gN 5) (gs0))))) (bin ixD (bin ixD (var 0) (con (.int 0))) (bin ixD (var 1) (con (.int 0)))))
  (seq (ifS (tst (bin inR (var 3) (callP m_law_ending nilP))) (ret (tupE (consA (con (.bool true)) (consA (tupE (consA (var 3) (consA (var 5) (nilA)))) (nilA))))) (pas))
  (seq (ifS (tst (bin eqR (var 3) (con (.str "switch")))) (seq (asgT (gT (gs1 (gN 6) (gs1 (gN 7) (gs0)))) (bin ixD (bin ixD (var 0) (con (.int 1))) (var 4)))
  (seq (asg 8 (bin ixD (bin ixD (var 1) (con (.int 2))) (var 6)))
  (seq (forS (iterE (lstE (consA (var 8) (consA (bin addD (con (.int 10000)) (bin divD (var 8) (con (.int 100)))) (nilA))))) (gN 9) (b_law_move_1))
  (ret (tupE (consA (con (.bool true)) (consA (tupE (consA (con (.str "lost")) (consA (var 5) (nilA)))) (nilA)))))))) (pas))
  (seq (asg 11 (bin eqR (slc slD (var 3) (someP (una negD (con (.int 2)))) (noP)) (con (.str "by"))))
  (seq (asg 12 (var 4))
  (seq (ifS (tst (var 11)) (seq (asg 3 (slc slD (var 3) (noP) (someP (una negD (con (.int 2))))))
  (asg 12 (bin modD (bin ixD (bin ixD (var 1) (con (.int 2))) (var 4)) (con (.int 100))))) (pas))
  (seq (ifS (tst (bin ninR (var 3) (callP m_law_doing nilP))) (ret (callP m_law_led (consF (var 0) (consF (var 1) (consF (var 3) (consF (var 12) (consF (var 11) (nilP)))))))) (pas))
  (seq (ifS (tst (bin geD (var 12) (blt lenD (consP (bin ixD (var 1) (con (.int 2))) (nilP))))) (ret (tupE (consA (con (.bool true)) (consA (tupE (consA (con (.str "beyond")) (consA (var 5) (nilA)))) (nilA))))) (pas))
  (seq (ifS (andT (tst (bin eqR (var 3) (con (.str "hear")))) (tst (bin geD (bin ixD (var 1) (con (.int 3))) (blt lenD (consP (var 2) (nilP)))))) (ret (tupE (consA (con (.bool true)) (consA (tupE (consA (con (.str "dry")) (consA (var 5) (nilA)))) (nilA))))) (pas))
  (ret (tupE (consA (con (.bool false)) (consA (callP m_law_done (consF (var 1) (consF (var 3) (consF (var 12) (consF (var 2) (nilP)))))) (nilA)))))))))))))
def m_law_move : Mm := runM 3 15 b_law_move
/-- end_at: program, stand, hearings, name, operand, mark -/
def b_end_at : En → Option Out :=
  seq (asgT (gT (gs1 (gN 3) (gs1 (gN 4) (gs1 (gN 5) (gs0))))) (bin ixD (bin ixD (var 0) (con (.int 0))) (bin ixD (var 1) (con (.int 0)))))
  (seq (ifS (tst (bin inR (var 3) (con c_ENDING))) (ret (tupE (consA (var 3) (consA (var 5) (nilA))))) (pas))
  (seq (ifS (orT (tst (bin inR (var 3) (con c_DOING))) (tst (bin inR (var 3) (con c_DOING_BY)))) (ret (callP m_end_by_box (consF (var 0) (consF (var 1) (consF (var 2) (nilP)))))) (pas))
  (seq (ifS (tst (bin inR (var 3) (con c_LEADING_BY))) (ret (callP m_end_by_door (consF (var 0) (consF (var 1) (nilP))))) (pas))
  (seq (ifS (andT (tst (bin eqR (var 3) (con (.str "switch")))) (tst (bin isR (callP m_table_row (consF (bin ixD (bin ixD (var 0) (con (.int 1))) (var 4)) (consF (bin ixD (var 1) (con (.int 2))) (nilP)))) (con .none)))) (ret (tupE (consA (con (.str "lost")) (consA (var 5) (nilA))))) (pas))
  (ret (con .none))))))
def m_end_at : Mm := runM 3 6 b_end_at
/-- begin_stand: program, row -/
def b_begin_stand : En → Option Out :=
  ret (tupE (consA (var 1) (consA (con (.int 0)) (consA (bin ixD (var 0) (con (.int 3))) (consA (con (.int 0)) (consA (tupE (nilA)) (nilA)))))))
def m_begin_stand : Mm := runM 2 2 b_begin_stand
/-- law_running: pool, some, more, hears -/
def b_law_running : En → Option Out :=
  seq (asg 1 (lstE (consA (con (.str "add")) (consA (con (.str "less")) (consA (con (.str "loadby")) (consA (con (.str "store")) (consA (con (.str "say")) (consA (con (.str "patch")) (consA (con (.str "hear")) (consA (con (.str "nought")) (consA (con (.str "great")) (consA (con (.str "go")) (consA (con (.str "addby")) (consA (con (.str "patchby")) (nilA)))))))))))))))
  (seq (asg 2 (bin addD (var 1) (lstE (consA (con (.str "noughtby")) (consA (con (.str "greatby")) (consA (con (.str "goby")) (consA (con (.str "switch")) (nilA))))))))
  (seq (asg 3 (lstE (consA (con (.str "hear")) (consA (con (.str "hearby")) (consA (con (.str "hear")) (consA (con (.str "go")) (consA (con (.str "say")) (consA (con (.str "nought")) (nilA)))))))))
  (ret (bin ixD (lstE (consA (callP m_law_names nilP) (consA (var 1) (consA (var 2) (consA (var 3) (nilA)))))) (callIO [true, false] m_law_next (consP (var 0) (consF (con (.int 4)) (nilP))))))))
def m_law_running : Mm := runM 1 4 b_law_running
def b_law_run__2_1 : En → Option Out :=
  seq (asg 1 (var 6))
  (seq (asg 4 (bin addD (var 4) (con (.int 1))))
  (asgT (gT (gs1 (gN 5) (gs1 (gN 6) (gs0)))) (callP m_law_move (consF (var 0) (consF (var 1) (consF (var 2) (nilP)))))))
/-- law_run: program, stand, hearings, steps, done, ended, due -/
def b_law_run__2 : En → Option Out :=
  seq (asg 4 (con (.int 0)))
  (seq (asgT (gT (gs1 (gN 5) (gs1 (gN 6) (gs0)))) (callP m_law_move (consF (var 0) (consF (var 1) (consF (var 2) (nilP))))))
  (seq (whl (andT (notT (tst (var 5))) (tst (bin ltD (var 4) (var 3)))) (b_law_run__2_1) FUEL)
  (ret (tupE (consA (var 4) (consA (var 1) (consA (bin ixD (lstE (consA (con .none) (consA (var 6) (nilA)))) (blt intD (consP (var 5) (nilP)))) (nilA))))))))
def m_law_run__2 : Mm := runM 4 7 b_law_run__2
/-- still_step: program, stand, hearings, row -/
def b_still_step : En → Option Out :=
  seq (ifS (tst (bin isntR (callP m_end_at (consF (var 0) (consF (var 1) (consF (var 2) (nilP))))) (con .none))) (stuck) (pas))
  (seq (asg 3 (bin ixD (bin ixD (var 0) (con (.int 0))) (bin ixD (var 1) (con (.int 0)))))
  (seq (ifS (tst (bin inR (bin ixD (var 3) (con (.int 0))) (con c_DOING))) (ret (callP m_done_by_box (consF (var 1) (consF (bin ixD (var 3) (con (.int 0))) (consF (bin ixD (var 3) (con (.int 1))) (consF (var 2) (nilP))))))) (pas))
  (seq (ifS (tst (bin inR (bin ixD (var 3) (con (.int 0))) (con c_DOING_BY))) (ret (callP m_done_by_box (consF (var 1) (consF (bin ixD (con c_DOING) (ixT ([.str "loadby", .str "storeby", .str "addby", .str "lessby", .str "sayby", .str "hearby", .str "patchby"]) (consA (bin ixD (var 3) (con (.int 0))) (nilA)))) (consF (callP m_box_meant (consF (var 3) (consF (bin ixD (var 1) (con (.int 2))) (nilP)))) (consF (var 2) (nilP))))))) (pas))
  (ret (bin addD (tupE (consA (callP m_row_led_to (consF (var 0) (consF (var 1) (nilP)))) (nilA))) (slc slD (var 1) (someP (con (.int 1))) (noP)))))))
def m_still_step : Mm := runM 3 4 b_still_step
/-- law_alike: found, due, one, other -/
def b_law_alike__4 (REC : Mm) : En → Option Out :=
  seq (ifS (tst (isiP "list" "tuple" (var 1))) (seq (ifS (tst (bin neR (isi "list" (var 0)) (isi "list" (var 1)))) (ret (con (.bool false))) (pas))
  (seq (ifS (orT (notT (tst (isiP "list" "tuple" (var 0)))) (tst (bin neR (blt lenD (consP (var 0) (nilP))) (blt lenD (consP (var 1) (nilP)))))) (ret (con (.bool false))) (pas))
  (ret (blt allD (consP (lcE [2, 3] (zipE2 (consA (var 0) (consA (var 1) (nilA)))) (gT (gs1 (gN 2) (gs1 (gN 3) (gs0)))) (yesT) (callP REC (consF (var 2) (consF (var 3) (nilP))))) (nilP)))))) (pas))
  (seq (ifS (orT (tst (bin isR (var 1) (con .none))) (tst (isi "str" (var 1)))) (ret (bin eqR (var 0) (var 1))) (pas))
  (ret (andV (isi "int" (var 0)) (andV (notV (isi "bool" (var 0))) (bin eqR (var 0) (var 1))))))
def r_law_alike__4 : Nat → Mm
  | 0 => runM 2 4 stuck
  | k + 1 => runM 2 4 (b_law_alike__4 (r_law_alike__4 k))
def m_law_alike__4 : Mm := r_law_alike__4 8
def b_still_on_1 : En → Option Out :=
  seq (asg 1 (callP m_still_step (consF (var 0) (consF (var 1) (consF (var 2) (nilP))))))
  (seq (asg 4 (bin addD (var 4) (con (.int 1))))
  (asg 5 (callP m_end_at (consF (var 0) (consF (var 1) (consF (var 2) (nilP)))))))
/-- still_on: program, stand, hearings, steps, done, end -/
def b_still_on : En → Option Out :=
  seq (asg 4 (con (.int 0)))
  (seq (asg 5 (callP m_end_at (consF (var 0) (consF (var 1) (consF (var 2) (nilP))))))
  (seq (whl (andT (tst (bin isR (var 5) (con .none))) (tst (bin ltD (var 4) (var 3)))) (b_still_on_1) FUEL)
  (ret (tupE (consA (var 4) (consA (var 1) (consA (var 5) (nilA))))))))
def m_still_on : Mm := runM 4 6 b_still_on
/-- still_run: program, row, hearings, steps -/
def b_still_run : En → Option Out :=
  ret (callP m_still_on (consF (var 0) (consF (callP m_begin_stand (consF (var 0) (consF (var 1) (nilP)))) (consF (var 2) (consF (var 3) (nilP))))))
def m_still_run : Mm := runM 4 4 b_still_run
end Rd

set_option Elab.async false
set_option linter.all false
set_option maxRecDepth 100000
set_option maxHeartbeats 4000000
set_option autoImplicit false
set_option synthInstance.maxSize 100000
set_option synthInstance.maxHeartbeats 4000000
namespace Rd
open PySem L2 Sl
local macro_rules | `(tactic| walk_at "nx") => `(tactic| first | rfl | assumption)
local macro_rules | `(tactic| walk_at "get") => `(tactic| first | (simp only [R.get, R.nf, Cel.d, List.getElem?_cons_zero, List.getElem?_cons_succ] <;> rfl) | rfl)
local macro_rules | `(tactic| walk_at "len") => `(tactic| (simp only [List.length_append, List.length_map, List.length_cons, List.length_nil, List.length_take, List.length_drop] at *; omega))
local macro_rules | `(tactic| walk_at "same") => `(tactic| first | rfl | (simp only [Cel.d, PyData.list.injEq, PyData.tuple.injEq, PyData.int.injEq, List.cons.injEq, and_true, true_and]; done) | (simp only [Cel.d, PyData.list.injEq, PyData.tuple.injEq, PyData.int.injEq, List.cons.injEq, and_true, true_and]; omega))
local macro_rules | `(tactic| walk_at "shp") => `(tactic| first | assumption | rfl | (simp only [Cel.d]; rfl))
local macro_rules | `(tactic| walk_at "ok") => `(tactic| first | rfl | exact okB rfl)
local macro_rules | `(tactic| walk_at "set") => `(tactic| (simp only [Int.reduceToNat, stR, sto_go, stoX_none, stoX_fz, stoX_ow, stoX_fre, put, frz, R.get, R.nf, wipeE, back, gN, gT, gs1, gs0, Cel.d, Cel.own, mkSl, putAll, outs, eq_self, if_true, ↓reduceIte, List.cons_append, List.nil_append, List.map_cons, List.map_nil, List.getElem?_cons_zero, List.getElem?_cons_succ, List.set_cons_zero, List.set_cons_succ, Option.bind_some, Option.map_some] <;> rfl))
local macro_rules | `(tactic| walk_at "fr") => `(tactic| repeat first | exact frs_nil | refine frs_none ?_ | refine frs_fz ?_ | refine frs_ow ?_ | refine frs_fre ?_)
local macro_rules | `(tactic| walk_at "om") => `(tactic| first | omega | (simp only [List.length_cons, List.length_nil, List.length_map, List.length_append, List.length_take, List.length_drop] at *; omega) | decide)
local macro_rules | `(tactic| walk_at "op") => `(tactic| first
  | ((with_reducible refine mod_sym ?_); walk_at "om")
  | ((with_reducible refine div_sym ?_); walk_at "om")
  | ((with_reducible refine mul_l ?_); walk_at "om")
  | ((with_reducible refine mul_r ?_); walk_at "om")
  | ((with_reducible refine cat_l ?_); walk_at "len")
  | ((with_reducible refine cat_t ?_); walk_at "len")
  | ((with_reducible refine ne_same ?_ ?_); walk_at "same"; walk_at "shp")
  | ((with_reducible refine eq_same ?_ ?_); walk_at "same"; walk_at "shp")
  | ((with_reducible refine (if_pos ?_ : lr1D (.int _) = _)); walk_at "om")
  | ((with_reducible refine in_dict ?_); walk_at "nx")
  | ((with_reducible refine nin_dict ?_); walk_at "nx")
  | ((with_reducible refine in_tupX ?_); rfl)
  | ((with_reducible refine in_lstX ?_); rfl)
  | ((with_reducible refine nin_tupX ?_); rfl)
  | ((with_reducible refine nin_lstX ?_); rfl)
  | ((with_reducible apply in_tup); rfl)
  | ((with_reducible apply in_lst); rfl)
  | ((with_reducible apply nin_tup); rfl)
  | ((with_reducible apply nin_lst); rfl)
  | ((with_reducible refine pow_sym ?_ ?_) <;> walk_at "om")
  | rfl
  | assumption)
local macro_rules | `(tactic| walk_at "sop") => `(tactic| first | ((with_reducible refine setX_dict ?_); walk_at "om") | ((with_reducible refine setX_list ?_ ?_) <;> walk_at "om") | rfl)
local macro_rules | `(tactic| walk_at "mop") => `(tactic| first | ((with_reducible refine app_ok ?_); walk_at "om") | rfl | assumption)
local macro_rules | `(tactic| walk_at "dop") => `(tactic| first | rfl | assumption)
local macro_rules | `(tactic| walk_at "g1") => `(tactic| first
  | ((with_reducible refine ws_seq ?_))
  | ((with_reducible refine sk_nx ?_))
  | ((with_reducible refine sk_rt ?_))
  | ((with_reducible refine sk_bk ?_))
  | ((with_reducible refine sk_ct ?_))
  | ((with_reducible refine ws_if ?_))
  | ((with_reducible refine ws_pas ?_))
  | ((with_reducible refine ws_brk ?_))
  | ((with_reducible refine ws_cnt ?_))
  | ((with_reducible refine ws_retN ?_))
  | ((with_reducible refine ws_ret ?_))
  | ((with_reducible refine ws_asg ?_))
  | ((with_reducible refine ws_asgT ?_))
  | ((with_reducible refine ws_drp ?_))
  | ((with_reducible refine ws_set ?_))
  | ((with_reducible refine wp_con ?_))
  | ((with_reducible apply wp_varF); rfl)
  | ((with_reducible apply wp_varO); rfl)
  | ((with_reducible apply wp_varI); rfl)
  | ((with_reducible refine wp_bin ?_))
  | ((with_reducible refine wp_una ?_))
  | ((with_reducible refine wp_tst ?_))
  | ((with_reducible refine wp_andT ?_))
  | ((with_reducible refine wp_orT ?_))
  | ((with_reducible refine wp_notT ?_))
  | ((with_reducible refine wp_andV ?_))
  | ((with_reducible refine wp_orV ?_))
  | ((with_reducible refine wp_notV ?_))
  | ((with_reducible refine wp_ite ?_))
  | ((with_reducible refine wp_nilA ?_))
  | ((with_reducible refine wp_consA ?_))
  | ((with_reducible refine wp_nilP ?_))
  | ((with_reducible refine wp_consP ?_))
  | ((with_reducible refine wp_consF ?_))
  | ((with_reducible refine kn_v ?_))
  | ((with_reducible refine kn_n ?_))
  | ((with_reducible refine kn_b ?_))
  | ((with_reducible refine wp_tupE ?_))
  | ((with_reducible refine wp_lstE ?_))
  | ((with_reducible refine wp_blt ?_))
  | ((with_reducible refine wp_isi ?_))
  | ((with_reducible refine wp_callP ?_))
  | ((with_reducible refine wp_callIO ?_))
  | ((with_reducible refine wp_chn ?_ bl_le))
  | ((with_reducible refine wp_chn ?_ bl_lt))
  | ((with_reducible refine wp_dctE ?_))
  | ((with_reducible apply kdc); rfl; (simp only [List.length_cons, List.length_nil]; decide); (simp only [List.foldl_cons, List.foldl_nil, dPut, eqK] <;> rfl))
  | ((with_reducible refine wp_mut ?_))
  | ((with_reducible refine wp_mut0 ?_))
  | ((with_reducible apply kmu); rfl; rfl)
  | ((with_reducible apply kmv); rfl; rfl)
  | ((with_reducible apply km_ow); rfl; walk_at "mop"; walk_at "set")
  | ((with_reducible apply km_io); rfl; walk_at "mop"; walk_at "set")
  | ((with_reducible refine wp_methF ?_))
  | ((with_reducible apply kmF); rfl; first | rfl | exact isT_dict (by assumption))
  | ((with_reducible apply kmG); rfl; walk_at "dop")
  | ((with_reducible refine wp_slc ?_))
  | ((with_reducible refine wp_noP ?_))
  | ((with_reducible refine wp_someP ?_))
  | ((with_reducible refine wp_iter ?_))
  | ((with_reducible refine wp_rng ?_))
  | ((with_reducible refine wp_enum ?_))
  | ((with_reducible refine wp_zip2 ?_))
  | ((with_reducible refine wp_zip3 ?_))
  | ((with_reducible refine wp_isiP ?_))
  | ((with_reducible apply ken); rfl)
  | ((with_reducible apply kz2); rfl; rfl)
  | ((with_reducible apply kz3); rfl; rfl; rfl)
  | ((with_reducible refine krng1 ?_ ?_); walk_at "om")
  | ((with_reducible refine krng2 ?_ ?_); walk_at "om")
  | ((with_reducible refine wp_lc ?_))
  | ((with_reducible refine ws_for ?_))
  | ((with_reducible refine wp_yes ?_))
  | ((with_reducible apply kt_mk); walk_at "set")
  | ((with_reducible refine lk_nil ?_))
  | ((with_reducible refine li_nx ?_))
  | ((with_reducible refine li_ct ?_))
  | ((with_reducible refine li_bk ?_))
  | ((with_reducible refine li_rt ?_))
  | ((with_reducible refine lo_nx ?_))
  | ((with_reducible refine lo_ct ?_))
  | ((with_reducible refine lo_bk ?_))
  | ((with_reducible refine lo_rt ?_))
  | ((with_reducible apply kf); walk_at "set")
  | ((with_reducible apply k2); walk_at "get"; walk_at "get"; walk_at "op")
  | ((with_reducible apply k1); walk_at "get"; walk_at "op")
  | ((with_reducible apply kt); rfl)
  | ((with_reducible apply kb); rfl; exact all_true _)
  | ((with_reducible apply kb); rfl; exact bin_any)
  | ((with_reducible apply kb); rfl; exact sorted_ok)
  | ((with_reducible apply kb); rfl; rfl)
  | ((with_reducible apply ko); rfl)
  | ((with_reducible apply ks); walk_at "get"; refine slt_hi ?_ <;> walk_at "om")
  | ((with_reducible apply ks); walk_at "get"; refine slt_lo ?_ <;> walk_at "om")
  | ((with_reducible apply ks); walk_at "get"; refine sll_hi ?_ <;> walk_at "om")
  | ((with_reducible apply ks); walk_at "get"; refine sll_lo ?_ <;> walk_at "om")
  | ((with_reducible apply ks); walk_at "get"; rfl)
  | ((with_reducible apply ka); walk_at "set")
  | ((with_reducible apply kg); walk_at "set"; walk_at "set")
  | ((with_reducible refine kr_v ?_))
  | ((with_reducible refine kr_n ?_))
  | ((with_reducible apply kr_b); rfl)
  | ((with_reducible apply kr_bf); rfl)
  | ((with_reducible apply kx_ow); rfl; walk_at "get"; walk_at "sop"; walk_at "set")
  | ((with_reducible apply kx_io); rfl; walk_at "get"; walk_at "sop"; walk_at "set")
  | ((with_reducible apply kit_l); walk_at "set")
  | ((with_reducible apply kit_t); walk_at "set")
  | ((with_reducible apply km_rt); walk_at "set")
  | ((with_reducible apply km_nx); walk_at "set")
  | ((with_reducible apply kcx); rfl; walk_at "set"; walk_at "call")
  | ((with_reducible apply ki); (simp only [ioIx]; decide); walk_at "set"; walk_at "call")
  | ((with_reducible refine if_T ?_))
  | ((with_reducible refine if_F ?_))
  | ((with_reducible refine if_NF ?_))
  | ((with_reducible refine if_NT ?_))
  | ((with_reducible refine And.intro (small_size ?_) ?_); walk_at "om")
  | ((with_reducible refine if_bT ?_ ?_); rfl)
  | ((with_reducible refine if_bF ?_ ?_); rfl)
  | (with_reducible refine if_dec (fun _ => ?_) (fun h => absurd rfl h))
  | (with_reducible refine if_dec (fun _ => ?_) (fun h => absurd (by omega) h))
  | (with_reducible refine if_dec (fun h => absurd h (by omega)) (fun _ => ?_))
  | (with_reducible refine if_ndec (fun h => absurd rfl h) (fun _ => ?_))
  | (with_reducible refine if_ndec (fun _ => ?_) (fun h => absurd h (by omega)))
  | (with_reducible refine if_ndec (fun h => absurd (by omega) h) (fun _ => ?_)))
local macro_rules | `(tactic| walk_at "un") => `(tactic| first | walk_at "go" | walk_at "body" | ((with_reducible apply lk_cons); walk_at "set"))
local macro_rules | `(tactic| walk_at "start") => `(tactic| (refine wm_run rfl ?_; simp only [List.map_cons, List.map_nil, List.length_cons, List.length_nil, Nat.reduceAdd, Nat.reduceSub, Nat.zero_add, Nat.sub_self, List.replicate_zero, List.replicate_succ, List.append_nil, List.cons_append, List.nil_append]))
local macro_rules | `(tactic| walk_at "mop") => `(tactic| first | ((with_reducible apply ext_ok); rfl; walk_at "om") | ((with_reducible refine ins_ok ?_); walk_at "om"))
local macro_rules | `(tactic| walk_at "in") => `(tactic| repeat first | exact inM_nil | refine inM_k ?_ | refine inM_none ?_ | refine inM_fz ?_ | refine inM_ow ?_ | refine inM_fre ?_)
local macro_rules | `(tactic| walk_at "all") => `(tactic| simp only [AllM])
local macro_rules | `(tactic| walk_at "auto") => `(tactic| repeat' first | walk_at "go" | (with_reducible refine if_dec (fun _ => ?_) (fun _ => ?_)) | (with_reducible refine if_ndec (fun _ => ?_) (fun _ => ?_)) | (with_reducible refine if_V (fun _ => ?_) (fun _ => ?_)))
local macro_rules | `(tactic| walk_at "g1") => `(tactic| first | ((with_reducible apply k2_ixTg); walk_at "get"; walk_at "get"; walk_at "om"; walk_at "om") | ((with_reducible apply k2_ixMg); walk_at "get"; walk_at "get"; walk_at "om"; walk_at "om"))
local macro_rules | `(tactic| walk_at "g1") => `(tactic| first | ((with_reducible apply if_dN); decide) | ((with_reducible apply if_dY); decide))
local macro_rules | `(tactic| walk_at "ty") => `(tactic| assumption)
local macro_rules | `(tactic| walk_at "inT") => `(tactic| repeat first | exact inT_nil | refine inT_k ?_ | refine inT_none ?_ | refine inT_fz ?_ | refine inT_ow ?_ | refine inT_fre ?_ | refine inT_o (by walk_at "ty") ?_ | refine inT_i (by walk_at "ty") ?_ | refine inT_z (by walk_at "ty") ?_)
local macro_rules | `(tactic| walk_at "allT") => `(tactic| simp only [AllT])
local macro_rules | `(tactic| walk_at "g1") => `(tactic| first
  | ((with_reducible apply ws_forO); rfl; walk_at "om"; walk_at "set")
  | ((with_reducible apply ws_forI); rfl; walk_at "om")
  | (with_reducible refine ws_chk ?_)
  | ((with_reducible refine kch_nx rfl ?_))
  | ((with_reducible refine kch_ct rfl ?_))
  | ((with_reducible refine kch_rt ?_))
  | ((with_reducible refine kch_bk ?_))
  | ((with_reducible refine ku_nx (by simp only [unE, List.getElem?_cons_zero, List.getElem?_cons_succ, List.set_cons_zero, List.set_cons_succ] <;> rfl) ?_))
  | ((with_reducible refine ku_rt (by simp only [unE, List.getElem?_cons_zero, List.getElem?_cons_succ, List.set_cons_zero, List.set_cons_succ] <;> rfl) ?_))
  | (with_reducible refine wp_ixT ?_)
  | ((with_reducible apply kx_ix); rfl))
local macro_rules | `(tactic| walk_at "sh") => `(tactic| repeat first | exact sh_int | exact sh_str (by decide +kernel) | exact sh_bool | exact sh_none | exact shA_nil | exact shA_ints | (with_reducible assumption) | refine sh_list ?_ | refine sh_tup ?_ | refine shA_cons ?_ ?_ | refine shA_app ?_ ?_)
local macro_rules | `(tactic| walk_at "shp") => `(tactic| first | assumption | exact sh_ok (n := 8) (by walk_at "sh") (by decide))
local macro_rules | `(tactic| walk_at "evc") => `(tactic| assumption)
local macro_rules | `(tactic| walk_at "hq") => `(tactic| (intro hq; try simp only [decide_eq_true_eq, decide_eq_false_iff_not, Bool.not_eq_true', Bool.not_eq_false', Bool.and_eq_true, Bool.or_eq_false_iff] at hq))
local macro_rules | `(tactic| walk_at "ev") => `(tactic| first
  | (with_reducible exact ev_con)
  | ((with_reducible apply ev_varF); rfl)
  | ((with_reducible apply ev_varO); rfl)
  | ((with_reducible apply ev_varI); rfl)
  | (with_reducible exact evT_yes)
  | (with_reducible exact evA_nil)
  | (with_reducible exact evP_nil)
  | ((with_reducible apply ev_bin); walk_at "ev"; walk_at "ev"; walk_at "get"; walk_at "get"; walk_at "op")
  | ((with_reducible apply ev_una); walk_at "ev"; walk_at "get"; walk_at "op")
  | ((with_reducible apply ev_isi); walk_at "ev"; walk_at "get"; first | rfl | exact Op1.h)
  | ((with_reducible apply evT_tst); walk_at "ev"; rfl)
  | ((with_reducible apply evT_and); walk_at "ev"; walk_at "hq"; walk_at "ev")
  | ((with_reducible apply evT_or); walk_at "ev"; walk_at "hq"; walk_at "ev")
  | ((with_reducible apply evT_not); walk_at "ev")
  | ((with_reducible apply ev_andV); walk_at "ev"; walk_at "hq"; walk_at "ev")
  | ((with_reducible apply ev_orV); walk_at "ev"; walk_at "hq"; walk_at "ev")
  | ((with_reducible apply ev_notV); walk_at "ev")
  | ((with_reducible apply evA_cons); walk_at "ev"; walk_at "set"; walk_at "ev")
  | ((with_reducible apply evP_consP); walk_at "ev"; walk_at "ev")
  | ((with_reducible apply evP_consF); walk_at "ev"; walk_at "set"; walk_at "ev")
  | ((with_reducible apply ev_tup); walk_at "ev"; walk_at "om")
  | ((with_reducible apply ev_lst); walk_at "ev"; walk_at "om")
  | ((with_reducible apply ev_blt); walk_at "ev"; rfl; walk_at "bop")
  | ((with_reducible apply ev_callP); walk_at "ev"; rfl; walk_at "set"; walk_at "evc"; walk_at "ok"))
local macro_rules | `(tactic| walk_at "bop") => `(tactic| first | exact all_map | exact any_map | exact sorted_ok | rfl)
local macro_rules | `(tactic| walk_at "lcb") => `(tactic| (apply lcb_mk; walk_at "set"; walk_at "ev"; rfl; walk_at "hq"; walk_at "ev"; walk_at "set"; rfl; walk_at "set"))
local macro_rules | `(tactic| walk_at "lcm") => `(tactic| (apply lcm_mk; walk_at "set"; walk_at "ev"; walk_at "set"; rfl; walk_at "set"))
local macro_rules | `(tactic| walk_at "call") => `(tactic| ((with_reducible apply wm_eq); walk_at "evc"; refine ⟨?_, ?_⟩; walk_at "ok"))
local macro_rules | `(tactic| walk_at "g1") => `(tactic| first | ((with_reducible apply kb); rfl; exact all_map) | ((with_reducible apply kb); rfl; exact any_map))
local macro_rules | `(tactic| walk_at "ixl") => `(tactic| ((with_reducible apply k2_ixL); walk_at "get"; walk_at "get"; rfl; walk_at "om"; walk_at "om"; (intro v hv; simp only [intsOf, List.mem_cons, List.not_mem_nil, or_false, List.length_map] at hv)))
local macro_rules | `(tactic| walk_at "gi") => `(tactic| first | walk_at "go" | walk_at "ixl")
local macro_rules | `(tactic| walk_at "op") => `(tactic| ((with_reducible refine lr1_ok ?_); walk_at "om"))
local macro_rules | `(tactic| walk_at "go") => `(tactic| first | (with_reducible refine Rn.h ?_) | walk_at "g1")
local macro_rules | `(tactic| walk_at "ev") => `(tactic| first
  | ((with_reducible apply ev_chn); walk_at "ev"; walk_at "ev"; walk_at "get"; walk_at "get"; walk_at "op"; walk_at "ev"; walk_at "get"; walk_at "op")
  | ((with_reducible apply ev_ixT); walk_at "ev"; rfl)
  | ((with_reducible apply ev_methF); walk_at "ev"; walk_at "get"; rfl; walk_at "ev"; walk_at "get"; walk_at "op"))
local macro_rules | `(tactic| walk_at "mem") => `(tactic| (simp only [intsOf, List.mem_cons, List.not_mem_nil, or_false]; omega))
local macro_rules | `(tactic| walk_at "gm") => `(tactic| first
  | walk_at "gi"
  | (with_reducible refine if_dec (fun _ => ?_) (fun h => absurd (by walk_at "mem") h))
  | (with_reducible refine if_dec (fun h => absurd h (by walk_at "mem")) (fun _ => ?_))
  | (with_reducible refine if_ndec (fun _ => ?_) (fun h => absurd h (by walk_at "mem")))
  | (with_reducible refine if_ndec (fun h => absurd (by walk_at "mem") h) (fun _ => ?_)))
local macro_rules | `(tactic| walk_at "ift") => `(tactic| first
  | ((with_reducible apply if_dN); first | decide | omega)
  | ((with_reducible apply if_dY); first | decide | omega)
  | (with_reducible refine if_ndec (fun h => absurd (by omega) h) (fun _ => ?_))
  | (with_reducible refine if_ndec (fun _ => ?_) (fun h => absurd h (by omega))))
local macro_rules | `(tactic| walk_at "go") => `(tactic| first | (with_reducible refine Rn.h ?_) | walk_at "ift" | walk_at "g1")
local macro_rules | `(tactic| walk_at "fact") => `(tactic| first | assumption | omega | decide | walk_at "mem")
/-- the pool's shape after at most n draws -/
def Pool (n : Int) (p : D) : Prop := ∃ a b c : Int, p = .list [.int a, .int b, .int c] ∧ 0 ≤ a ∧ 0 ≤ b ∧ b < 999999937 ∧ 0 ≤ c ∧ c ≤ n
theorem pool_mono {n m : Int} {p : D} (h : Pool n p) (hm : n ≤ m) : Pool m p := by
  obtain ⟨a, b, c, rfl, h1, h2, h3, h4, h5⟩ := h
  exact ⟨a, b, c, rfl, h1, h2, h3, h4, by omega⟩
theorem w_next {n m : Int} {p : D} (hp : Pool n p) (hn : n < 1000000000) (hm : 0 < m ∧ m < 1073741824) : Wm m_law_next [.io p, .fz (.int m)] fun r out => ∃ d p', r = .v (.int d) ∧ out = [.io p', .fz (.int m)] ∧ Pool (n + 1) p' ∧ 0 ≤ d ∧ d < m := by
  obtain ⟨a, b, c, rfl, h1, h2, h3, h4, h5⟩ := hp
  unfold m_law_next
  walk_at "start"
  unfold b_law_next
  repeat walk_at "go"
  refine if_dec (fun h => ?_) fun h => ?_
  · repeat walk_at "go"
    exact ⟨_, _, rfl, rfl, ⟨_, _, _, rfl, Int.ediv_nonneg h1 (by omega), h2, h3, h4, by omega⟩, Int.emod_nonneg _ (by omega), Int.emod_lt_of_pos _ hm.1⟩
  · have hb : -(2 ^ 64) < 524287 * (c + 1) ∧ 524287 * (c + 1) < 2 ^ 64 := by omega
    repeat walk_at "go"
    exact ⟨_, _, rfl, rfl, ⟨_, _, _, rfl, h1, h2, h3, by omega, by omega⟩, Int.emod_nonneg _ (by omega), Int.emod_lt_of_pos _ hm.1⟩
theorem next_step {n m : Int} {p : D} {Q : R → List Cel → Prop} (hp : Pool n p) (hn : n < 1000000000) (hm : 0 < m ∧ m < 1073741824) (k : ∀ d p', Pool (n + 1) p' → 0 ≤ d → d < m → Q (.v (.int d)) [.io p', .fz (.int m)]) : Wm m_law_next [.io p, .fz (.int m)] Q :=
  wm_mono (w_next hp hn hm) fun r out h => by
    obtain ⟨d, p', rfl, rfl, h1, h2, h3⟩ := h
    exact k d p' h1 h2 h3
local macro_rules | `(tactic| walk_at "call") => `(tactic| ((with_reducible apply next_step); assumption; omega; walk_at "om"; intro d p' hp hd0 hd1; haveI := Tru.mk hd0; haveI := Tru.mk hd1; refine ⟨_, (by walk_at "set"), ?_⟩))
theorem w_pool (x : Int) : Wm m_law_pool [.fz (.int x)] fun r out => ∃ p, r = .n p ∧ out = [.fz (.int x)] ∧ Pool 0 p := by
  unfold m_law_pool
  walk_at "start"
  unfold b_law_pool
  repeat walk_at "go"
  refine ⟨_, rfl, rfl, _, _, _, rfl, ?_, Int.emod_nonneg _ (by omega), Int.emod_lt_of_pos _ (by omega), by omega, by omega⟩
  split <;> omega
theorem pool_step {x : Int} {Q : R → List Cel → Prop} (q : ∀ p, Pool 0 p → Q (.n p) [.fz (.int x)]) : Wm m_law_pool [.fz (.int x)] Q :=
  wm_mono (w_pool x) fun r out h => by
    obtain ⟨p, rfl, rfl, h1⟩ := h
    exact q p h1
local macro_rules | `(tactic| walk_at "call") => `(tactic| ((with_reducible apply pool_step); intro p hp; refine ⟨okB rfl, ?_⟩))
theorem w_word {n many : Int} {p : D} (hp : Pool n p) (hn : n < 100000000) (hr : 1 ≤ many ∧ many ≤ 99) : Wm m_law_word__2 [.io p, .fz (.int many)] fun r out => ∃ d p', r = .v (.int d) ∧ out = [.io p', .fz (.int many)] ∧ Pool (n + 4) p' ∧ 0 ≤ d ∧ d < 10000 := by
  unfold m_law_word__2
  walk_at "start"
  unfold b_law_word__2
  repeat walk_at "go"
  refine if_dec (fun h => ?_) fun h => ?_
  · repeat walk_at "go"
    exact ⟨_, _, rfl, rfl, pool_mono (by assumption) (by omega), by omega, by omega⟩
  repeat walk_at "go"
  refine if_dec (fun h => ?_) fun h => ?_
  · repeat walk_at "go"
    exact ⟨_, _, rfl, rfl, pool_mono (by assumption) (by omega), by omega, by omega⟩
  repeat walk_at "go"
  refine if_dec (fun h => ?_) fun h => ?_
  · repeat walk_at "go"
    exact ⟨_, _, rfl, rfl, pool_mono (by assumption) (by omega), by omega, by omega⟩
  repeat walk_at "go"
  refine if_dec (fun h => ?_) fun h => ?_
  · repeat walk_at "gi"
    exact ⟨_, _, rfl, rfl, pool_mono (by assumption) (by omega), by omega, by omega⟩
  repeat walk_at "gi"
  exact ⟨_, _, rfl, rfl, pool_mono (by assumption) (by omega), by omega, by omega⟩
theorem word_step {n many : Int} {p : D} {Q : R → List Cel → Prop} (hp : Pool n p) (hn : n < 100000000) (hr : 1 ≤ many ∧ many ≤ 99) (k : ∀ d p', Pool (n + 4) p' → 0 ≤ d → d < 10000 → Q (.v (.int d)) [.io p', .fz (.int many)]) : Wm m_law_word__2 [.io p, .fz (.int many)] Q :=
  wm_mono (w_word hp hn hr) fun r out h => by
    obtain ⟨d, p', rfl, rfl, h1, h2, h3⟩ := h
    exact k d p' h1 h2 h3
local macro_rules | `(tactic| walk_at "call") => `(tactic| ((with_reducible apply word_step); assumption; omega; omega; intro d p' hp hd0 hd1; haveI := Tru.mk hd0; haveI := Tru.mk hd1; refine ⟨_, (by walk_at "set"), ?_⟩))
def Wds (ws : List Int) : Prop := ∀ x ∈ ws, 0 ≤ x ∧ x < 10000
theorem w_words {n many : Int} {p : D} (hp : Pool n p) (hn : n < 10000000) (hr : 1 ≤ many ∧ many ≤ 99) : Wm m_law_words [.io p, .fz (.int many)] fun r out => ∃ ws p', r = .v (.tuple (ws.map .int)) ∧ out = [.io p', .fz (.int many)] ∧ Pool (n + 400) p' ∧ Wds ws ∧ ws.length = many.toNat := by
  unfold m_law_words
  walk_at "start"
  unfold b_law_words
  repeat walk_at "go"
  have hlen : (rngD 0 many.toNat).length = many.toNat := rngD_len
  refine kl_tyM [.i (fun i d => Pool (n + 4 * i) d), .k, .f] (TI 0 10000) (by refine inT_i (pool_mono hp (by omega)) ?_; walk_at "inT") (fun i d hi => ?_) fun acc hl hT => ?_
  · have hil : i < many.toNat := by rw [← hlen]; exact (List.getElem?_eq_some_iff.mp hi).1
    walk_at "allT"
    intro q hq y2
    refine ⟨_, (by walk_at "set"), ?_⟩
    repeat walk_at "go"
    refine ⟨⟨_, rfl, by assumption, by assumption⟩, ?_⟩
    refine inT_i (pool_mono (by assumption) (by omega)) ?_
    walk_at "inT"
  rw [hlen] at hl ⊢
  obtain ⟨ws, rfl, hw⟩ := ti_ints hT
  walk_at "allT"
  intro q hq y2
  repeat walk_at "go"
  rw [List.length_map] at hl
  exact ⟨ws, _, rfl, rfl, pool_mono hq (by omega), hw, hl⟩
theorem words_step {n many : Int} {p : D} {Q : R → List Cel → Prop} (hp : Pool n p) (hn : n < 10000000) (hr : 1 ≤ many ∧ many ≤ 99) (k : ∀ ws p', Pool (n + 400) p' → Wds ws → ws.length = many.toNat → Q (.v (.tuple (ws.map .int))) [.io p', .fz (.int many)]) : Wm m_law_words [.io p, .fz (.int many)] Q :=
  wm_mono (w_words hp hn hr) fun r out h => by
    obtain ⟨ws, p', rfl, rfl, h1, h2, h3⟩ := h
    exact k ws p' h1 h2 h3
local macro_rules | `(tactic| walk_at "call") => `(tactic| ((with_reducible apply words_step); assumption; omega; omega; intro ws p' hp hw hwl; refine ⟨_, (by walk_at "set"), ?_⟩))
def boxN : List Str := ["load", "store", "add", "less", "say", "hear", "patch", "loadby", "storeby", "addby", "lessby", "sayby", "hearby", "patchby", "goby", "noughtby", "greatby"]
def jN : List Str := ["go", "nought", "great"]
def endN : List Str := ["stop", "norow", "beyond", "off", "lost"]
def allN : List Str := boxN ++ jN ++ (["switch"] : List Str) ++ endN
abbrev Row := Str × Int × Int
abbrev Tab := Int × List (Int × Int)
def rowD (r : Row) : D := .tuple [.str r.1, .int r.2.1, .int r.2.2]
def prD (q : Int × Int) : D := .tuple [.int q.1, .int q.2]
def tabD (t : Tab) : D := .tuple [.int t.1, .tuple (t.2.map prD)]
def doorD : Option Int → D
  | none => .none
  | some i => .int i
structure RowOk (nb nr nt : Int) (r : Row) : Prop where
  nm : r.1 ∈ allN
  m0 : 0 ≤ r.2.2
  m1 : r.2.2 < 100
  o0 : 0 ≤ r.2.1
  ob : r.1 ∈ boxN → r.2.1 < nb
  oj : r.1 ∈ jN → r.2.1 < nr
  os : r.1 = "switch" → r.2.1 < nt
  oe : r.1 ∈ endN → r.2.1 = 0
theorem jN_box {s : Str} (h : s ∈ jN) : s ∉ boxN ∧ s ≠ "switch" ∧ s ∉ endN := by
  simp only [jN, List.mem_cons, List.not_mem_nil, or_false] at h
  rcases h with rfl | rfl | rfl <;> decide
theorem sw_box {s : Str} (h : s = "switch") : s ∉ boxN ∧ s ∉ jN ∧ s ∉ endN := by
  subst h
  decide
theorem end_box {s : Str} (h : s ∈ endN) : s ∉ boxN ∧ s ∉ jN ∧ s ≠ "switch" := by
  simp only [endN, List.mem_cons, List.not_mem_nil, or_false] at h
  rcases h with rfl | rfl | rfl | rfl | rfl <;> decide
theorem all_cases {s : Str} (h : s ∈ allN) : s ∈ boxN ∨ s ∈ jN ∨ s = "switch" ∨ s ∈ endN := by
  unfold allN at h
  simp only [List.mem_append, List.mem_singleton] at h
  rcases h with ((h | h) | h) | h
  · exact .inl h
  · exact .inr (.inl h)
  · exact .inr (.inr (.inl h))
  · exact .inr (.inr (.inr h))
theorem h_ending : m_law_ending [] = some (.n (.list (endN.map .str)), []) := by
  refine wm_out ?_
  unfold m_law_ending
  walk_at "start"
  unfold b_law_ending
  repeat walk_at "go"
  exact ⟨rfl, rfl⟩
instance : Cal m_law_ending [] (.n (.list (endN.map .str))) [] := ⟨h_ending⟩
def namesL : List Str := ["load", "store", "add", "less", "say", "hear", "patch", "loadby", "storeby", "addby", "lessby", "sayby", "hearby", "patchby", "goby", "noughtby", "greatby", "go", "nought", "great", "switch", "stop", "norow", "beyond", "off", "lost"]
theorem h_names : m_law_names [] = some (.n (.list (namesL.map PyData.str)), []) := by
  rfl
instance : Cal m_law_names [] (.n (.list (namesL.map PyData.str))) [] := ⟨h_names⟩
theorem w_row {n nb nr nt : Int} {s : Str} {p : D} (hp : Pool n p) (hn : n < 1000000) (hs : s ∈ allN) (hb : 1 ≤ nb ∧ nb ≤ 99) (hr : 1 ≤ nr ∧ nr ≤ 2000) (ht : 0 ≤ nt ∧ nt ≤ 99) (hsw : s = "switch" → 1 ≤ nt) :
    Wm m_law_row [.io p, .fz (.str s), .fz (.int nb), .fz (.int nr), .fz (.int nt)] fun r out => ∃ (w : Row) (p' : D), r = .v (rowD w) ∧ out = [.io p', .fz (.str s), .fz (.int nb), .fz (.int nr), .fz (.int nt)] ∧ Pool (n + 2) p' ∧ RowOk nb nr nt w ∧ w.1 = s := by
  unfold m_law_row
  walk_at "start"
  unfold b_law_row
  by_cases h1 : s ∈ jN
  · haveI : Tru (s ∈ (["go", "nought", "great"] : List Str)) := ⟨h1⟩
    obtain ⟨q1, q2, q3⟩ := jN_box h1
    repeat walk_at "go"
    exact ⟨⟨s, _, _⟩, _, rfl, rfl, pool_mono (by assumption) (by omega), ⟨hs, by assumption, by assumption, by assumption, fun h => absurd h q1, fun _ => by assumption, fun h => absurd h q2, fun h => absurd h q3⟩, rfl⟩
  haveI : Fls (s ∈ (["go", "nought", "great"] : List Str)) := ⟨h1⟩
  by_cases h2 : s = "switch"
  · haveI : Tru (s = "switch") := ⟨h2⟩
    obtain ⟨q1, q2, q3⟩ := sw_box h2
    have h3 := hsw h2
    repeat walk_at "go"
    have hlt : (d : Int) → (d < if nt > 1 then nt else 1) → d < nt := fun d h => by split at h <;> omega
    exact ⟨⟨s, _, _⟩, _, rfl, rfl, pool_mono (by assumption) (by omega), ⟨hs, by assumption, by assumption, by assumption, fun h => absurd h q1, fun h => absurd h q2, fun _ => hlt _ (by assumption), fun h => absurd h q3⟩, rfl⟩
  haveI : Fls (s = "switch") := ⟨h2⟩
  by_cases h3 : s ∈ endN
  · haveI : Tru (s ∈ endN) := ⟨h3⟩
    obtain ⟨q1, q2, q3⟩ := end_box h3
    repeat walk_at "go"
    exact ⟨⟨s, _, _⟩, _, rfl, rfl, pool_mono (by assumption) (by omega), ⟨hs, by assumption, by assumption, by simp, fun h => absurd h q1, fun h => absurd h q2, fun h => absurd h q3, fun h => rfl⟩, rfl⟩
  · haveI : Fls (s ∈ endN) := ⟨h3⟩
    repeat walk_at "go"
    exact ⟨⟨s, _, _⟩, _, rfl, rfl, pool_mono (by assumption) (by omega), ⟨hs, by assumption, by assumption, by assumption, fun _ => by assumption, fun h => absurd h h1, fun h => absurd h h2, fun h => absurd h h3⟩, rfl⟩
theorem row_step {n nb nr nt : Int} {s : Str} {p : D} {Q : R → List Cel → Prop} (hp : Pool n p) (hn : n < 1000000) (hs : s ∈ allN) (hb : 1 ≤ nb ∧ nb ≤ 99) (hr : 1 ≤ nr ∧ nr ≤ 2000) (ht : 0 ≤ nt ∧ nt ≤ 99) (hsw : s = "switch" → 1 ≤ nt)
    (k : ∀ w p', Pool (n + 2) p' → RowOk nb nr nt w → w.1 = s → Q (.v (rowD w)) [.io p', .fz (.str s), .fz (.int nb), .fz (.int nr), .fz (.int nt)]) : Wm m_law_row [.io p, .fz (.str s), .fz (.int nb), .fz (.int nr), .fz (.int nt)] Q :=
  wm_mono (w_row hp hn hs hb hr ht hsw) fun r out h => by
    obtain ⟨w, p', rfl, rfl, h1, h2, h3⟩ := h
    exact k w p' h1 h2 h3
def ItR (nr : Int) (q : Int × Int) : Prop := 0 ≤ q.1 ∧ q.1 < 10100 ∧ 0 ≤ q.2 ∧ q.2 < nr
structure TabOk (nb nr : Int) (t : Tab) : Prop where
  b0 : 0 ≤ t.1
  b1 : t.1 < nb
  it : ∀ q ∈ t.2, ItR nr q
  up : (t.2.map (·.1)).Pairwise (· < ·)
  few : t.2.length ≤ 100
theorem sset_ok {ns : List Int} (h : ns.length ≤ 4000) : sortSetD [.list (ns.map .int)] = some (.n (.list ((setSort ns).map .int))) := by
  show (intsD _).bind (fun ns => if ns.length ≤ 4000 then some (R.n (.list ((setSort ns).map PyData.int))) else none) = _
  rw [intsD_map]
  exact if_pos h
theorem setSort_len : ∀ ns : List Int, (setSort ns).length ≤ ns.length
  | [] => Nat.le_refl _
  | n :: ns => by
    have h : ∀ l : List Int, (insS n l).length ≤ l.length + 1 := by
      intro l
      induction l with
      | nil => simp [insS]
      | cons m r ih =>
        unfold insS
        split
        · simp
        · split
          · simp
          · simp only [List.length_cons]; omega
    have := h (setSort ns)
    have := setSort_len ns
    show (insS n (setSort ns)).length ≤ _
    simp only [List.length_cons]
    omega
theorem map_get2 {α : Type} {f : α → D} {l : List α} {i : Nat} {d : D} (h : (l.map f)[i]? = some d) : ∃ x, l[i]? = some x ∧ d = f x := by
  rw [List.getElem?_map] at h
  cases q : l[i]? with
  | none => rw [q] at h; cases h
  | some x => rw [q] at h; cases h; exact ⟨x, rfl, rfl⟩
theorem w_table {n nr : Int} {ws : List Int} {p : D} (hp : Pool n p) (hn : n < 1000000) (hw : Wds ws) (hl : 1 ≤ ws.length) (hl2 : ws.length ≤ 99) (hr : 1 ≤ nr ∧ nr ≤ 2000) :
    Wm m_law_table [.io p, .fz (.tuple (ws.map .int)), .fz (.int nr)] fun r out => ∃ (t : Tab) (p' : D), r = .v (tabD t) ∧ out = [.io p', .fz (.tuple (ws.map .int)), .fz (.int nr)] ∧ Pool (n + 100) p' ∧ TabOk ws.length nr t := by
  have hml : (ws.map PyData.int).length = ws.length := List.length_map _
  unfold m_law_table
  walk_at "start"
  unfold b_law_table
  repeat walk_at "go"
  rename_i b q1 hq1 b0 b1 _ _ m q2 hq2 m0 m1 _ _
  have hm7 : m.toNat ≤ 6 := by omega
  have hlen : (rngD 0 m.toNat).length = m.toNat := rngD_len
  refine lk_ty [.i (fun i d => Pool (n + 2 + 3 * i) d), .k, .k, .k, .o (fun i d => ∃ ns : List Int, d = .list (ns.map .int) ∧ ns.length = i ∧ ∀ x ∈ ns, 0 ≤ x ∧ x < 10100), .f, .f, .f, .k, .k]
    (by refine inT_i (pool_mono hq2 (by omega)) (inT_k (inT_k (inT_k (inT_o ⟨[], rfl, rfl, by simp⟩ ?_)))); walk_at "inT") (fun i d hi => ?_) ?_
  · have hil : i < m.toNat := by rw [← hlen]; exact (List.getElem?_eq_some_iff.mp hi).1
    walk_at "allT"
    rintro q hq ds ⟨ns, rfl, hns, hb⟩ x5 x6 x7
    obtain ⟨rfl, _⟩ := rngD_get hi
    refine ⟨_, (by walk_at "set"), ?_⟩
    unfold b_law_table_1
    haveI : Tru (b < ((ws.map PyData.int).length : Int)) := ⟨b1⟩
    have hwb := hw _ (getD_mem (l := ws) (i := b.toNat) (d := 0) (by omega))
    repeat walk_at "gi"
    rename_i c q3 hq3 c0 c1 _ _ e q4 hq4 e0 e1 _ _ f q5 hq5 f0 f1 _ _ v hv
    have hwc := hw _ (getD_mem (l := ws) (i := c.toNat) (d := 0) (by omega))
    refine inT_i (pool_mono hq5 (by omega)) (inT_k (inT_k (inT_k (inT_o ⟨ns ++ [v], by rw [List.map_append]; rfl, by simp [hns], mem_snoc hb (by omega)⟩ ?_))))
    walk_at "inT"
  · rw [hlen]
    walk_at "allT"
    rintro q hq ds ⟨ns, rfl, hns, hb⟩ x5 x6 x7
    repeat walk_at "go"
    refine kb rfl (sset_ok (by omega)) ?_
    repeat walk_at "go"
    have hsl := setSort_len ns
    have hml2 : ((setSort ns).map PyData.int).length = (setSort ns).length := List.length_map _
    refine kl_inv (fun i acc e' => ∃ (q : D) (ps : List (Int × Int)), e' = [some (.io q), some (.fz (.tuple (ws.map .int))), some (.fz (.int nr)), some (.fz (.int b)), some (.ow (.list (ns.map .int))), fre x5, fre x6, fre x7, none, none] ∧ Pool (n + 40 + i) q ∧ acc = ps.map prD ∧ ps.map (·.1) = (setSort ns).take i ∧ ∀ p ∈ ps, 0 ≤ p.2 ∧ p.2 < nr) ⟨q, [], rfl, pool_mono hq (by omega), rfl, rfl, by simp⟩ (fun i d acc e' hi hI => ?_) fun acc e' hI => ?_
    · obtain ⟨q, ps, rfl, hq, rfl, hps, hpr⟩ := hI
      obtain ⟨x, hx, rfl⟩ := map_get2 hi
      have hil : i < (setSort ns).length := (List.getElem?_eq_some_iff.mp hx).1
      repeat walk_at "go"
      rename_i r q6 hq6 r0 r1 _ _
      refine ⟨q6, ps ++ [(x, r)], by walk_at "set", pool_mono hq6 (by omega), by rw [List.map_append]; rfl, ?_, mem_snoc hpr ⟨r0, r1⟩⟩
      rw [List.map_append, hps, List.take_succ_eq_append_getElem hil]
      rw [List.getElem?_eq_getElem hil] at hx
      cases hx
      rfl
    · obtain ⟨q, ps, rfl, hq, rfl, hps, hpr⟩ := hI
      rw [hml2] at hps hq
      rw [List.take_length] at hps
      have hpl : ps.length = (setSort ns).length := by rw [← hps, List.length_map]
      repeat walk_at "go"
      refine ⟨(b, ps), q, rfl, rfl, pool_mono hq (by omega), ⟨b0, by omega, fun z hz => ?_, by rw [hps]; exact setSort_up _, by simp only; omega⟩⟩
      have h1 := hpr z hz
      have h2 : z.1 ∈ setSort ns := by rw [← hps]; exact List.mem_map.mpr ⟨z, hz, rfl⟩
      have h3 := hb _ (mem_setSort.mp h2)
      exact ⟨h3.1, h3.2, h1.1, h1.2⟩
theorem table_step {n nr : Int} {ws : List Int} {p : D} {Q : R → List Cel → Prop} (hp : Pool n p) (hn : n < 1000000) (hw : Wds ws) (hl : 1 ≤ ws.length) (hl2 : ws.length ≤ 99) (hr : 1 ≤ nr ∧ nr ≤ 2000)
    (k : ∀ t p', Pool (n + 100) p' → TabOk ws.length nr t → Q (.v (tabD t)) [.io p', .fz (.tuple (ws.map .int)), .fz (.int nr)]) : Wm m_law_table [.io p, .fz (.tuple (ws.map .int)), .fz (.int nr)] Q :=
  wm_mono (w_table hp hn hw hl hl2 hr) fun r out h => by
    obtain ⟨t, p', rfl, rfl, h1, h2⟩ := h
    exact k t p' h1 h2
structure Pg where
  rows : List Row
  tabs : List Tab
  doors : List (Option Int)
  boxes : List Int
def Pg.d (P : Pg) : D := .tuple [.tuple (P.rows.map rowD), .tuple (P.tabs.map tabD), .tuple (P.doors.map doorD), .tuple (P.boxes.map .int)]
def DoorOk (nr : Int) (o : Option Int) : Prop := ∀ i, o = some i → 0 ≤ i ∧ i < nr
def lastN : List Str := ["go", "goby", "switch", "stop", "norow", "beyond", "off", "lost"]
structure PgOk (P : Pg) : Prop where
  b1 : 1 ≤ P.boxes.length
  b2 : P.boxes.length ≤ 99
  bw : Wds P.boxes
  r1 : 1 ≤ P.rows.length
  r2 : P.rows.length ≤ 2000
  rw : ∀ r ∈ P.rows, RowOk P.boxes.length P.rows.length P.tabs.length r
  rl : ∃ rs r, P.rows = rs ++ [r] ∧ r.1 ∈ lastN
  t2 : P.tabs.length ≤ 99
  tw : ∀ t ∈ P.tabs, TabOk P.boxes.length P.rows.length t
  dl : P.doors.length = P.boxes.length
  dw : ∀ o ∈ P.doors, DoorOk P.rows.length o
local macro_rules | `(tactic| walk_at "call") => `(tactic| ((with_reducible apply row_step); assumption; omega; (first | assumption | decide); omega; omega; omega; (first | assumption | (intro h; exact absurd h (by decide))); intro w p' hp hw hws; refine ⟨_, (by walk_at "set"), ?_⟩))
local macro_rules | `(tactic| walk_at "call") => `(tactic| ((with_reducible apply table_step); assumption; omega; assumption; omega; omega; omega; intro t p' hp ht; refine ⟨_, (by walk_at "set"), ?_⟩))
/-- names to draw from -/
def NmsOk (ss : List Str) : Prop := ss ≠ [] ∧ ss.length ≤ 100 ∧ ∀ s ∈ ss, s ∈ allN
theorem w_program {n : Int} {ss : List Str} {p : D} (hp : Pool n p) (hn : n < 100000) (hss : NmsOk ss) :
    Wm m_law_program [.io p, .fz (.list (ss.map .str))] fun r out => ∃ (P : Pg) (p' : D), r = .v P.d ∧ out = [.io p', .fz (.list (ss.map .str))] ∧ Pool (n + 5000) p' ∧ PgOk P ∧ P.rows.length ≤ 30 := by
  have hsl : 0 < ss.length := List.length_pos_iff.mpr hss.1
  have hsl2 := hss.2.1
  have hml : (ss.map PyData.str).length = ss.length := List.length_map _
  unfold m_law_program
  walk_at "start"
  unfold b_law_program
  repeat walk_at "gi"
  rename_i nb hnb _ _ _ _ _ _ _ nr hnr nt q0 hq0 nt0 nt1 _ _ ws q1 hq1 hws hwl
  have hlen : (rngD 0 (nr - 1).toNat).length = (nr - 1).toNat := rngD_len
  refine lk_ty [.i (fun i d => Pool (n + 1000 + 5 * i) d), .k, .k, .k, .k, .k, .o (fun i d => ∃ rs : List Row, d = .list (rs.map rowD) ∧ rs.length = i ∧ ∀ r ∈ rs, RowOk nb nr nt r), .f, .f, .k, .k, .k]
    (by refine inT_i (pool_mono hq1 (by omega)) (inT_k (inT_k (inT_k (inT_k (inT_k (inT_o ⟨[], rfl, rfl, by simp⟩ ?_)))))); walk_at "inT") (fun i d hi => ?_) ?_
  · have hil : i < (nr - 1).toNat := by rw [← hlen]; exact (List.getElem?_eq_some_iff.mp hi).1
    walk_at "allT"
    rintro q hq ds ⟨rs, rfl, hrs, hrw⟩ x7 x8
    refine ⟨_, (by walk_at "set"), ?_⟩
    unfold b_law_program_1
    have hrl : (rs.map rowD).length = rs.length := List.length_map _
    have fin : ∀ (e7 e8 : Option (D × Bool)) (w : Row) (q : D), Pool (n + 1000 + 5 * i + 5) q → RowOk nb nr nt w → InT (i + 1) [.i (fun i d => Pool (n + 1000 + 5 * i) d), .k, .k, .k, .k, .k, .o (fun i d => ∃ rs : List Row, d = .list (rs.map rowD) ∧ rs.length = i ∧ ∀ r ∈ rs, RowOk nb nr nt r), .f, .f, .k, .k, .k]
        [some (Cel.io q1), some (Cel.fz (PyData.list (List.map PyData.str ss))), some (Cel.fz (PyData.int nb)), some (Cel.fz (PyData.int nr)), some (Cel.fz (PyData.int nt)), some (Cel.fz (PyData.tuple (List.map PyData.int ws))), some (Cel.ow (PyData.list [])), none, none, none, none, none]
        [some (Cel.io q), some (Cel.fz (PyData.list (List.map PyData.str ss))), some (Cel.fz (PyData.int nb)), some (Cel.fz (PyData.int nr)), some (Cel.fz (PyData.int nt)), some (Cel.fz (PyData.tuple (List.map PyData.int ws))), some (Cel.ow (PyData.list (rs.map rowD ++ [rowD w]))), fre e7, fre e8, none, none, none] := by
      intro e7 e8 w q hq hw
      refine inT_i (pool_mono hq (by omega)) (inT_k (inT_k (inT_k (inT_k (inT_k (inT_o ⟨rs ++ [w], by rw [List.map_append]; rfl, by simp [hrs], mem_snoc hrw hw⟩ ?_))))))
      walk_at "inT"
    repeat walk_at "go"
    rename_i c q2 hq2 c0 c1 _ _
    have hs : ss.getD c.toNat "" ∈ allN := hss.2.2 _ (getD_mem (by omega))
    generalize ss.getD c.toNat "" = s at hs
    by_cases h : s = "switch"
    · haveI : Tru (s = "switch") := ⟨h⟩
      by_cases h0 : nt = 0
      · haveI : Tru (nt = 0) := ⟨h0⟩
        repeat walk_at "go"
        exact fin (some (_, false)) (some (_, false)) _ _ (pool_mono (by assumption) (by omega)) (by assumption)
      · haveI : Fls (nt = 0) := ⟨h0⟩
        have hsw : s = "switch" → 1 ≤ nt := fun _ => by omega
        repeat walk_at "go"
        exact fin (some (_, false)) (some (_, false)) _ _ (pool_mono (by assumption) (by omega)) (by assumption)
    · haveI : Fls (s = "switch") := ⟨h⟩
      have hsw : s = "switch" → 1 ≤ nt := fun q => absurd q h
      repeat walk_at "go"
      exact fin (some (_, false)) (some (_, false)) _ _ (pool_mono (by assumption) (by omega)) (by assumption)
  · rw [hlen]
    walk_at "allT"
    rintro q hq ds ⟨rs, rfl, hrs, hrw⟩ x7 x8
    have hrl : (rs.map rowD).length = rs.length := List.length_map _
    obtain ⟨ls, hls, hl1, hl2⟩ : ∃ ls : List Str, List.take (2 + if decide (0 < nt) = true then (1 : Int) else 0).toNat [PyData.str "go", PyData.str "goby", PyData.str "switch"] = ls.map .str ∧ (∀ s ∈ endN ++ ls, s ∈ lastN ∧ s ∈ allN ∧ (s = "switch" → 1 ≤ nt)) ∧ ls.length ≤ 3 := by
      by_cases h : 0 < nt
      · refine ⟨["go", "goby", "switch"], by rw [decide_eq_true h]; rfl, fun s hs => ⟨?_, ?_, fun _ => by omega⟩, by decide⟩
        · simp only [endN, List.cons_append, List.nil_append, List.mem_cons, List.not_mem_nil, or_false] at hs
          rcases hs with rfl | rfl | rfl | rfl | rfl | rfl | rfl | rfl <;> decide
        · simp only [endN, List.cons_append, List.nil_append, List.mem_cons, List.not_mem_nil, or_false] at hs
          rcases hs with rfl | rfl | rfl | rfl | rfl | rfl | rfl | rfl <;> decide
      · refine ⟨["go", "goby"], by rw [decide_eq_false h]; rfl, fun s hs => ?_, by decide⟩
        simp only [endN, List.cons_append, List.nil_append, List.mem_cons, List.not_mem_nil, or_false] at hs
        rcases hs with rfl | rfl | rfl | rfl | rfl | rfl | rfl <;> exact ⟨by decide, by decide, fun q => absurd q (by decide)⟩
    repeat walk_at "go"
    rw [hls]
    have hel : (endN ++ ls).length ≤ 10 := by rw [List.length_append]; have : endN.length = 5 := rfl; omega
    have hel0 : 5 ≤ (endN ++ ls).length := by rw [List.length_append]; have : endN.length = 5 := rfl; omega
    refine k2 rfl rfl (cat_l (by rw [← List.length_append, ← List.map_append, List.length_map]; omega)) ?_
    rw [← List.map_append]
    have hml2 : ((endN ++ ls).map PyData.str).length = (endN ++ ls).length := List.length_map _
    generalize endN ++ ls = ll at *
    repeat walk_at "go"
    rename_i c q2 hq2 c0 c1 _ _
    obtain ⟨hs1, hs2, hs3⟩ := hl1 _ (getD_mem (l := ll) (i := c.toNat) (d := "") (by omega))
    generalize ll.getD c.toNat (Str.ofString "") = s at *
    repeat walk_at "go"
    rename_i w q3 hq3 hw hws2
    have hlen2 : (rngD 0 nb.toNat).length = nb.toNat := rngD_len
    have e1 : (rs.map rowD) ++ [rowD w] = (rs ++ [w]).map rowD := by rw [List.map_append]; rfl
    rw [e1]
    have hrw2 : ∀ r ∈ rs ++ [w], RowOk nb nr nt r := mem_snoc hrw hw
    have hrl2 : ((rs ++ [w]).length : Int) = nr := by rw [List.length_append, List.length_singleton]; omega
    have hlast : ∃ rs' r', rs ++ [w] = rs' ++ [r'] ∧ r'.1 ∈ lastN := ⟨rs, w, rfl, by rw [hws2]; exact hs1⟩
    generalize rs ++ [w] = rw at *
    have hqq3 : Pool (n + 1300) q3 := pool_mono hq3 (by omega)
    refine lk_ty [.i (fun i d => Pool (n + 1300 + 5 * i) d), .k, .k, .k, .k, .k, .k, .f, .k, .k, .o (fun i d => ∃ ds : List (Option Int), d = .list (ds.map doorD) ∧ ds.length = i ∧ ∀ o ∈ ds, DoorOk nr o), .k]
      (by refine inT_i (pool_mono hqq3 (by omega)) ?_; repeat first | exact inT_nil | refine inT_k ?_ | refine inT_none ?_ | refine inT_fz ?_ | refine inT_ow ?_ | refine inT_fre ?_ | refine inT_o ⟨[], rfl, rfl, by simp⟩ ?_) (fun i d hi => ?_) ?_
    · have hil : i < nb.toNat := by rw [← hlen2]; exact (List.getElem?_eq_some_iff.mp hi).1
      walk_at "allT"
      rintro q hq x7 ds ⟨os, rfl, hos, how⟩
      refine ⟨_, (by walk_at "set"), ?_⟩
      unfold b_law_program_2
      have hol : (os.map doorD).length = os.length := List.length_map _
      repeat walk_at "go"
      refine k2_ixA rfl rfl (by assumption) (by assumption) fun d hd => ?_
      rename_i a qa hqa a0 a1 _ _ b qb hqb b0 b1 _ _ m qm hqm m0 m1 _ _
      obtain ⟨o, rfl, ho⟩ : ∃ o, d = doorD o ∧ DoorOk nr o := by
        have hm : m.toNat = 0 ∨ m.toNat = 1 ∨ m.toNat = 2 := by omega
        rcases hm with h | h | h <;> (rw [h] at hd; cases hd)
        · exact ⟨none, rfl, fun _ e => by cases e⟩
        · exact ⟨some a, rfl, fun _ e => by cases e; exact ⟨a0, a1⟩⟩
        · exact ⟨some b, rfl, fun _ e => by cases e; exact ⟨b0, b1⟩⟩
      repeat walk_at "go"
      refine inT_i (pool_mono hqm (by omega)) (inT_k (inT_k (inT_k (inT_k (inT_k (inT_k (inT_fz (inT_k (inT_k (inT_o ⟨os ++ [o], by rw [List.map_append]; rfl, by simp [hos], mem_snoc how ho⟩ ?_))))))))))
      walk_at "inT"
    · rw [hlen2]
      walk_at "allT"
      rintro q hq x7 ds ⟨os, rfl, hos, how⟩
      repeat walk_at "go"
      have hlen3 : (rngD 0 nt.toNat).length = nt.toNat := rngD_len
      have hqq4 : Pool (n + 2000) q := pool_mono hq (by omega)
      refine kl_tyM [.i (fun i d => Pool (n + 2000 + 100 * i) d), .k, .k, .k, .k, .k, .k, .k, .k, .k, .k, .k] (fun d => ∃ t, d = tabD t ∧ TabOk ws.length nr t) (by refine inT_i (pool_mono hqq4 (by omega)) ?_; walk_at "inT") (fun i d hi => ?_) fun acc hl hT => ?_
      · have hil : i < nt.toNat := by rw [← hlen3]; exact (List.getElem?_eq_some_iff.mp hi).1
        walk_at "allT"
        intro q hq
        refine ⟨_, (by walk_at "set"), ?_⟩
        repeat walk_at "go"
        refine ⟨⟨_, rfl, by assumption⟩, ?_⟩
        refine inT_i (pool_mono (by assumption) (by omega)) ?_
        walk_at "inT"
      rw [hlen3] at hl ⊢
      obtain ⟨ts, rfl, hts⟩ := of_all hT
      rw [List.length_map] at hl
      walk_at "allT"
      intro q4 hq4
      repeat walk_at "go"
      have z1 : nb = (ws.length : Int) := by omega
      have z3 : nt = (ts.length : Int) := by omega
      subst z1 z3
      rw [← hrl2] at hrw2 how hts
      exact ⟨⟨rw, ts, os, ws⟩, _, rfl, rfl, pool_mono hq4 (by omega), ⟨by simp only; omega, by simp only; omega, hws, by simp only; omega, by simp only; omega, hrw2, hlast, by simp only; omega, hts, by simp only; omega, how⟩, by simp only; omega⟩
theorem program_step {n : Int} {ss : List Str} {p : D} {Q : R → List Cel → Prop} (hp : Pool n p) (hn : n < 100000) (hss : NmsOk ss) (k : ∀ P p', Pool (n + 5000) p' → PgOk P → P.rows.length ≤ 30 → Q (.v P.d) [.io p', .fz (.list (ss.map .str))]) : Wm m_law_program [.io p, .fz (.list (ss.map .str))] Q :=
  wm_mono (w_program hp hn hss) fun r out h => by
    obtain ⟨P, p', rfl, rfl, h1, h2, h3⟩ := h
    exact k P p' h1 h2 h3
def fromB (d : D) (lo hi : Int) : Bool := match d with
  | .int x => decide (lo ≤ x) && decide (x ≤ hi)
  | _ => false
def tupL : D → List D
  | .tuple ds => ds
  | _ => []
def tupB (d : D) (lo hi : Int) : Bool := match d with
  | .tuple ds => decide (lo ≤ (ds.length : Int)) && decide ((ds.length : Int) ≤ hi)
  | _ => false
theorem t_from (d : D) (lo hi : Int) : m_is_from [.fz d, .fz (.int lo), .fz (.int hi)] = some (.v (.bool (fromB d lo hi)), [.fz d, .fz (.int lo), .fz (.int hi)]) := by
  refine wm_out ?_
  unfold m_is_from
  walk_at "start"
  unfold b_is_from
  cases d with
  | int x =>
    by_cases h : lo ≤ x
    · haveI : Tru (lo ≤ x) := ⟨h⟩
      repeat walk_at "go"
      exact ⟨by simp [fromB, h], rfl⟩
    · haveI : Fls (lo ≤ x) := ⟨h⟩
      repeat walk_at "go"
      exact ⟨by simp [fromB, h], rfl⟩
  | _ =>
    repeat walk_at "go"
    exact ⟨rfl, rfl⟩
theorem t_tup (d : D) (lo hi : Int) : m_is_tuple_of [.fz d, .fz (.int lo), .fz (.int hi)] = some (.v (.bool (tupB d lo hi)), [.fz d, .fz (.int lo), .fz (.int hi)]) := by
  refine wm_out ?_
  unfold m_is_tuple_of
  walk_at "start"
  unfold b_is_tuple_of
  cases d with
  | tuple ds =>
    by_cases h : lo ≤ (ds.length : Int)
    · haveI : Tru (lo ≤ (ds.length : Int)) := ⟨h⟩
      repeat walk_at "go"
      exact ⟨by simp [tupB, h], rfl⟩
    · haveI : Fls (lo ≤ (ds.length : Int)) := ⟨h⟩
      repeat walk_at "go"
      exact ⟨by simp [tupB, h], rfl⟩
  | _ =>
    repeat walk_at "go"
    exact ⟨rfl, rfl⟩
instance {d : D} {lo hi : Int} : Cal m_is_from [.fz d, .fz (.int lo), .fz (.int hi)] (.v (.bool (fromB d lo hi))) [.fz d, .fz (.int lo), .fz (.int hi)] := ⟨t_from d lo hi⟩
class TupC (d : D) (lo hi : Int) (b : outParam Bool) : Prop where h : tupB d lo hi = b
instance {d : D} {lo hi : Int} {b : Bool} [q : TupC d lo hi b] : Cal m_is_tuple_of [.fz d, .fz (.int lo), .fz (.int hi)] (.v (.bool b)) [.fz d, .fz (.int lo), .fz (.int hi)] := ⟨by rw [← q.h]; exact t_tup d lo hi⟩
theorem tup_of {d : D} {lo hi : Int} (h : tupB d lo hi = true) : ∃ ds : List D, d = .tuple ds ∧ lo ≤ (ds.length : Int) ∧ (ds.length : Int) ≤ hi := by
  cases d with
  | tuple ds =>
    unfold tupB at h
    simp only [Bool.and_eq_true, decide_eq_true_eq] at h
    exact ⟨ds, rfl, h⟩
  | _ => cases h
def boxesB (d : D) : Bool := tupB d 1 99 && (tupL d).all fun w => fromB w 0 9999
theorem t_boxes (d : D) : m_are_boxes [.fz d] = some (.v (.bool (boxesB d)), [.fz d]) := by
  refine wm_out ?_
  unfold m_are_boxes
  walk_at "start"
  unfold b_are_boxes boxesB
  cases h : tupB d 1 99 with
  | false =>
    haveI : TupC d 1 99 false := ⟨h⟩
    repeat walk_at "go"
    exact ⟨rfl, rfl⟩
  | true =>
    haveI : TupC d 1 99 true := ⟨h⟩
    obtain ⟨ds, rfl, h1, h2⟩ := tup_of h
    repeat walk_at "go"
    rw [← List.map_id ds]
    refine kl_encM id (fun w => .bool (fromB w 0 9999)) (fun w hw => ?_) ?_
    · have := t_from w 0 9999
      simp only [id]
      walk_at "lcm"
    repeat walk_at "go"
    exact ⟨by simp [tupL], rfl⟩
def doorB (nr : Int) (d : D) : Bool := match d with
  | .none => true
  | d => fromB d 0 (nr - 1)
def doorsB (d : D) (nb nr : Int) : Bool := tupB d nb nb && (tupL d).all (doorB nr)
theorem t_doors (d : D) (nb nr : Int) : m_are_doors [.fz d, .fz (.int nb), .fz (.int nr)] = some (.v (.bool (doorsB d nb nr)), [.fz d, .fz (.int nb), .fz (.int nr)]) := by
  refine wm_out ?_
  unfold m_are_doors
  walk_at "start"
  unfold b_are_doors doorsB
  cases h : tupB d nb nb with
  | false =>
    haveI : TupC d nb nb false := ⟨h⟩
    repeat walk_at "go"
    exact ⟨rfl, rfl⟩
  | true =>
    haveI : TupC d nb nb true := ⟨h⟩
    obtain ⟨ds, rfl, h1, h2⟩ := tup_of h
    repeat walk_at "go"
    rw [← List.map_id ds]
    refine kl_encM id (fun w => .bool (doorB nr w)) (fun w hw => ?_) ?_
    · have := t_from w 0 (nr - 1)
      simp only [id]
      cases w with
      | none => apply lcm_mk; walk_at "set"; (with_reducible apply ev_orV (a := true) (b := true)); walk_at "ev"; (intro hq; cases hq); walk_at "set"; rfl; walk_at "set"
      | _ => walk_at "lcm"
    repeat walk_at "go"
    exact ⟨by simp [tupL], rfl⟩
def lB : List Str := ["load", "store", "add", "less", "say", "hear", "patch", "loadby", "storeby", "addby", "lessby", "sayby", "hearby", "patchby", "goby", "noughtby", "greatby"]
def rowB (d : D) (nb nt nr : Int) : Bool := match d with
  | .tuple [.str s, o, m] => fromB m 0 99 && (if s ∈ boxN then fromB o 0 (nb - 1) else if s ∈ jN then fromB o 0 (nr - 1) else if s = "switch" then fromB o 0 (nt - 1) else decide (s ∈ endN) && fromB o 0 0)
  | _ => false
class FromC (d : D) (lo hi : Int) (b : outParam Bool) : Prop where h : fromB d lo hi = b
instance (priority := high) {d : D} {lo hi : Int} {b : Bool} [q : FromC d lo hi b] : Cal m_is_from [.fz d, .fz (.int lo), .fz (.int hi)] (.v (.bool b)) [.fz d, .fz (.int lo), .fz (.int hi)] := ⟨by rw [← q.h]; exact t_from d lo hi⟩
theorem three {ds : List D} (h : ds.length = 3) : ∃ a b c, ds = [a, b, c] := by
  match ds, h with
  | [a, b, c], _ => exact ⟨a, b, c, rfl⟩
theorem two {ds : List D} (h : ds.length = 2) : ∃ a b, ds = [a, b] := by
  match ds, h with
  | [a, b], _ => exact ⟨a, b, rfl⟩
theorem four {ds : List D} (h : ds.length = 4) : ∃ a b c d, ds = [a, b, c, d] := by
  match ds, h with
  | [a, b, c, d], _ => exact ⟨a, b, c, d, rfl⟩
theorem row_no {d : D} {nb nt nr : Int} (h : tupB d 3 3 = false) : rowB d nb nt nr = false := by
  unfold rowB
  split
  · cases h
  · rfl
set_option maxHeartbeats 400000 in
theorem t_row (d : D) (nb nt nr : Int) : m_is_row [.fz d, .fz (.int nb), .fz (.int nt), .fz (.int nr)] = some (.v (.bool (rowB d nb nt nr)), [.fz d, .fz (.int nb), .fz (.int nt), .fz (.int nr)]) := by
  refine wm_out ?_
  unfold m_is_row
  walk_at "start"
  unfold b_is_row
  cases h : tupB d 3 3 with
  | false =>
    haveI : TupC d 3 3 false := ⟨h⟩
    rw [row_no h]
    repeat walk_at "go"
    exact ⟨rfl, rfl⟩
  | true =>
    haveI : TupC d 3 3 true := ⟨h⟩
    obtain ⟨ds, rfl, h1, h2⟩ := tup_of h
    obtain ⟨a, o, m, rfl⟩ := three (by omega : ds.length = 3)
    clear h h1 h2
    cases a with
    | str s =>
      unfold rowB
      cases hm : fromB m 0 99 with
      | false =>
        haveI : FromC m 0 99 false := ⟨hm⟩
        repeat walk_at "go"
        exact ⟨by simp [hm], rfl⟩
      | true =>
        haveI : FromC m 0 99 true := ⟨hm⟩
        simp only [Bool.true_and]
        by_cases q1 : s ∈ boxN
        · haveI : Tru (s ∈ (["load", "store", "add", "less", "say", "hear", "patch", "loadby", "storeby", "addby", "lessby", "sayby", "hearby", "patchby", "goby", "noughtby", "greatby"] : List Str)) := ⟨q1⟩
          rw [if_pos q1]
          repeat walk_at "go"
          exact ⟨by rw [hm, Bool.true_and], rfl⟩
        haveI : Fls (s ∈ (["load", "store", "add", "less", "say", "hear", "patch", "loadby", "storeby", "addby", "lessby", "sayby", "hearby", "patchby", "goby", "noughtby", "greatby"] : List Str)) := ⟨q1⟩
        rw [if_neg q1]
        by_cases q2 : s ∈ jN
        · haveI : Tru (s ∈ (["go", "nought", "great"] : List Str)) := ⟨q2⟩
          rw [if_pos q2]
          repeat walk_at "go"
          exact ⟨by rw [hm, Bool.true_and], rfl⟩
        haveI : Fls (s ∈ (["go", "nought", "great"] : List Str)) := ⟨q2⟩
        rw [if_neg q2]
        by_cases q3 : s = "switch"
        · haveI : Tru (s = "switch") := ⟨q3⟩
          rw [if_pos q3]
          repeat walk_at "go"
          exact ⟨by rw [hm, Bool.true_and], rfl⟩
        haveI : Fls (s = "switch") := ⟨q3⟩
        rw [if_neg q3]
        by_cases q4 : s ∈ endN
        · haveI : Tru (s ∈ (["stop", "norow", "beyond", "off", "lost"] : List Str)) := ⟨q4⟩
          repeat walk_at "go"
          exact ⟨by simp [q4, hm], rfl⟩
        · haveI : Fls (s ∈ (["stop", "norow", "beyond", "off", "lost"] : List Str)) := ⟨q4⟩
          repeat walk_at "go"
          exact ⟨by simp [q4, hm], rfl⟩
    | _ =>
      repeat walk_at "go"
      exact ⟨rfl, rfl⟩
def prB (nr a : Int) (p : D) : Bool := match p with
  | .tuple [i, r] => fromB i (a + 1) 10099 && fromB r 0 (nr - 1)
  | _ => false
def prI : D → Int
  | .tuple [.int i, _] => i
  | _ => 0
def prsB (nr : Int) : Int → List D → Bool
  | _, [] => true
  | a, p :: ps => prB nr a p && prsB nr (prI p) ps
def tabB (d : D) (nb nr : Int) : Bool := match d with
  | .tuple [b, .tuple ps] => fromB b 0 (nb - 1) && prsB nr (-1) ps
  | _ => false
theorem tab_no {d : D} {nb nr : Int} (h : tupB d 2 2 = false) : tabB d nb nr = false := by
  unfold tabB
  split
  · cases h
  · rfl
theorem pr_no {d : D} {nr a : Int} (h : tupB d 2 2 = false) : prB nr a d = false := by
  unfold prB
  split
  · cases h
  · rfl
theorem from_int {d : D} {lo hi : Int} (h : fromB d lo hi = true) : ∃ i : Int, d = .int i := by
  cases d with
  | int i => exact ⟨i, rfl⟩
  | _ => cases h
set_option maxHeartbeats 400000 in
theorem t_table (d : D) (nb nr : Int) : m_is_table [.fz d, .fz (.int nb), .fz (.int nr)] = some (.v (.bool (tabB d nb nr)), [.fz d, .fz (.int nb), .fz (.int nr)]) := by
  refine wm_out ?_
  unfold m_is_table
  walk_at "start"
  unfold b_is_table
  cases h : tupB d 2 2 with
  | false =>
    haveI : TupC d 2 2 false := ⟨h⟩
    rw [tab_no h]
    repeat walk_at "go"
    exact ⟨rfl, rfl⟩
  | true =>
    haveI : TupC d 2 2 true := ⟨h⟩
    obtain ⟨ds, rfl, h1, h2⟩ := tup_of h
    obtain ⟨b, t, rfl⟩ := two (by omega : ds.length = 2)
    clear h h1 h2
    cases hm : fromB b 0 (nb - 1) with
    | false =>
      haveI : FromC b 0 (nb - 1) false := ⟨hm⟩
      have hz : tabB (.tuple [b, t]) nb nr = false := by
        cases t <;> first | rfl | simp [tabB, hm]
      rw [hz]
      repeat walk_at "go"
      exact ⟨rfl, rfl⟩
    | true =>
      haveI : FromC b 0 (nb - 1) true := ⟨hm⟩
      cases t with
      | tuple ps =>
        unfold tabB
        simp only [hm, Bool.true_and]
        repeat walk_at "go"
        refine lk_inv (fun i e' => ∃ (a : Int) (y4 : Option (D × Bool)), e' = [some (.fz (.tuple [b, .tuple ps])), some (.fz (.int nb)), some (.fz (.int nr)), some (.fz (.int a)), fre y4] ∧ prsB nr a (ps.drop i) = prsB nr (-1) ps) ⟨-1, none, rfl, rfl⟩ (fun i d e' hi hI => ?_) fun e' hI => ?_
        · obtain ⟨a, y4, rfl, hI⟩ := hI
          have hil := (List.getElem?_eq_some_iff.mp hi).1
          have hdr : ps.drop i = d :: ps.drop (i + 1) := by
            rw [List.drop_eq_getElem_cons hil]
            rw [List.getElem?_eq_getElem hil] at hi
            cases hi
            rfl
          rw [hdr, prsB] at hI
          refine ⟨_, (by walk_at "set"), ?_⟩
          unfold b_is_table_1
          cases g : tupB d 2 2 with
          | false =>
            haveI : TupC d 2 2 false := ⟨g⟩
            rw [pr_no g, Bool.false_and] at hI
            repeat walk_at "go"
            exact ⟨by rw [hI], rfl⟩
          | true =>
            haveI : TupC d 2 2 true := ⟨g⟩
            obtain ⟨ds, rfl, h1, h2⟩ := tup_of g
            obtain ⟨u, v, rfl⟩ := two (by omega : ds.length = 2)
            clear g h1 h2
            cases g1 : fromB u (a + 1) 10099 with
            | false =>
              haveI : FromC u (a + 1) 10099 false := ⟨g1⟩
              simp only [prB, g1, Bool.false_and] at hI
              repeat walk_at "go"
              exact ⟨by rw [hI], rfl⟩
            | true =>
              haveI : FromC u (a + 1) 10099 true := ⟨g1⟩
              cases g2 : fromB v 0 (nr - 1) with
              | false =>
                haveI : FromC v 0 (nr - 1) false := ⟨g2⟩
                simp only [prB, g1, g2, Bool.false_and, Bool.and_false] at hI
                repeat walk_at "go"
                exact ⟨by rw [hI], rfl⟩
              | true =>
                haveI : FromC v 0 (nr - 1) true := ⟨g2⟩
                obtain ⟨i, rfl⟩ := from_int g1
                simp only [prB, g1, g2, Bool.true_and] at hI
                repeat walk_at "go"
                exact ⟨i, some (_, false), rfl, hI⟩
        · obtain ⟨a, y4, rfl, hI⟩ := hI
          rw [List.drop_length, prsB] at hI
          repeat walk_at "go"
          exact ⟨by rw [hI], rfl⟩
      | _ =>
        repeat walk_at "go"
        exact ⟨rfl, rfl⟩

def lastB (d : D) : Bool := match d with
  | .tuple (.str s :: _) => decide (s ∈ lastN)
  | _ => false
def stillB (d : D) : Bool := match d with
  | .tuple [rows, tabs, doors, boxes] =>
    tupB rows 1 2000 && (tupB tabs 0 99 && (boxesB boxes && (((tupL rows).all fun r => rowB r (tupL boxes).length (tupL tabs).length (tupL rows).length) && (((tupL rows).getLast?.map lastB).getD false &&
      (doorsB doors (tupL boxes).length (tupL rows).length && (tupL tabs).all fun t => tabB t (tupL boxes).length (tupL rows).length)))))
  | _ => false
class BoxC (d : D) (b : outParam Bool) : Prop where h : boxesB d = b
instance {d : D} {b : Bool} [q : BoxC d b] : Cal m_are_boxes [.fz d] (.v (.bool b)) [.fz d] := ⟨by rw [← q.h]; exact t_boxes d⟩
class DrC (d : D) (nb nr : Int) (b : outParam Bool) : Prop where h : doorsB d nb nr = b
instance {d : D} {nb nr : Int} {b : Bool} [q : DrC d nb nr b] : Cal m_are_doors [.fz d, .fz (.int nb), .fz (.int nr)] (.v (.bool b)) [.fz d, .fz (.int nb), .fz (.int nr)] := ⟨by rw [← q.h]; exact t_doors d nb nr⟩
theorem still_no {d : D} (h : tupB d 4 4 = false) : stillB d = false := by
  unfold stillB
  split
  · cases h
  · rfl
theorem row_str {d : D} {nb nt nr : Int} (h : rowB d nb nt nr = true) : ∃ (s : Str) (o m : D), d = .tuple [.str s, o, m] := by
  unfold rowB at h
  split at h
  · exact ⟨_, _, _, rfl⟩
  · cases h
theorem ix_lastTT {ds : List D} {d : D} : ixD (.tuple (ds ++ [d])) (.int (-1)) = some (.v d) := by
  show (atI _ (-1)).map R.v = _
  unfold atI ixN
  rw [if_neg (by omega), if_pos (by simp; omega)]
  have e : (-1 + ((ds ++ [d]).length : Int)).toNat = ds.length := by simp; omega
  show ((ds ++ [d])[(-1 + ((ds ++ [d]).length : Int)).toNat]?).map R.v = _
  rw [e, List.getElem?_append_right (Nat.le_refl _)]
  simp
theorem kl_idM {vs : List Nat} {g1 : D → En → Option En} {fe : M R} {e : En} {ds : List D} {Q : R → En → Prop} (F : D → D)
    (ht : ∀ x ∈ ds, ∃ e1, g1 x (wipeE e vs) = some e1 ∧ (∃ r d, Ev fe e1 r ∧ frz r e1 = some (d, e1) ∧ d = F x) ∧ back e e1 vs = e)
    (k : Q (.n (.list (ds.map F))) e) : Kl vs g1 yesT fe ds e Q := by
  have := kl_encM (g1 := g1) (fe := fe) (e := e) (as := ds) (Q := Q) id F ht k
  rwa [List.map_id] at this
set_option maxHeartbeats 400000 in
theorem t_still (d : D) : m_is_still [.fz d] = some (.v (.bool (stillB d)), [.fz d]) := by
  refine wm_out ?_
  unfold m_is_still
  walk_at "start"
  unfold b_is_still
  cases h : tupB d 4 4 with
  | false =>
    haveI : TupC d 4 4 false := ⟨h⟩
    rw [still_no h]
    repeat walk_at "go"
    exact ⟨rfl, rfl⟩
  | true =>
    haveI : TupC d 4 4 true := ⟨h⟩
    obtain ⟨ds, rfl, h1, h2⟩ := tup_of h
    obtain ⟨rows, tabs, doors, boxes, rfl⟩ := four (by omega : ds.length = 4)
    clear h h1 h2
    unfold stillB
    simp only
    cases hr : tupB rows 1 2000 with
    | false =>
      haveI : TupC rows 1 2000 false := ⟨hr⟩
      repeat walk_at "go"
      exact ⟨by simp, rfl⟩
    | true =>
    haveI : TupC rows 1 2000 true := ⟨hr⟩
    cases ht : tupB tabs 0 99 with
    | false =>
      haveI : TupC tabs 0 99 false := ⟨ht⟩
      repeat walk_at "go"
      exact ⟨by simp, rfl⟩
    | true =>
    haveI : TupC tabs 0 99 true := ⟨ht⟩
    cases hb : boxesB boxes with
    | false =>
      haveI : BoxC boxes false := ⟨hb⟩
      repeat walk_at "go"
      exact ⟨by simp, rfl⟩
    | true =>
    haveI : BoxC boxes true := ⟨hb⟩
    obtain ⟨rs, rfl, hr1, hr2⟩ := tup_of hr
    obtain ⟨ts, rfl, ht1, ht2⟩ := tup_of ht
    have hb' := hb
    unfold boxesB at hb'
    rw [Bool.and_eq_true] at hb'
    obtain ⟨bs, rfl, hb1, hb2⟩ := tup_of hb'.1
    clear hb'
    simp only [tupL, Bool.true_and]
    repeat walk_at "go"
    refine kl_idM (fun r => .bool (rowB r bs.length ts.length rs.length)) (fun r hr => ?_) ?_
    · have := t_row r (bs.length : Int) (ts.length : Int) (rs.length : Int)
      walk_at "lcm"
    repeat walk_at "go"
    cases hrr : rs.all fun r => rowB r bs.length ts.length rs.length with
    | false =>
      repeat walk_at "go"
      exact ⟨by simp, rfl⟩
    | true =>
    obtain ⟨r0, z, rfl⟩ : ∃ r0 z, rs = r0 ++ [z] := ⟨rs.dropLast, rs.getLast (by intro e; rw [e] at hr1; simp at hr1), (List.dropLast_concat_getLast _).symm⟩
    obtain ⟨s, o, m, rfl⟩ := row_str (List.all_eq_true.mp hrr z (by simp))
    simp only [List.getLast?_append, List.getLast?_singleton, Option.some_or, Option.map_some, Option.getD_some, lastB, Bool.true_and]
    repeat walk_at "go"
    refine k2 rfl rfl ix_lastTT ?_
    by_cases hl : s ∈ lastN
    · haveI : Tru (s ∈ (["go", "goby", "switch", "stop", "norow", "beyond", "off", "lost"] : List Str)) := ⟨hl⟩
      cases hdr : doorsB doors (bs.length : Int) ((r0 ++ [PyData.tuple [.str s, o, m]]).length : Int) with
      | false =>
        haveI : DrC doors (bs.length : Int) ((r0 ++ [PyData.tuple [.str s, o, m]]).length : Int) false := ⟨hdr⟩
        repeat walk_at "go"
        exact ⟨by simp, rfl⟩
      | true =>
        haveI : DrC doors (bs.length : Int) ((r0 ++ [PyData.tuple [.str s, o, m]]).length : Int) true := ⟨hdr⟩
        repeat walk_at "go"
        refine kl_idM (fun t => .bool (tabB t bs.length (r0 ++ [PyData.tuple [.str s, o, m]]).length)) (fun t ht => ?_) ?_
        · have := t_table t (bs.length : Int) ((r0 ++ [PyData.tuple [.str s, o, m]]).length : Int)
          walk_at "lcm"
        repeat walk_at "go"
        exact ⟨by simp [hl], rfl⟩
    · haveI : Fls (s ∈ (["go", "goby", "switch", "stop", "norow", "beyond", "off", "lost"] : List Str)) := ⟨hl⟩
      repeat walk_at "go"
      exact ⟨by simp [hl], rfl⟩
theorem bnd_rows {n : Nat} : stillB (.tuple [.tuple (List.replicate n (.tuple [.str "stop", .int 0, .int 99])), .tuple [], .tuple [.none], .tuple [.int 0]]) = (decide (1 ≤ (n : Int)) && decide ((n : Int) ≤ 2000)) := by
  show (tupB (.tuple (List.replicate n (.tuple [.str "stop", .int 0, .int 99]))) 1 2000 && _) = _
  rw [show tupB (.tuple (List.replicate n (.tuple [.str "stop", .int 0, .int 99]))) 1 2000 = (decide (1 ≤ (n : Int)) && decide ((n : Int) ≤ 2000)) by simp only [tupB, List.length_replicate]]
  cases h : (decide (1 ≤ (n : Int)) && decide ((n : Int) ≤ 2000)) with
  | false => rfl
  | true =>
    simp only [Bool.and_eq_true, decide_eq_true_eq] at h
    simp only [Bool.true_and, tupL, List.length_replicate]
    obtain ⟨m, rfl⟩ : ∃ m, n = m + 1 := ⟨n - 1, by omega⟩
    rw [show (List.replicate (m + 1) (PyData.tuple [.str "stop", .int 0, .int 99])).getLast? = some (.tuple [.str "stop", .int 0, .int 99]) by rw [List.getLast?_replicate]; simp]
    have hrow : rowB (.tuple [.str "stop", .int 0, .int 99]) 1 0 (m + 1 : Nat) = true := by
      show (fromB (.int 99) 0 99 && (if ("stop" : Str) ∈ boxN then fromB (.int 0) 0 (1 - 1) else if ("stop" : Str) ∈ jN then fromB (.int 0) 0 (((m + 1 : Nat) : Int) - 1) else if ("stop" : Str) = "switch" then fromB (.int 0) 0 (0 - 1) else decide (("stop" : Str) ∈ endN) && fromB (.int 0) 0 0)) = true
      rw [if_neg (by decide), if_neg (by decide), if_neg (by decide)]
      decide
    have hall : ((List.replicate (m + 1) (PyData.tuple [.str "stop", .int 0, .int 99])).all fun r => rowB r 1 0 (m + 1 : Nat)) = true := by
      rw [List.all_eq_true]
      intro x hx
      rw [List.eq_of_mem_replicate hx]
      exact hrow
    simp only [List.length_cons, List.length_nil]
    have hall2 : ((List.replicate (m + 1) (PyData.tuple [.str "stop", .int 0, .int 99])).all fun r => rowB r ((0 + 1 : Nat) : Int) ((0 : Nat) : Int) (m + 1 : Nat)) = true := hall
    rw [hall2]
    rfl
theorem bnd_tabs {n : Nat} : stillB (.tuple [.tuple [.tuple [.str "stop", .int 0, .int 99]], .tuple (List.replicate n (.tuple [.int 0, .tuple []])), .tuple [.none], .tuple [.int 0]]) = decide ((n : Int) ≤ 99) := by
  show (tupB (.tuple [.tuple [.str "stop", .int 0, .int 99]]) 1 2000 && (tupB (.tuple (List.replicate n (.tuple [.int 0, .tuple []]))) 0 99 && _)) = _
  rw [show tupB (.tuple (List.replicate n (.tuple [.int 0, .tuple []]))) 0 99 = decide ((n : Int) ≤ 99) by simp only [tupB, List.length_replicate]; simp]
  cases h : decide ((n : Int) ≤ 99) with
  | false => simp
  | true =>
    simp only [Bool.true_and, tupL, List.length_replicate]
    have hrow : rowB (.tuple [.str "stop", .int 0, .int 99]) 1 n 1 = true := by
      show (fromB (.int 99) 0 99 && (if ("stop" : Str) ∈ boxN then fromB (.int 0) 0 (1 - 1) else if ("stop" : Str) ∈ jN then fromB (.int 0) 0 (1 - 1) else if ("stop" : Str) = "switch" then fromB (.int 0) 0 ((n : Int) - 1) else decide (("stop" : Str) ∈ endN) && fromB (.int 0) 0 0)) = true
      rw [if_neg (by decide), if_neg (by decide), if_neg (by decide)]
      decide
    have hall : ((List.replicate n (PyData.tuple [.int 0, .tuple []])).all fun t => tabB t ((0 + 1 : Nat) : Int) ((0 + 1 : Nat) : Int)) = true := by
      rw [List.all_eq_true]
      intro x hx
      rw [List.eq_of_mem_replicate hx]
      rfl
    have hall2 : ([PyData.tuple [.str "stop", .int 0, .int 99]].all fun r => rowB r ((0 + 1 : Nat) : Int) (n : Int) ((0 + 1 : Nat) : Int)) = true := by
      show (rowB _ 1 n 1 && true) = true
      rw [hrow]
      rfl
    simp only [List.length_cons, List.length_nil]
    rw [hall, hall2]
    rfl
theorem bnd_boxes {n : Nat} (h1 : 1 ≤ n) : stillB (.tuple [.tuple [.tuple [.str "stop", .int 0, .int 99]], .tuple [], .tuple (List.replicate n (.int 0)), .tuple (List.replicate n (.int 9999))]) = decide ((n : Int) ≤ 99) := by
  have hb : boxesB (.tuple (List.replicate n (.int 9999))) = decide ((n : Int) ≤ 99) := by
    unfold boxesB
    rw [show (tupL (.tuple (List.replicate n (PyData.int 9999)))).all (fun w => fromB w 0 9999) = true by
      rw [List.all_eq_true]
      intro x hx
      rw [List.eq_of_mem_replicate (show x ∈ List.replicate n (PyData.int 9999) from hx)]
      rfl]
    simp only [tupB, List.length_replicate, Bool.and_true]
    rw [decide_eq_true (show (1 : Int) ≤ (n : Int) by omega), Bool.true_and]
  show (true && (true && (boxesB (.tuple (List.replicate n (.int 9999))) && _))) = _
  rw [hb]
  cases h : decide ((n : Int) ≤ 99) with
  | false => rfl
  | true =>
    have hrow : rowB (.tuple [.str "stop", .int 0, .int 99]) n 0 1 = true := by
      show (fromB (.int 99) 0 99 && (if ("stop" : Str) ∈ boxN then fromB (.int 0) 0 ((n : Int) - 1) else if ("stop" : Str) ∈ jN then fromB (.int 0) 0 (1 - 1) else if ("stop" : Str) = "switch" then fromB (.int 0) 0 (0 - 1) else decide (("stop" : Str) ∈ endN) && fromB (.int 0) 0 0)) = true
      rw [if_neg (by decide), if_neg (by decide), if_neg (by decide)]
      decide
    have hall2 : ([PyData.tuple [.str "stop", .int 0, .int 99]].all fun r => rowB r (n : Int) ((0 : Nat) : Int) ((0 + 1 : Nat) : Int)) = true := by
      show (rowB _ n 0 1 && true) = true
      rw [hrow]
      rfl
    have hd : doorsB (.tuple (List.replicate n (.int 0))) (n : Int) ((0 + 1 : Nat) : Int) = true := by
      unfold doorsB
      rw [show (tupL (.tuple (List.replicate n (PyData.int 0)))).all (doorB ((0 + 1 : Nat) : Int)) = true by
        rw [List.all_eq_true]
        intro x hx
        rw [List.eq_of_mem_replicate (show x ∈ List.replicate n (PyData.int 0) from hx)]
        rfl]
      simp only [tupB, List.length_replicate, Bool.and_true]
      simp
    simp only [Bool.true_and, tupL, List.length_replicate, List.length_cons, List.length_nil]
    rw [hall2, hd]
    rfl
instance {d : D} : Cal m_is_still [.fz d] (.v (.bool (stillB d))) [.fz d] := ⟨t_still d⟩
theorem h_bounds : m_law_bounds_right [] = some (.v (.bool true), []) := by
  refine wm_out ?_
  unfold m_law_bounds_right
  walk_at "start"
  unfold b_law_bounds_right
  repeat walk_at "go"
  refine lk_cons (by walk_at "set") ?_
  unfold b_law_bounds_right_1
  repeat walk_at "go"
  refine lk_cons (by walk_at "set") ?_
  repeat walk_at "go"
  refine lk_cons (by walk_at "set") ?_
  unfold b_law_bounds_right_2
  repeat walk_at "go"
  refine lk_cons (by walk_at "set") ?_
  repeat walk_at "go"
  exact ⟨rfl, rfl⟩
theorem t_within (d : D) (lo hi : Int) : m_law_within [.fz d, .fz (.int lo), .fz (.int hi)] = some (.v (.bool (fromB d lo hi)), [.fz d, .fz (.int lo), .fz (.int hi)]) := by
  refine wm_out ?_
  unfold m_law_within
  walk_at "start"
  unfold b_law_within
  cases d with
  | int x =>
    by_cases h : lo ≤ x
    · haveI : Tru (lo ≤ x) := ⟨h⟩
      repeat walk_at "go"
      exact ⟨by simp [fromB, h], rfl⟩
    · haveI : Fls (lo ≤ x) := ⟨h⟩
      repeat walk_at "go"
      exact ⟨by simp [fromB, h], rfl⟩
  | _ =>
    repeat walk_at "go"
    exact ⟨rfl, rfl⟩
instance {d : D} {lo hi : Int} : Cal m_law_within [.fz d, .fz (.int lo), .fz (.int hi)] (.v (.bool (fromB d lo hi))) [.fz d, .fz (.int lo), .fz (.int hi)] := ⟨t_within d lo hi⟩
instance (priority := high) {d : D} {lo hi : Int} {b : Bool} [q : FromC d lo hi b] : Cal m_law_within [.fz d, .fz (.int lo), .fz (.int hi)] (.v (.bool b)) [.fz d, .fz (.int lo), .fz (.int hi)] := ⟨by rw [← q.h]; exact t_within d lo hi⟩
set_option maxHeartbeats 400000 in
theorem t_row_good (d : D) (nb nt nr : Int) : m_law_row_good [.fz d, .fz (.int nb), .fz (.int nt), .fz (.int nr)] = some (.v (.bool (rowB d nb nt nr)), [.fz d, .fz (.int nb), .fz (.int nt), .fz (.int nr)]) := by
  refine wm_out ?_
  unfold m_law_row_good
  walk_at "start"
  unfold b_law_row_good
  cases d with
  | tuple ds =>
    by_cases hl : (ds.length : Int) = 3
    · haveI : Tru ((ds.length : Int) = 3) := ⟨hl⟩
      obtain ⟨a, o, m, rfl⟩ := three (by omega : ds.length = 3)
      cases a with
      | str s =>
        unfold rowB
        simp only
        by_cases hn : s ∈ allN
        · haveI : Tru (s ∈ namesL) := ⟨hn⟩
          cases hm : fromB m 0 99 with
          | false =>
            haveI : FromC m 0 99 false := ⟨hm⟩
            repeat walk_at "go"
            exact ⟨by simp [hm], rfl⟩
          | true =>
            haveI : FromC m 0 99 true := ⟨hm⟩
            rcases all_cases hn with h | h | h | h
            · have q1 : s ∉ jN := fun k => (jN_box k).1 h
              have q2 : s ≠ "switch" := fun k => (sw_box k).1 h
              have q3 : s ∉ endN := fun k => (end_box k).1 h
              haveI : Fls (s ∈ (["go", "nought", "great"] : List Str)) := ⟨q1⟩
              haveI : Fls (s = "switch") := ⟨q2⟩
              haveI : Fls (s ∈ endN) := ⟨q3⟩
              rw [if_pos h]
              repeat walk_at "go"
              exact ⟨by rw [Bool.true_and], rfl⟩
            · obtain ⟨q1, q2, q3⟩ := jN_box h
              haveI : Tru (s ∈ (["go", "nought", "great"] : List Str)) := ⟨h⟩
              haveI : Fls (s = "switch") := ⟨q2⟩
              haveI : Fls (s ∈ endN) := ⟨q3⟩
              rw [if_neg q1, if_pos h]
              repeat walk_at "go"
              exact ⟨by rw [Bool.true_and], rfl⟩
            · obtain ⟨q1, q2, q3⟩ := sw_box h
              haveI : Fls (s ∈ (["go", "nought", "great"] : List Str)) := ⟨q2⟩
              haveI : Tru (s = "switch") := ⟨h⟩
              haveI : Fls (s ∈ endN) := ⟨q3⟩
              rw [if_neg q1, if_neg q2, if_pos h]
              repeat walk_at "go"
              exact ⟨by rw [Bool.true_and], rfl⟩
            · obtain ⟨q1, q2, q3⟩ := end_box h
              haveI : Fls (s ∈ (["go", "nought", "great"] : List Str)) := ⟨q2⟩
              haveI : Fls (s = "switch") := ⟨q3⟩
              haveI : Tru (s ∈ endN) := ⟨h⟩
              rw [if_neg q1, if_neg q2, if_neg q3]
              repeat walk_at "go"
              exact ⟨by simp [hm, h], rfl⟩
        · haveI : Fls (s ∈ namesL) := ⟨hn⟩
          have q1 : s ∉ boxN := fun k => hn (by unfold allN; simp [k])
          have q2 : s ∉ jN := fun k => hn (by unfold allN; simp [k])
          have q3 : s ≠ "switch" := fun k => hn (by unfold allN; simp [k])
          have q4 : s ∉ endN := fun k => hn (by unfold allN; simp [k])
          rw [if_neg q1, if_neg q2, if_neg q3]
          repeat walk_at "go"
          exact ⟨by simp [q4], rfl⟩
      | _ =>
        repeat walk_at "go"
        exact ⟨rfl, rfl⟩
    · haveI : Fls ((ds.length : Int) = 3) := ⟨hl⟩
      rw [row_no (by simp only [tupB]; simp; omega)]
      repeat walk_at "go"
      exact ⟨rfl, rfl⟩
  | _ =>
    repeat walk_at "go"
    exact ⟨rfl, rfl⟩
/-! the table -/
def pr0 (nr : Int) (p : D) : Bool := match p with
  | .tuple [i, r] => fromB i 0 10099 && fromB r 0 (nr - 1)
  | _ => false
def upB : List Int → Bool
  | [] => true
  | a :: l => l.head?.all (fun b => decide (a < b)) && upB l
theorem pr0_int {nr : Int} {p : D} (h : pr0 nr p = true) : ∃ (i r : Int), p = .tuple [.int i, .int r] ∧ 0 ≤ i := by
  unfold pr0 at h
  split at h
  · rw [Bool.and_eq_true] at h
    obtain ⟨i, rfl⟩ := from_int h.1
    obtain ⟨r, rfl⟩ := from_int h.2
    have := h.1
    simp only [fromB, Bool.and_eq_true, decide_eq_true_eq] at this
    exact ⟨i, r, rfl, this.1⟩
  · cases h
theorem prs_up {nr : Int} : ∀ (ps : List D) (a : Int), -1 ≤ a → prsB nr a ps = (ps.all (pr0 nr) && ((ps.head?.all fun p => decide (a < prI p)) && upB (ps.map prI)))
  | [], a, ha => rfl
  | p :: ps, a, ha => by
    rw [prsB, List.all_cons]
    by_cases h : pr0 nr p = true
    · obtain ⟨i, r, rfl, hi⟩ := pr0_int h
      rw [show prI (.tuple [.int i, .int r]) = i from rfl, prs_up ps i (by omega)]
      have h2 := h
      simp only [pr0, Bool.and_eq_true, fromB, decide_eq_true_eq] at h2
      rw [h, List.map_cons, show prI (.tuple [.int i, .int r]) = i from rfl, upB, List.head?_map]
      by_cases hai : a < i
      · have : prB nr a (.tuple [.int i, .int r]) = true := by
          simp only [prB, fromB, Bool.and_eq_true, decide_eq_true_eq]
          omega
        rw [this]
        simp only [Bool.true_and, List.head?_cons, Option.all_some, show prI (.tuple [.int i, .int r]) = i from rfl, decide_eq_true hai]
        congr 1
        congr 1
        cases ps.head? <;> rfl
      · have : prB nr a (.tuple [.int i, .int r]) = false := by
          simp only [prB, fromB, Bool.and_eq_false_iff, decide_eq_false_iff_not]
          left; left; omega
        rw [this]
        simp [show prI (.tuple [.int i, .int r]) = i from rfl, hai]
    · rw [Bool.not_eq_true] at h
      have : prB nr a p = false := by
        cases hq : prB nr a p with
        | false => rfl
        | true =>
          exfalso
          unfold prB at hq
          split at hq
          · simp only [pr0] at h
            rw [Bool.and_eq_true] at hq
            obtain ⟨i, rfl⟩ := from_int hq.1
            have h1 := hq.1
            rw [hq.2] at h
            simp only [fromB, Bool.and_eq_true, decide_eq_true_eq] at h1
            simp only [fromB, Bool.and_true, Bool.and_eq_false_iff, decide_eq_false_iff_not] at h
            omega
          · cases hq
      rw [this, h]
      rfl
theorem zip_int : ∀ as bs : List Int, zipD (as.map .int) (bs.map .int) = (as.zip bs).map fun q => PyData.tuple [.int q.1, .int q.2]
  | [], bs => by cases bs <;> rfl
  | a :: as, [] => rfl
  | a :: as, b :: bs => by
    show PyData.tuple [.int a, .int b] :: zipD (as.map .int) (bs.map .int) = _
    rw [zip_int as bs]
    rfl
theorem zip_up : ∀ l : List Int, ((l.zip (l.drop 1)).all fun q => decide (q.1 < q.2)) = upB l
  | [] => rfl
  | [a] => rfl
  | a :: b :: l => by
    have ih := zip_up (b :: l)
    rw [upB, ← ih]
    rfl
theorem pr0_no {ds : List D} {nr : Int} (h : ¬ (ds.length : Int) = 2) : pr0 nr (.tuple ds) = false := by
  unfold pr0
  split
  · rename_i e; cases e; simp at h
  · rfl
theorem tab2_no {ds : List D} {nb nr : Int} (h : ¬ (ds.length : Int) = 2) : tabB (.tuple ds) nb nr = false := tab_no (by simp only [tupB]; simp; omega)
set_option maxHeartbeats 400000 in
theorem t_table_good (d : D) (nb nr : Int) : m_law_table_good [.fz d, .fz (.int nb), .fz (.int nr)] = some (.v (.bool (tabB d nb nr)), [.fz d, .fz (.int nb), .fz (.int nr)]) := by
  refine wm_out ?_
  unfold m_law_table_good
  walk_at "start"
  unfold b_law_table_good
  cases d with
  | tuple ds =>
    by_cases hl : (ds.length : Int) = 2
    · haveI : Tru ((ds.length : Int) = 2) := ⟨hl⟩
      obtain ⟨b, t, rfl⟩ := two (by omega : ds.length = 2)
      cases hm : fromB b 0 (nb - 1) with
      | false =>
        haveI : FromC b 0 (nb - 1) false := ⟨hm⟩
        have hz : tabB (.tuple [b, t]) nb nr = false := by
          cases t <;> first | rfl | simp [tabB, hm]
        rw [hz]
        repeat walk_at "go"
        exact ⟨rfl, rfl⟩
      | true =>
        haveI : FromC b 0 (nb - 1) true := ⟨hm⟩
        cases t with
        | tuple ps =>
          have hz : tabB (.tuple [b, .tuple ps]) nb nr = (ps.all (pr0 nr) && ((ps.head?.all fun p => decide (-1 < prI p)) && upB (ps.map prI))) := by
            rw [← prs_up ps (-1) (by omega)]
            show (fromB b 0 (nb - 1) && _) = _
            rw [hm, Bool.true_and]
          rw [hz]
          repeat walk_at "go"
          refine lk_inv (fun i e' => ∃ (y3 : Option (D × Bool)), e' = [some (.fz (.tuple [b, .tuple ps])), some (.fz (.int nb)), some (.fz (.int nr)), fre y3, none, none, none] ∧ ∀ p ∈ ps.take i, pr0 nr p = true) ⟨none, rfl, by simp⟩ (fun i d e' hi hI => ?_) fun e' hI => ?_
          · obtain ⟨y3, rfl, hI⟩ := hI
            have hil := (List.getElem?_eq_some_iff.mp hi).1
            have htk : ps.take (i + 1) = ps.take i ++ [d] := by
              rw [List.take_succ_eq_append_getElem hil]
              rw [List.getElem?_eq_getElem hil] at hi
              cases hi
              rfl
            have hbad : pr0 nr d = false → ps.all (pr0 nr) = false := fun h => by
              rw [List.all_eq_false]
              exact ⟨d, List.mem_of_getElem? hi, by rw [h]; simp⟩
            refine ⟨_, (by walk_at "set"), ?_⟩
            unfold b_law_table_good_1
            cases d with
            | tuple ds =>
              by_cases hl2 : (ds.length : Int) = 2
              · haveI : Tru ((ds.length : Int) = 2) := ⟨hl2⟩
                obtain ⟨u, v, rfl⟩ := two (by omega : ds.length = 2)
                cases g1 : fromB u 0 10099 with
                | false =>
                  haveI : FromC u 0 10099 false := ⟨g1⟩
                  rw [hbad (by simp only [pr0, g1, Bool.false_and])]
                  repeat walk_at "go"
                  exact ⟨rfl, rfl⟩
                | true =>
                  haveI : FromC u 0 10099 true := ⟨g1⟩
                  cases g2 : fromB v 0 (nr - 1) with
                  | false =>
                    haveI : FromC v 0 (nr - 1) false := ⟨g2⟩
                    rw [hbad (by simp only [pr0, g2, Bool.and_false])]
                    repeat walk_at "go"
                    exact ⟨rfl, rfl⟩
                  | true =>
                    haveI : FromC v 0 (nr - 1) true := ⟨g2⟩
                    repeat walk_at "go"
                    refine ⟨some (_, false), rfl, ?_⟩
                    rw [htk]
                    exact mem_snoc hI (by simp only [pr0, g1, g2, Bool.true_and])
              · haveI : Fls ((ds.length : Int) = 2) := ⟨hl2⟩
                rw [hbad (pr0_no hl2)]
                repeat walk_at "go"
                exact ⟨rfl, rfl⟩
            | _ =>
              rw [hbad rfl]
              repeat walk_at "go"
              exact ⟨rfl, rfl⟩
          · obtain ⟨y3, rfl, hI⟩ := hI
            rw [List.take_length] at hI
            repeat walk_at "go"
            refine kl_idM (fun p => .int (prI p)) (fun p hp => ?_) ?_
            · obtain ⟨i, r, rfl, _⟩ := pr0_int (hI p hp)
              walk_at "lcm"
            rw [show (ps.map fun p => PyData.int (prI p)) = (ps.map prI).map .int by rw [List.map_map]; rfl]
            have hup : (ps.head?.all fun p => decide (-1 < prI p)) = true := by
              cases ps with
              | nil => rfl
              | cons p ps =>
                obtain ⟨i, r, rfl, hi⟩ := pr0_int (hI p (by simp))
                simp only [List.head?_cons, Option.all_some, decide_eq_true_eq]
                show -1 < i
                omega
            have hall : ps.all (pr0 nr) = true := List.all_eq_true.mpr hI
            rw [hup, hall, Bool.true_and, Bool.true_and, ← zip_up]
            generalize ps.map prI = is
            repeat walk_at "go"
            rw [show List.drop (Int.toNat 1) (is.map PyData.int) = (is.drop 1).map .int by rw [List.map_drop]; rfl, zip_int]
            refine kl_encM (fun q : Int × Int => PyData.tuple [.int q.1, .int q.2]) (fun q => .bool (decide (q.1 < q.2))) (fun q hq => ?_) ?_
            · walk_at "lcm"
            repeat walk_at "go"
            exact ⟨rfl, rfl⟩
        | _ =>
          repeat walk_at "go"
          exact ⟨rfl, rfl⟩
    · haveI : Fls ((ds.length : Int) = 2) := ⟨hl⟩
      rw [tab2_no hl]
      repeat walk_at "go"
      exact ⟨rfl, rfl⟩
  | _ =>
    repeat walk_at "go"
    exact ⟨rfl, rfl⟩
instance {d : D} {nb nr : Int} : Cal m_law_table_good [.fz d, .fz (.int nb), .fz (.int nr)] (.v (.bool (tabB d nb nr))) [.fz d, .fz (.int nb), .fz (.int nr)] := ⟨t_table_good d nb nr⟩
def tupQ : D → Bool
  | .tuple _ => true
  | _ => false
theorem isT_tup {d : D} (h : tupQ d = true) : ∃ ds : List D, d = .tuple ds := by
  cases d with
  | tuple ds => exact ⟨ds, rfl⟩
  | _ => cases h
theorem still_tups {a b c e : D} (h : stillB (.tuple [a, b, c, e]) = true) : ([a, b, c, e].all tupQ) = true := by
  unfold stillB at h
  simp only [Bool.and_eq_true] at h
  obtain ⟨h1, h2, h3, h4, h5, h6, h7⟩ := h
  unfold boxesB doorsB at *
  rw [Bool.and_eq_true] at h3 h6
  obtain ⟨_, rfl, _⟩ := tup_of h1
  obtain ⟨_, rfl, _⟩ := tup_of h2
  obtain ⟨_, rfl, _⟩ := tup_of h3.1
  obtain ⟨_, rfl, _⟩ := tup_of h6.1
  rfl
theorem nin_last {s : Str} {b : Bool} (h : decide (s ∈ lastN) = !b) : ninR (.str s) (.list (endN.map PyData.str ++ [.str "go", .str "goby", .str "switch"])) = some (.v (.bool b)) := by
  have h1 : ninR (.str s) (.list ((["stop", "norow", "beyond", "off", "lost", "go", "goby", "switch"] : List Str).map PyData.str)) = some (.v (.bool (!decide (s ∈ (["stop", "norow", "beyond", "off", "lost", "go", "goby", "switch"] : List Str))))) := Op2.h
  have h2 : decide (s ∈ (["stop", "norow", "beyond", "off", "lost", "go", "goby", "switch"] : List Str)) = decide (s ∈ lastN) := by
    apply decide_eq_decide.mpr
    simp only [lastN, List.mem_cons, List.not_mem_nil, or_false]
    constructor
    · rintro (h | h | h | h | h | h | h | h) <;> simp [h]
    · rintro (h | h | h | h | h | h | h | h) <;> simp [h]
  rw [h2, h, Bool.not_not] at h1
  exact h1
set_option maxHeartbeats 800000 in
theorem t_due (d : D) : m_law_due__2 [.fz d] = some (.v (.bool (stillB d)), [.fz d]) := by
  refine wm_out ?_
  unfold m_law_due__2
  walk_at "start"
  unfold b_law_due__2
  cases d with
  | tuple ds =>
    by_cases hl : (ds.length : Int) = 4
    · haveI : Tru ((ds.length : Int) = 4) := ⟨hl⟩
      obtain ⟨rows, tabs, doors, boxes, rfl⟩ := four (by omega : ds.length = 4)
      repeat walk_at "go"
      refine kl_idM (fun p => .bool (tupQ p)) (fun p hp => ?_) ?_
      · cases p <;> walk_at "lcm"
      repeat walk_at "go"
      cases ht : [rows, tabs, doors, boxes].all tupQ with
      | false =>
        have hz : stillB (.tuple [rows, tabs, doors, boxes]) = false := by
          cases q : stillB (.tuple [rows, tabs, doors, boxes]) with
          | false => rfl
          | true => rw [still_tups q] at ht; cases ht
        rw [hz]
        repeat walk_at "go"
        exact ⟨rfl, rfl⟩
      | true =>
      simp only [List.all_cons, List.all_nil, Bool.and_eq_true] at ht
      obtain ⟨rs, rfl⟩ := isT_tup ht.1
      obtain ⟨ts, rfl⟩ := isT_tup ht.2.1
      obtain ⟨os, rfl⟩ := isT_tup ht.2.2.1
      obtain ⟨bs, rfl⟩ := isT_tup ht.2.2.2.1
      clear ht
      have hst : stillB (.tuple [.tuple rs, .tuple ts, .tuple os, .tuple bs]) = (tupB (.tuple rs) 1 2000 && (tupB (.tuple ts) 0 99 && ((tupB (.tuple bs) 1 99 && bs.all fun w => fromB w 0 9999) && ((rs.all fun r => rowB r bs.length ts.length rs.length) && ((rs.getLast?.map lastB).getD false &&
        ((tupB (.tuple os) bs.length bs.length && os.all (doorB rs.length)) && ts.all fun t => tabB t bs.length rs.length)))))) := rfl
      rw [hst]
      by_cases hb0 : 0 < (bs.length : Int)
      case neg =>
        haveI : Fls (0 < (bs.length : Int)) := ⟨hb0⟩
        rw [show tupB (.tuple bs) 1 99 = false by simp only [tupB]; simp; omega]
        simp only [Bool.false_and, Bool.and_false]
        repeat walk_at "go"
        exact ⟨rfl, rfl⟩
      haveI : Tru (0 < (bs.length : Int)) := ⟨hb0⟩
      by_cases hb1 : (bs.length : Int) < 100
      case neg =>
        haveI : Fls ((bs.length : Int) < 100) := ⟨hb1⟩
        rw [show tupB (.tuple bs) 1 99 = false by simp only [tupB]; simp; omega]
        simp only [Bool.false_and, Bool.and_false]
        repeat walk_at "go"
        exact ⟨rfl, rfl⟩
      haveI : Tru ((bs.length : Int) < 100) := ⟨hb1⟩
      by_cases hr0 : 0 < (rs.length : Int)
      case neg =>
        haveI : Fls (0 < (rs.length : Int)) := ⟨hr0⟩
        rw [show tupB (.tuple rs) 1 2000 = false by simp only [tupB]; simp; omega]
        simp only [Bool.false_and]
        repeat walk_at "go"
        exact ⟨rfl, rfl⟩
      haveI : Tru (0 < (rs.length : Int)) := ⟨hr0⟩
      by_cases hr1 : (rs.length : Int) < 2001
      case neg =>
        haveI : Fls ((rs.length : Int) < 2001) := ⟨hr1⟩
        rw [show tupB (.tuple rs) 1 2000 = false by simp only [tupB]; simp; omega]
        simp only [Bool.false_and]
        repeat walk_at "go"
        exact ⟨rfl, rfl⟩
      haveI : Tru ((rs.length : Int) < 2001) := ⟨hr1⟩
      by_cases ht1 : 99 < (ts.length : Int)
      case pos =>
        haveI : Tru (99 < (ts.length : Int)) := ⟨ht1⟩
        rw [show tupB (.tuple ts) 0 99 = false by simp only [tupB]; simp; omega]
        simp only [Bool.false_and, Bool.and_false]
        repeat walk_at "go"
        exact ⟨rfl, rfl⟩
      haveI : Fls (99 < (ts.length : Int)) := ⟨ht1⟩
      by_cases ho1 : (os.length : Int) = (bs.length : Int)
      case neg =>
        haveI : Fls ((os.length : Int) = (bs.length : Int)) := ⟨ho1⟩
        rw [show tupB (.tuple os) bs.length bs.length = false by simp only [tupB]; simp; omega]
        simp only [Bool.false_and, Bool.and_false]
        repeat walk_at "go"
        exact ⟨rfl, rfl⟩
      haveI : Tru ((os.length : Int) = (bs.length : Int)) := ⟨ho1⟩
      rw [show tupB (.tuple bs) 1 99 = true by simp only [tupB]; simp; omega, show tupB (.tuple rs) 1 2000 = true by simp only [tupB]; simp; omega, show tupB (.tuple ts) 0 99 = true by simp only [tupB]; simp; omega, show tupB (.tuple os) bs.length bs.length = true by simp only [tupB]; simp; omega]
      simp only [Bool.true_and]
      clear hst
      repeat walk_at "go"
      refine kl_idM (fun w => .bool (fromB w 0 9999)) (fun w hw => ?_) ?_
      · have := t_within w 0 9999
        walk_at "lcm"
      repeat walk_at "go"
      cases hbb : bs.all fun w => fromB w 0 9999 with
      | false =>
        simp only [Bool.false_and]
        repeat walk_at "go"
        exact ⟨rfl, rfl⟩
      | true =>
      repeat walk_at "go"
      refine kl_idM (fun r => .bool (rowB r bs.length ts.length rs.length)) (fun r hr => ?_) ?_
      · have := t_row_good r (bs.length : Int) (ts.length : Int) (rs.length : Int)
        walk_at "lcm"
      repeat walk_at "go"
      cases hrr : rs.all fun r => rowB r bs.length ts.length rs.length with
      | false =>
        simp only [Bool.false_and, Bool.and_false]
        repeat walk_at "go"
        exact ⟨rfl, rfl⟩
      | true =>
      obtain ⟨r0, z, rfl⟩ : ∃ r0 z, rs = r0 ++ [z] := ⟨rs.dropLast, rs.getLast (by intro e; rw [e] at hr0; simp at hr0), (List.dropLast_concat_getLast _).symm⟩
      obtain ⟨s, o1, m, rfl⟩ := row_str (List.all_eq_true.mp hrr z (by simp))
      simp only [List.getLast?_append, List.getLast?_singleton, Option.some_or, Option.map_some, Option.getD_some, lastB, Bool.true_and]
      repeat walk_at "go"
      refine k2 rfl rfl ix_lastTT ?_
      by_cases hla : s ∈ lastN
      case neg =>
        haveI : Op2 ninR (.str s) (.list (endN.map PyData.str ++ [.str "go", .str "goby", .str "switch"])) (.v (.bool true)) := ⟨nin_last (by simpa using hla)⟩
        repeat walk_at "go"
        exact ⟨by simp [hla], rfl⟩
      haveI : Op2 ninR (.str s) (.list (endN.map PyData.str ++ [.str "go", .str "goby", .str "switch"])) (.v (.bool false)) := ⟨nin_last (by simpa using hla)⟩
      repeat walk_at "go"
      refine kl_idM (fun o => .bool (doorB (r0 ++ [PyData.tuple [.str s, o1, m]]).length o)) (fun o ho => ?_) ?_
      · have := t_within o 0 (((r0 ++ [PyData.tuple [.str s, o1, m]]).length : Int) - 1)
        cases o with
        | none => apply lcm_mk; walk_at "set"; (with_reducible apply ev_orV (a := true) (b := true)); walk_at "ev"; (intro hq; cases hq); walk_at "set"; rfl; walk_at "set"
        | _ => walk_at "lcm"
      repeat walk_at "go"
      rw [show (os.all fun o => doorB ((r0 ++ [PyData.tuple [.str s, o1, m]]).length) o) = os.all (doorB ((r0 ++ [PyData.tuple [.str s, o1, m]]).length)) from rfl]
      cases hoo : os.all (doorB ((r0 ++ [PyData.tuple [.str s, o1, m]]).length)) with
      | false =>
        simp only [Bool.false_and, Bool.and_false]
        repeat walk_at "go"
        exact ⟨rfl, rfl⟩
      | true =>
      repeat walk_at "go"
      refine kl_idM (fun t => .bool (tabB t bs.length (r0 ++ [PyData.tuple [.str s, o1, m]]).length)) (fun t ht => ?_) ?_
      · have := t_table_good t (bs.length : Int) ((r0 ++ [PyData.tuple [.str s, o1, m]]).length : Int)
        walk_at "lcm"
      repeat walk_at "go"
      exact ⟨by simp [hla], rfl⟩
    · haveI : Fls ((ds.length : Int) = 4) := ⟨hl⟩
      rw [still_no (by simp only [tupB]; simp; omega)]
      repeat walk_at "go"
      exact ⟨rfl, rfl⟩
  | _ =>
    repeat walk_at "go"
    exact ⟨rfl, rfl⟩
theorem w_other {n most : Int} {p : D} (hp : Pool n p) (hn : n < 1000000) : Wm m_law_other [.io p, .fz (.int most)] fun r out => ∃ (d p' : D), r = .v d ∧ out = [.io p', .fz (.int most)] ∧ Pool (n + 1) p' := by
  unfold m_law_other
  walk_at "start"
  unfold b_law_other
  repeat walk_at "go"
  rename_i j q hq j0 j1 _ _
  refine k2_ixA rfl rfl (by assumption) (by assumption) fun d hd => ?_
  repeat walk_at "go"
  exact ⟨d, q, rfl, rfl, hq⟩
theorem other_step {n most : Int} {p : D} {Q : R → List Cel → Prop} (hp : Pool n p) (hn : n < 1000000) (k : ∀ d p', Pool (n + 1) p' → Q (.v d) [.io p', .fz (.int most)]) : Wm m_law_other [.io p, .fz (.int most)] Q :=
  wm_mono (w_other hp hn) fun r out h => by
    obtain ⟨d, p', rfl, rfl, h1⟩ := h
    exact k d p' h1
theorem t_put {ds : List D} {i : Int} {d : D} (h0 : 0 ≤ i) (hl : ds.length ≤ 3000) : m_law_put [.fz (.tuple ds), .fz (.int i), .fz d] = some (.v (.tuple (ds.take i.toNat ++ [d] ++ ds.drop (i + 1).toNat)), [.fz (.tuple ds), .fz (.int i), .fz d]) := by
  refine wm_out ?_
  unfold m_law_put
  walk_at "start"
  unfold b_law_put
  repeat walk_at "go"
  exact ⟨rfl, rfl⟩
instance {ds : List D} {i : Int} {d : D} [q : Tru (0 ≤ i)] [z : Tru (ds.length ≤ 3000)] : Cal m_law_put [.fz (.tuple ds), .fz (.int i), .fz d] (.v (.tuple (ds.take i.toNat ++ [d] ++ ds.drop (i + 1).toNat))) [.fz (.tuple ds), .fz (.int i), .fz d] := ⟨t_put q.h z.h⟩
theorem h_kind_of (w : Int) : m_kind_of [.fz (.int w)] = some (.v (.int (w / 100)), [.fz (.int w)]) := by
  refine wm_out ?_
  unfold m_kind_of
  walk_at "start"
  unfold b_kind_of
  repeat walk_at "go"
  exact ⟨rfl, rfl⟩
local macro_rules | `(tactic| walk_at "call") => `(tactic| ((with_reducible refine wm_eq (h_kind_of _) ⟨?_, ?_⟩); walk_at "ok"))
theorem h_address_of (w : Int) : m_address_of [.fz (.int w)] = some (.v (.int (w % 100)), [.fz (.int w)]) := by
  refine wm_out ?_
  unfold m_address_of
  walk_at "start"
  unfold b_address_of
  repeat walk_at "go"
  exact ⟨rfl, rfl⟩
local macro_rules | `(tactic| walk_at "call") => `(tactic| ((with_reducible refine wm_eq (h_address_of _) ⟨?_, ?_⟩); walk_at "ok"))
theorem h_word_of (k a : Int) : m_word_of [.fz (.int k), .fz (.int a)] = some (.v (.int (k * 100 + a)), [.fz (.int k), .fz (.int a)]) := by
  refine wm_out ?_
  unfold m_word_of
  walk_at "start"
  unfold b_word_of
  repeat walk_at "go"
  exact ⟨rfl, rfl⟩
local macro_rules | `(tactic| walk_at "call") => `(tactic| ((with_reducible refine wm_eq (h_word_of _ _) ⟨?_, ?_⟩); walk_at "ok"))
theorem h_patched (w o : Int) : m_patched [.fz (.int w), .fz (.int o)] = some (.v (.int (w / 100 * 100 + o % 100)), [.fz (.int w), .fz (.int o)]) := by
  refine wm_out ?_
  unfold m_patched
  walk_at "start"
  unfold b_patched
  repeat walk_at "go"
  exact ⟨rfl, rfl⟩
local macro_rules | `(tactic| walk_at "call") => `(tactic| ((with_reducible refine wm_eq (h_patched _ _) ⟨?_, ?_⟩); walk_at "ok"))
inductive Op where
  | doo (k : Nat) (by_ : Bool)
  | lead (j : Nat) (by_ : Bool)
  | sw
  | en
deriving DecidableEq
def opL : List (Str × Op) := [("load", .doo 0 false), ("store", .doo 1 false), ("add", .doo 2 false), ("less", .doo 3 false), ("say", .doo 4 false), ("hear", .doo 5 false), ("patch", .doo 6 false),
  ("loadby", .doo 0 true), ("storeby", .doo 1 true), ("addby", .doo 2 true), ("lessby", .doo 3 true), ("sayby", .doo 4 true), ("hearby", .doo 5 true), ("patchby", .doo 6 true),
  ("goby", .lead 0 true), ("noughtby", .lead 1 true), ("greatby", .lead 2 true), ("go", .lead 0 false), ("nought", .lead 1 false), ("great", .lead 2 false), ("switch", .sw), ("stop", .en), ("norow", .en), ("beyond", .en), ("off", .en), ("lost", .en)]
def opOf (s : Str) : Op := ((opL.find? fun q => decide (q.1 = s)).map (·.2)).getD .en
def bAt (b : List Int) (i : Int) : Int := b.getD i.toNat 0
def atO (b : List Int) (by_ : Bool) (o : Int) : Int := if by_ = true then bAt b o % 100 else o
def goesO (j : Nat) (hand : Int) : Bool := match j with
  | 0 => true
  | 1 => decide (hand = 0)
  | _ => decide (5000 ≤ hand)
def findR (ps : List (Int × Int)) (x : Int) : Option Int := (ps.find? fun q => decide (q.1 = x)).map (·.2)
def tabR (t : Tab) (b : List Int) : Option Int := (findR t.2 (bAt b t.1)).or (findR t.2 (10000 + bAt b t.1 / 100))
theorem op_mem : ∀ s ∈ allN, (s, opOf s) ∈ opL := by decide +kernel
structure Sd where
  row : Int
  hand : Int
  bx : List Int
  hd : Int
  told : List Int
def Sd.d (s : Sd) : D := .tuple [.int s.row, .int s.hand, .tuple (s.bx.map .int), .int s.hd, .tuple (s.told.map .int)]
def doorAt (P : Pg) (a : Int) : Option Int := P.doors.getD a.toNat none
def tabAt (P : Pg) (o : Int) : Tab := P.tabs.getD o.toNat (0, [])
def rowAt (P : Pg) (i : Int) : Row := P.rows.getD i.toNat ("", 0, 0)
def endR (P : Pg) (nh : Nat) (s : Sd) (r : Row) : Option (Str × Int) := match opOf r.1 with
  | .en => some (r.1, r.2.2)
  | .doo k by_ => if (s.bx.length : Int) ≤ atO s.bx by_ r.2.1 then some ("beyond", r.2.2) else if k = 5 ∧ (nh : Int) ≤ s.hd then some ("dry", r.2.2) else none
  | .lead j true => if goesO j s.hand = true then (if (P.doors.length : Int) ≤ bAt s.bx r.2.1 % 100 then some ("off", bAt s.bx r.2.1 % 100) else if (doorAt P (bAt s.bx r.2.1 % 100)).isNone = true then some ("lost", bAt s.bx r.2.1 % 100) else none) else none
  | .lead _ false => none
  | .sw => if (tabR (tabAt P r.2.1) s.bx).isNone = true then some ("lost", r.2.2) else none
def doK (k : Nat) (at_ : Int) (hs : List Int) (s : Sd) : Sd := match k with
  | 0 => { s with row := s.row + 1, hand := bAt s.bx at_ }
  | 1 => { s with row := s.row + 1, bx := s.bx.set at_.toNat s.hand }
  | 2 => { s with row := s.row + 1, hand := (s.hand + bAt s.bx at_) % 10000 }
  | 3 => { s with row := s.row + 1, hand := (s.hand - bAt s.bx at_) % 10000 }
  | 4 => { s with row := s.row + 1, told := s.told ++ [bAt s.bx at_] }
  | 5 => { s with row := s.row + 1, bx := s.bx.set at_.toNat (bAt hs s.hd), hd := s.hd + 1 }
  | _ => { s with row := s.row + 1, bx := s.bx.set at_.toNat (bAt s.bx at_ / 100 * 100 + s.hand % 100) }
def stepR (P : Pg) (hs : List Int) (s : Sd) (r : Row) : Sd := match opOf r.1 with
  | .en => s
  | .doo k by_ => doK k (atO s.bx by_ r.2.1) hs s
  | .lead j by_ => { s with row := if goesO j s.hand = true then (if by_ = true then (doorAt P (bAt s.bx r.2.1 % 100)).getD 0 else r.2.1) else s.row + 1 }
  | .sw => { s with row := (tabR (tabAt P r.2.1) s.bx).getD 0 }
def endD : Option (Str × Int) → D
  | none => .none
  | some e => .tuple [.str e.1, .int e.2]
structure SdOk (P : Pg) (hs : List Int) (n : Nat) (s : Sd) : Prop where
  r0 : 0 ≤ s.row
  r1 : s.row < P.rows.length
  h0 : 0 ≤ s.hand
  h1 : s.hand < 10000
  bl : s.bx.length = P.boxes.length
  bw : Wds s.bx
  d0 : 0 ≤ s.hd
  d1 : s.hd ≤ hs.length
  tl : s.told.length ≤ n
theorem bAt_dom {b : List Int} {i : Int} (h : Wds b) : 0 ≤ bAt b i ∧ bAt b i < 10000 := by
  unfold bAt
  by_cases q : i.toNat < b.length
  · exact h _ (Sl.getD_mem q)
  · rw [List.getD_eq_getElem?_getD, List.getElem?_eq_none (by omega)]
    exact ⟨by simp, by simp⟩
/-! ### the program's own -/
instance {w : Int} : Cal m_address_of [.fz (.int w)] (.v (.int (w % 100))) [.fz (.int w)] := ⟨h_address_of w⟩
instance {w : Int} : Cal m_kind_of [.fz (.int w)] (.v (.int (w / 100))) [.fz (.int w)] := ⟨h_kind_of w⟩
instance {w o : Int} : Cal m_patched [.fz (.int w), .fz (.int o)] (.v (.int (w / 100 * 100 + o % 100))) [.fz (.int w), .fz (.int o)] := ⟨h_patched w o⟩
instance {b : List Int} {i : Int} [p : Tru (0 ≤ i)] [q : Tru (i < (b.length : Int))] : Op2 ixD (.tuple (b.map .int)) (.int i) (.v (.int (bAt b i))) := ⟨by
  have h0 := p.h
  have h1 := q.h
  show (atI (b.map PyData.int) i).map R.v = _
  rw [Sl.atI_nat h0, List.getElem?_map, List.getElem?_eq_getElem (by omega)]
  unfold bAt
  rw [List.getD_eq_getElem?_getD, List.getElem?_eq_getElem (by omega)]
  rfl⟩
instance {b : List Int} {i : Int} [p : Tru (0 ≤ i)] [q : Tru (i < (b.length : Int))] : Op2 ixD (.list (b.map .int)) (.int i) (.v (.int (bAt b i))) := ⟨by
  have h0 := p.h
  have h1 := q.h
  show (atI (b.map PyData.int) i).map R.v = _
  rw [Sl.atI_nat h0, List.getElem?_map, List.getElem?_eq_getElem (by omega)]
  unfold bAt
  rw [List.getD_eq_getElem?_getD, List.getElem?_eq_getElem (by omega)]
  rfl⟩
theorem h_goes {s : Str} {j : Nat} {by_ : Bool} (h : opOf s = .lead j by_) (hs : s ∈ allN) (hand : Int) : m_does_go [.fz (.str s), .fz (.int hand)] = some (.v (.bool (goesO j hand)), [.fz (.str s), .fz (.int hand)]) := by
  have hq : ∀ q ∈ [("go", 0), ("nought", 1), ("great", 2), ("goby", 0), ("noughtby", 1), ("greatby", 2)], ∀ h : Int, m_does_go [.fz (.str (Str.ofString q.1)), .fz (.int h)] = some (.v (.bool (goesO q.2 h)), [.fz (.str (Str.ofString q.1)), .fz (.int h)]) := by
    intro q hq h
    simp only [List.mem_cons, List.not_mem_nil, or_false] at hq
    rcases hq with rfl | rfl | rfl | rfl | rfl | rfl
    all_goals
      refine wm_out ?_
      unfold m_does_go
      walk_at "start"
      unfold b_does_go
      repeat walk_at "go"
      exact ⟨rfl, rfl⟩
  have hx := op_mem s hs
  rw [h] at hx
  simp only [opL, List.mem_cons, Prod.mk.injEq, Op.lead.injEq, reduceCtorEq, and_false, false_or, or_false, List.not_mem_nil] at hx
  rcases hx with ⟨rfl, rfl, _⟩ | ⟨rfl, rfl, _⟩ | ⟨rfl, rfl, _⟩ | ⟨rfl, rfl, _⟩ | ⟨rfl, rfl, _⟩ | ⟨rfl, rfl, _⟩
  · exact hq ("goby", 0) (by simp) hand
  · exact hq ("noughtby", 1) (by simp) hand
  · exact hq ("greatby", 2) (by simp) hand
  · exact hq ("go", 0) (by simp) hand
  · exact hq ("nought", 1) (by simp) hand
  · exact hq ("great", 2) (by simp) hand
class LeadF (s : Str) (j : outParam Nat) : Prop where h : s ∈ allN ∧ ∃ b, opOf s = .lead j b
instance {s : Str} {j : Nat} {h : Int} [q : LeadF s j] : Cal m_does_go [.fz (.str s), .fz (.int h)] (.v (.bool (goesO j h))) [.fz (.str s), .fz (.int h)] := ⟨by
  obtain ⟨h1, b, h2⟩ := q.h
  exact h_goes h2 h1 h⟩
/-! ### what the data are made of -/
instance {a : D} {l : List D} : Op2 ixD (.tuple (a :: l)) (.int 0) (.v a) := ⟨by
  show (atI (a :: l) 0).map R.v = _
  rw [Sl.atI_nat (by decide)]
  rfl⟩
instance {a b : D} {l : List D} : Op2 ixD (.tuple (a :: b :: l)) (.int 1) (.v b) := ⟨by
  show (atI (a :: b :: l) 1).map R.v = _
  rw [Sl.atI_nat (by decide)]
  rfl⟩
instance {a b c : D} {l : List D} : Op2 ixD (.tuple (a :: b :: c :: l)) (.int 2) (.v c) := ⟨by
  show (atI (a :: b :: c :: l) 2).map R.v = _
  rw [Sl.atI_nat (by decide)]
  rfl⟩
instance {a b c d : D} {l : List D} : Op2 ixD (.tuple (a :: b :: c :: d :: l)) (.int 3) (.v d) := ⟨by
  show (atI (a :: b :: c :: d :: l) 3).map R.v = _
  rw [Sl.atI_nat (by decide)]
  rfl⟩
section
variable {P : Pg} {s : Sd} {r : Row} {t : Tab}
instance : Op2 ixD P.d (.int 0) (.v (.tuple (P.rows.map rowD))) := ⟨rfl⟩
instance : Op2 ixD P.d (.int 1) (.v (.tuple (P.tabs.map tabD))) := ⟨rfl⟩
instance : Op2 ixD P.d (.int 2) (.v (.tuple (P.doors.map doorD))) := ⟨rfl⟩
instance : Op2 ixD P.d (.int 3) (.v (.tuple (P.boxes.map .int))) := ⟨rfl⟩
instance : Op2 ixD s.d (.int 0) (.v (.int s.row)) := ⟨rfl⟩
instance : Op2 ixD s.d (.int 1) (.v (.int s.hand)) := ⟨rfl⟩
instance : Op2 ixD s.d (.int 2) (.v (.tuple (s.bx.map .int))) := ⟨rfl⟩
instance : Op2 ixD s.d (.int 3) (.v (.int s.hd)) := ⟨rfl⟩
instance : Op2 ixD s.d (.int 4) (.v (.tuple (s.told.map .int))) := ⟨rfl⟩
instance : Op2 ixD (rowD r) (.int 0) (.v (.str r.1)) := ⟨rfl⟩
instance : Op2 ixD (rowD r) (.int 1) (.v (.int r.2.1)) := ⟨rfl⟩
instance : Op2 ixD (rowD r) (.int 2) (.v (.int r.2.2)) := ⟨rfl⟩
instance : Op2 ixD (tabD t) (.int 0) (.v (.int t.1)) := ⟨rfl⟩
instance : Op2 ixD (tabD t) (.int 1) (.v (.tuple (t.2.map prD))) := ⟨rfl⟩
instance {g : List D → En → Option En} {e e' : En} [q : Tgs g [.int s.row, .int s.hand, .tuple (s.bx.map .int), .int s.hd, .tuple (s.told.map .int)] e e'] : Tg (gT g) s.d e e' := ⟨q.h⟩
instance {g : List D → En → Option En} {e e' : En} [q : Tgs g [.str r.1, .int r.2.1, .int r.2.2] e e'] : Tg (gT g) (rowD r) e e' := ⟨q.h⟩
instance {g : List D → En → Option En} {e e' : En} [q : Tgs g [.int t.1, .tuple (t.2.map prD)] e e'] : Tg (gT g) (tabD t) e e' := ⟨q.h⟩
class InRows (P : Pg) (i : Int) : Prop where h : 0 ≤ i ∧ i < P.rows.length
class InTabs (P : Pg) (i : Int) : Prop where h : 0 ≤ i ∧ i < P.tabs.length
class InDoors (P : Pg) (i : Int) : Prop where h : 0 ≤ i ∧ i < P.doors.length
theorem at_map {α : Type} {f : α → D} {l : List α} {i : Int} {x : α} (h : 0 ≤ i ∧ i < l.length) : ixD (.tuple (l.map f)) (.int i) = some (.v (f (l.getD i.toNat x))) := by
  show (atI (l.map f) i).map R.v = _
  rw [Sl.atI_nat h.1, List.getElem?_map, List.getElem?_eq_getElem (by omega), List.getD_eq_getElem?_getD, List.getElem?_eq_getElem (by omega)]
  rfl
instance {i : Int} [q : InRows P i] : Op2 ixD (.tuple (P.rows.map rowD)) (.int i) (.v (rowD (rowAt P i))) := ⟨at_map q.h⟩
instance {i : Int} [q : InTabs P i] : Op2 ixD (.tuple (P.tabs.map tabD)) (.int i) (.v (tabD (tabAt P i))) := ⟨at_map q.h⟩
instance {i : Int} [q : InDoors P i] : Op2 ixD (.tuple (P.doors.map doorD)) (.int i) (.v (doorD (doorAt P i))) := ⟨at_map q.h⟩
end
instance {o : Option Int} : Op2 isR (doorD o) .none (.v (.bool o.isNone)) := ⟨by cases o <;> rfl⟩
instance {o : Option Int} : Op2 isntR (doorD o) .none (.v (.bool (!o.isNone))) := ⟨by cases o <;> rfl⟩
instance {o : Option (Str × Int)} : Op2 isR (endD o) .none (.v (.bool o.isNone)) := ⟨by cases o <;> rfl⟩
instance {o : Option (Str × Int)} : Op2 isntR (endD o) .none (.v (.bool (!o.isNone))) := ⟨by cases o <;> rfl⟩
/-! ### boxes -/
theorem set_cut (b : List Int) (i : Int) (w : Int) (h0 : 0 ≤ i) (h1 : i < b.length) : (b.map PyData.int).take i.toNat ++ [.int w] ++ (b.map PyData.int).drop (i + 1).toNat = (b.set i.toNat w).map .int := by
  rw [← List.map_take, ← List.map_drop, List.set_eq_take_append_cons_drop, if_pos (by omega), List.map_append, List.map_cons, show (i + 1).toNat = i.toNat + 1 by omega]
  simp
theorem h_with {b : List Int} {i w : Int} (h0 : 0 ≤ i) (h1 : i < b.length) (hl : b.length ≤ 100) : m_with_word [.fz (.tuple (b.map .int)), .fz (.int i), .fz (.int w)] = some (.v (.tuple ((b.set i.toNat w).map .int)), [.fz (.tuple (b.map .int)), .fz (.int i), .fz (.int w)]) := by
  refine wm_out ?_
  unfold m_with_word
  walk_at "start"
  unfold b_with_word
  have hml : (b.map PyData.int).length = b.length := List.length_map _
  repeat walk_at "go"
  rw [set_cut b i w h0 h1]
  exact ⟨rfl, rfl⟩
instance {b : List Int} {i w : Int} [p : Tru (0 ≤ i)] [q : Tru (i < (b.length : Int))] [z : Tru (b.length ≤ 100)] : Cal m_with_word [.fz (.tuple (b.map .int)), .fz (.int i), .fz (.int w)] (.v (.tuple ((b.set i.toNat w).map .int))) [.fz (.tuple (b.map .int)), .fz (.int i), .fz (.int w)] := ⟨h_with p.h q.h z.h⟩
/-- load to patch done -/
theorem shape_tup {b : List Int} : SeqAt.shaped (.tuple (b.map .int)) = true := shaped_ints_t b
theorem h_done {s : Sd} {k : Nat} {at_ : Int} {hs : List Int} {nm : Str} (hk : (nm, Op.doo k false) ∈ opL) (h0 : 0 ≤ at_) (h1 : at_ < s.bx.length) (hl : s.bx.length ≤ 100) (hb : Wds s.bx) (hd0 : 0 ≤ s.hd) (hd1 : k = 5 → s.hd < hs.length) (ht : s.told.length ≤ 100000) (hh : 0 ≤ s.hand ∧ s.hand < 10000) :
    m_done_by_box [.fz s.d, .fz (.str nm), .fz (.int at_), .fz (.list (hs.map .int))] = some (.v (doK k at_ hs s).d, [.fz s.d, .fz (.str nm), .fz (.int at_), .fz (.list (hs.map .int))]) := by
  simp only [opL, List.mem_cons, Prod.mk.injEq, Op.doo.injEq, reduceCtorEq, and_false, false_or, or_false, List.not_mem_nil, and_true] at hk
  haveI : Tru (0 ≤ at_) := ⟨h0⟩
  haveI : Tru (at_ < (s.bx.length : Int)) := ⟨h1⟩
  haveI : Tru (s.bx.length ≤ 100) := ⟨hl⟩
  haveI : Tru (0 ≤ s.hd) := ⟨hd0⟩
  have hml : (s.told.map PyData.int).length = s.told.length := List.length_map _
  rcases hk with ⟨rfl, rfl⟩ | ⟨rfl, rfl⟩ | ⟨rfl, rfl⟩ | ⟨rfl, rfl⟩ | ⟨rfl, rfl⟩ | ⟨rfl, rfl⟩ | ⟨rfl, rfl⟩
  all_goals
    try haveI : Tru (s.hd < (hs.length : Int)) := ⟨hd1 rfl⟩
    refine wm_out ?_
    unfold m_done_by_box
    walk_at "start"
    unfold b_done_by_box
    repeat walk_at "go"
    first
      | exact ⟨rfl, rfl⟩
      | exact ⟨by simp [doK, Sd.d], rfl⟩
theorem h_ldone {s : Sd} {k : Nat} {at_ : Int} {hs : List Int} {nm : Str} (hk : (nm, Op.doo k false) ∈ opL) (h0 : 0 ≤ at_) (h1 : at_ < s.bx.length) (hl : s.bx.length ≤ 100) (hb : Wds s.bx) (hd0 : 0 ≤ s.hd) (hd1 : k = 5 → s.hd < hs.length) (ht : s.told.length ≤ 100000) (hh : 0 ≤ s.hand ∧ s.hand < 10000) :
    m_law_done [.fz s.d, .fz (.str nm), .fz (.int at_), .fz (.list (hs.map .int))] = some (.v (doK k at_ hs s).d, [.fz s.d, .fz (.str nm), .fz (.int at_), .fz (.list (hs.map .int))]) := by
  simp only [opL, List.mem_cons, Prod.mk.injEq, Op.doo.injEq, reduceCtorEq, and_false, false_or, or_false, List.not_mem_nil, and_true] at hk
  haveI : Tru (0 ≤ at_) := ⟨h0⟩
  haveI : Tru (at_ < (s.bx.length : Int)) := ⟨h1⟩
  haveI : Tru (0 ≤ s.hd) := ⟨hd0⟩
  have hml : (s.told.map PyData.int).length = s.told.length := List.length_map _
  have hml2 : (s.bx.map PyData.int).length = s.bx.length := List.length_map _
  have e : (s.hand + 10000 - bAt s.bx at_) % 10000 = (s.hand - bAt s.bx at_) % 10000 := by omega
  rcases hk with ⟨rfl, rfl⟩ | ⟨rfl, rfl⟩ | ⟨rfl, rfl⟩ | ⟨rfl, rfl⟩ | ⟨rfl, rfl⟩ | ⟨rfl, rfl⟩ | ⟨rfl, rfl⟩
  all_goals
    try haveI : Tru (s.hd < (hs.length : Int)) := ⟨hd1 rfl⟩
    refine wm_out ?_
    unfold m_law_done
    walk_at "start"
    unfold b_law_done
    repeat walk_at "go"
    first
      | exact ⟨rfl, rfl⟩
      | (rw [e]; exact ⟨rfl, rfl⟩)
      | (refine ⟨?_, rfl⟩; simp [doK, Sd.d, List.map_set]; done)
/-! ### a table's row -/
theorem find_none {ps : List (Int × Int)} {x : Int} {i : Nat} (h : ∀ q ∈ ps.take i, q.1 ≠ x) (hi : ps.length ≤ i) : findR ps x = none := by
  rw [List.take_of_length_le hi] at h
  unfold findR
  rw [List.find?_eq_none.mpr fun q hq => by simpa using h q hq]
  rfl
theorem find_hit {ps : List (Int × Int)} {x : Int} {i : Nat} {q : Int × Int} (h : ∀ q ∈ ps.take i, q.1 ≠ x) (hq : ps[i]? = some q) (hx : q.1 = x) : findR ps x = some q.2 := by
  unfold findR
  have hlt := (List.getElem?_eq_some_iff.mp hq).1
  have e : ps = ps.take i ++ q :: ps.drop (i + 1) := by
    have h1 := List.drop_eq_getElem_cons hlt
    rw [List.getElem?_eq_getElem hlt] at hq
    cases hq
    rw [← h1, List.take_append_drop]
  rw [e, List.find?_append, List.find?_eq_none.mpr fun q hq => by simpa using h q hq]
  simp [hx]
instance {q : Int × Int} {g : List D → En → Option En} {e e' : En} [z : Tgs g [.int q.1, .int q.2] e e'] : Tg (gT g) (prD q) e e' := ⟨z.h⟩
/-- one walk through a table's pairs -/
theorem tr_walk {t : Tab} {c0 c1 c2 c4 c5 : Option Cel} {x : Int} {Q : Out → Prop} {E0 : En} (hE : E0 = [c0, c1, c2, some (.fz (.int x)), c4, c5]) (h4 : ∃ y, c4 = fre y) (h5 : ∃ y, c5 = fre y)
    (kn : findR t.2 x = none → ∀ y4 y5, Q (.nx [c0, c1, c2, some (.fz (.int x)), fre y4, fre y5])) (ks : ∀ r, findR t.2 x = some r → ∀ e, Q (.rt (.v (.int r)) (c0 :: c1 :: c2 :: some (.fz (.int x)) :: e))) :
    Lk (gT (gs1 (gN 4) (gs1 (gN 5) (gs0)))) b_table_row_1 (t.2.map prD) E0 Q := by
  subst hE
  obtain ⟨y4, rfl⟩ := h4
  obtain ⟨y5, rfl⟩ := h5
  refine lk_inv (fun i e' => ∃ y4 y5, e' = [c0, c1, c2, some (.fz (.int x)), fre y4, fre y5] ∧ ∀ q ∈ t.2.take i, q.1 ≠ x) ⟨y4, y5, rfl, by simp⟩ (fun i d e' hi hI => ?_) fun e' hI => ?_
  · obtain ⟨y4, y5, rfl, hI⟩ := hI
    obtain ⟨q, hq, rfl⟩ := map_get2 hi
    refine ⟨_, Tg.h, ?_⟩
    unfold b_table_row_1
    by_cases h : q.1 = x
    · haveI : Tru (q.1 = x) := ⟨h⟩
      repeat walk_at "go"
      exact ks _ (find_hit hI hq h) _
    · haveI : Fls (q.1 = x) := ⟨h⟩
      repeat walk_at "go"
      refine ⟨some (_, false), some (_, false), rfl, ?_⟩
      have hlt := (List.getElem?_eq_some_iff.mp hq).1
      rw [List.take_succ_eq_append_getElem hlt]
      rw [List.getElem?_eq_getElem hlt] at hq
      cases hq
      exact mem_snoc hI h
  · obtain ⟨y4, y5, rfl, hI⟩ := hI
    rw [List.length_map] at hI
    exact kn (find_none hI (Nat.le_refl _)) _ _
theorem h_table_row {t : Tab} {b : List Int} (h0 : 0 ≤ t.1) (h1 : t.1 < b.length) : m_table_row [.fz (tabD t), .fz (.tuple (b.map .int))] = some (.v (doorD (tabR t b)), [.fz (tabD t), .fz (.tuple (b.map .int))]) := by
  haveI : Tru (0 ≤ t.1) := ⟨h0⟩
  haveI : Tru (t.1 < (b.length : Int)) := ⟨h1⟩
  refine wm_out ?_
  unfold m_table_row
  walk_at "start"
  unfold b_table_row
  repeat walk_at "go"
  refine lk_cons (Tg.h) ?_
  unfold b_table_row_2
  repeat walk_at "go"
  refine tr_walk rfl ⟨none, rfl⟩ ⟨none, rfl⟩ (fun hn y4 y5 => ?_) fun r hr e => ?_
  · repeat walk_at "go"
    refine lk_cons (Tg.h) ?_
    repeat walk_at "go"
    refine tr_walk rfl ⟨_, rfl⟩ ⟨_, rfl⟩ (fun hn2 y4 y5 => ?_) fun r hr e => ?_
    · repeat walk_at "go"
      exact ⟨by unfold tabR; rw [hn, hn2]; rfl, rfl⟩
    · repeat walk_at "go"
      exact ⟨by unfold tabR; rw [hn, hr]; rfl, rfl⟩
  · repeat walk_at "go"
    exact ⟨by unfold tabR; rw [hr]; rfl, rfl⟩
instance {t : Tab} {b : List Int} [p : Tru (0 ≤ t.1)] [q : Tru (t.1 < (b.length : Int))] : Cal m_table_row [.fz (tabD t), .fz (.tuple (b.map .int))] (.v (doorD (tabR t b))) [.fz (tabD t), .fz (.tuple (b.map .int))] := ⟨h_table_row p.h q.h⟩
/-! ### rows by their names -/
class RowC (P : Pg) (i : Int) (nm : outParam Str) (o m : outParam Int) : Prop where h : (0 ≤ i ∧ i < P.rows.length) ∧ rowAt P i = (nm, o, m)
instance (priority := high) {P : Pg} {i : Int} {nm : Str} {o m : Int} [q : RowC P i nm o m] : Op2 ixD (.tuple (P.rows.map rowD)) (.int i) (.v (.tuple [.str nm, .int o, .int m])) := ⟨by
  have e := at_map (f := rowD) (l := P.rows) (i := i) (x := ("", 0, 0)) q.h.1
  rw [show P.rows.getD i.toNat ("", 0, 0) = (nm, o, m) from q.h.2] at e
  exact e⟩
theorem h_meant {nm : Str} {k : Nat} {by_ : Bool} {o m : Int} {b : List Int} (hop : (nm, Op.doo k by_) ∈ opL) (h0 : 0 ≤ o) (h1 : o < b.length) : m_box_meant [.fz (.tuple [.str nm, .int o, .int m]), .fz (.tuple (b.map .int))] = some (.v (.int (atO b by_ o)), [.fz (.tuple [.str nm, .int o, .int m]), .fz (.tuple (b.map .int))]) := by
  simp only [opL, List.mem_cons, Prod.mk.injEq, Op.doo.injEq, reduceCtorEq, and_false, false_or, or_false, List.not_mem_nil] at hop
  haveI : Tru (0 ≤ o) := ⟨h0⟩
  haveI : Tru (o < (b.length : Int)) := ⟨h1⟩
  rcases hop with ⟨rfl, rfl, rfl⟩ | ⟨rfl, rfl, rfl⟩ | ⟨rfl, rfl, rfl⟩ | ⟨rfl, rfl, rfl⟩ | ⟨rfl, rfl, rfl⟩ | ⟨rfl, rfl, rfl⟩ | ⟨rfl, rfl, rfl⟩ | ⟨rfl, rfl, rfl⟩ | ⟨rfl, rfl, rfl⟩ | ⟨rfl, rfl, rfl⟩ | ⟨rfl, rfl, rfl⟩ | ⟨rfl, rfl, rfl⟩ | ⟨rfl, rfl, rfl⟩ | ⟨rfl, rfl, rfl⟩
  all_goals
    refine wm_out ?_
    unfold m_box_meant
    walk_at "start"
    unfold b_box_meant
    repeat walk_at "go"
    exact ⟨rfl, rfl⟩
class DooF (nm : Str) (k : outParam Nat) (by_ : outParam Bool) : Prop where h : (nm, Op.doo k by_) ∈ opL
instance {nm : Str} {k : Nat} {by_ : Bool} {o m : Int} {b : List Int} [p : Tru (0 ≤ o)] [q : Tru (o < (b.length : Int))] [z : DooF nm k by_] : Cal m_box_meant [.fz (.tuple [.str nm, .int o, .int m]), .fz (.tuple (b.map .int))] (.v (.int (atO b by_ o))) [.fz (.tuple [.str nm, .int o, .int m]), .fz (.tuple (b.map .int))] := ⟨h_meant z.h p.h q.h⟩
/-- all that is asked of a stand -/
structure Stf (P : Pg) (hs : List Int) (s : Sd) : Prop where
  p : PgOk P
  s : SdOk P hs 100000 s
theorem rowOk_at {P : Pg} {i : Int} (h : PgOk P) (h0 : 0 ≤ i) (h1 : i < P.rows.length) : RowOk P.boxes.length P.rows.length P.tabs.length (rowAt P i) := h.rw _ (Sl.getD_mem (by omega))
theorem op_of {s : Str} {o : Op} (h : (s, o) ∈ opL) : opOf s = o := by
  have : ∀ q ∈ opL, opOf q.1 = q.2 := by decide +kernel
  exact this _ h
theorem op_box : ∀ q ∈ opL, (∃ k b, q.2 = .doo k b) ∨ (∃ j, q.2 = .lead j true) → q.1 ∈ boxN := by
  intro q hq
  simp only [opL, List.mem_cons, List.not_mem_nil, or_false] at hq
  rcases hq with rfl | rfl | rfl | rfl | rfl | rfl | rfl | rfl | rfl | rfl | rfl | rfl | rfl | rfl | rfl | rfl | rfl | rfl | rfl | rfl | rfl | rfl | rfl | rfl | rfl | rfl
  all_goals first
    | (intro _; decide)
    | (intro h; exfalso; simp at h; done)
theorem h_end_box {P : Pg} {hs : List Int} {s : Sd} {nm : Str} {o m : Int} {k : Nat} {by_ : Bool} (F : Stf P hs s) (hr : rowAt P s.row = (nm, o, m)) (hop : (nm, Op.doo k by_) ∈ opL) :
    m_end_by_box [.fz P.d, .fz s.d, .fz (.list (hs.map .int))] = some (.v (endD (endR P hs.length s (nm, o, m))), [.fz P.d, .fz s.d, .fz (.list (hs.map .int))]) := by
  have hR := rowOk_at F.p F.s.r0 F.s.r1
  rw [hr] at hR
  have hbx : nm ∈ boxN := op_box _ hop (.inl ⟨_, _, rfl⟩)
  have ho1 : o < s.bx.length := by rw [F.s.bl]; exact hR.ob hbx
  have ho0 : 0 ≤ o := hR.o0
  haveI : RowC P s.row nm o m := ⟨⟨F.s.r0, F.s.r1⟩, hr⟩
  haveI : Tru (0 ≤ o) := ⟨ho0⟩
  haveI : Tru (o < (s.bx.length : Int)) := ⟨ho1⟩
  have hml2 : (s.bx.map PyData.int).length = s.bx.length := List.length_map _
  have hmh : (hs.map PyData.int).length = hs.length := List.length_map _
  have he : endR P hs.length s (nm, o, m) = if (s.bx.length : Int) ≤ atO s.bx by_ o then some (("beyond" : Str), m) else if k = 5 ∧ (hs.length : Int) ≤ s.hd then some (("dry" : Str), m) else none := by
    unfold endR
    rw [op_of hop]
  rw [he]
  haveI : DooF nm k by_ := ⟨hop⟩
  refine wm_out ?_
  unfold m_end_by_box
  walk_at "start"
  unfold b_end_by_box
  by_cases h1 : (s.bx.length : Int) ≤ atO s.bx by_ o
  · haveI : Tru (((s.bx.map PyData.int).length : Int) ≤ atO s.bx by_ o) := ⟨by rw [hml2]; exact h1⟩
    repeat walk_at "go"
    exact ⟨by rw [if_pos h1]; rfl, rfl⟩
  · haveI : Fls (((s.bx.map PyData.int).length : Int) ≤ atO s.bx by_ o) := ⟨by rw [hml2]; exact h1⟩
    rw [if_neg h1]
    by_cases h5 : k = 5
    · have hnm : nm ∈ (["hear", "hearby"] : List Str) := by
        subst h5
        simp only [opL, List.mem_cons, Prod.mk.injEq, Op.doo.injEq, reduceCtorEq, and_false, false_or, or_false, List.not_mem_nil, Nat.reduceEqDiff, false_and] at hop
        rcases hop with ⟨rfl, _, _⟩ | ⟨rfl, _, _⟩ <;> simp
      haveI : Tru (nm ∈ (["hear", "hearby"] : List Str)) := ⟨hnm⟩
      by_cases h2 : (hs.length : Int) ≤ s.hd
      · haveI : Tru (((hs.map PyData.int).length : Int) ≤ s.hd) := ⟨by rw [hmh]; exact h2⟩
        repeat walk_at "go"
        exact ⟨by rw [if_pos ⟨h5, h2⟩]; rfl, rfl⟩
      · haveI : Fls (((hs.map PyData.int).length : Int) ≤ s.hd) := ⟨by rw [hmh]; exact h2⟩
        repeat walk_at "go"
        exact ⟨by rw [if_neg fun q => h2 q.2]; rfl, rfl⟩
    · have hnm : nm ∉ (["hear", "hearby"] : List Str) := by
        intro q
        simp only [List.mem_cons, List.not_mem_nil, or_false] at q
        have e := op_of hop
        rcases q with rfl | rfl
        · rw [show opOf "hear" = .doo 5 false by decide +kernel] at e
          cases e
          exact h5 rfl
        · rw [show opOf "hearby" = .doo 5 true by decide +kernel] at e
          cases e
          exact h5 rfl
      haveI : Fls (nm ∈ (["hear", "hearby"] : List Str)) := ⟨hnm⟩
      repeat walk_at "go"
      exact ⟨by rw [if_neg fun q => h5 q.1]; rfl, rfl⟩
local macro_rules | `(tactic| walk_at "call") => `(tactic| ((with_reducible apply other_step); assumption; omega; intro dd p' hp; refine ⟨_, (by walk_at "set"), ?_⟩))
theorem cut_len (ds : List D) (lo hi : Option Int) : (cutD ds lo hi).length ≤ ds.length := by
  unfold cutD
  rw [List.length_take, List.length_drop]
  omega
set_option maxHeartbeats 800000 in
theorem w_other_row {n at_ nb nt : Int} {p : D} {P : Pg} (hp : Pool n p) (hn : n < 100000) (hr : P.rows.length ≤ 2000) (h : 0 ≤ at_ ∧ at_ < P.rows.length) : Wm m_law_other_row [.io p, .fz (.tuple (P.rows.map rowD)), .fz (.int at_), .fz (.int nb), .fz (.int nt)] fun r out => ∃ (d p' : D), r = .v d ∧ out = [.io p', .fz (.tuple (P.rows.map rowD)), .fz (.int at_), .fz (.int nb), .fz (.int nt)] ∧ Pool (n + 5) p' := by
  have m1 : (P.rows.map rowD).length = P.rows.length := List.length_map _
  haveI : Tru (0 ≤ at_) := ⟨h.1⟩
  haveI : Tru ((P.rows.map rowD).length ≤ 3000) := ⟨by omega⟩
  obtain ⟨nm, o, m, hrow⟩ : ∃ nm o m, rowAt P at_ = (nm, o, m) := ⟨_, _, _, rfl⟩
  haveI : RowC P at_ nm o m := ⟨h, hrow⟩
  unfold m_law_other_row
  walk_at "start"
  unfold b_law_other_row
  repeat walk_at "go"
  rename_i w q hq w0 w1 _ _
  have hw : w = 0 ∨ w = 1 ∨ w = 2 ∨ w = 3 ∨ w = 4 ∨ w = 5 ∨ w = 6 := by omega
  rcases hw with rfl | rfl | rfl | rfl | rfl | rfl | rfl
  · repeat walk_at "go"
    refine k2_ixA rfl rfl (by assumption) (by first | assumption | (simp only [namesL, List.length_map, List.length_cons, List.length_nil]; omega)) fun d hd => ?_
    repeat walk_at "go"
    exact ⟨_, _, rfl, rfl, pool_mono (by assumption) (by omega)⟩
  · repeat walk_at "gi"
    exact ⟨_, _, rfl, rfl, pool_mono (by assumption) (by omega)⟩
  · repeat walk_at "go"
    exact ⟨_, _, rfl, rfl, pool_mono (by assumption) (by omega)⟩
  · repeat walk_at "go"
    refine k2_ixA rfl rfl (by assumption) (by first | assumption | (simp only [namesL, List.length_map, List.length_cons, List.length_nil]; omega)) fun d hd => ?_
    repeat walk_at "go"
    exact ⟨_, _, rfl, rfl, pool_mono (by assumption) (by omega)⟩
  · repeat walk_at "go"
    exact ⟨_, _, rfl, rfl, pool_mono (by assumption) (by omega)⟩
  · repeat walk_at "go"
    refine k2_ixA rfl rfl (by assumption) (by first | assumption | (simp only [namesL, List.length_map, List.length_cons, List.length_nil]; omega)) fun d hd => ?_
    repeat walk_at "go"
    have hc := cut_len (P.rows.map rowD) none (some (-1))
    repeat walk_at "go"
    exact ⟨_, _, rfl, rfl, pool_mono (by assumption) (by omega)⟩
  · repeat walk_at "go"
    have hc := cut_len (P.rows.map rowD) (some at_) (some (at_ + 1))
    repeat walk_at "go"
    exact ⟨_, _, rfl, rfl, pool_mono (by assumption) (by omega)⟩
class GoesC (j : Nat) (h : Int) (b : outParam Bool) : Prop where h : goesO j h = b
instance (priority := high) {s : Str} {j : Nat} {h : Int} {b : Bool} [q : LeadF s j] [z : GoesC j h b] : Cal m_does_go [.fz (.str s), .fz (.int h)] (.v (.bool b)) [.fz (.str s), .fz (.int h)] := ⟨by
  obtain ⟨h1, b, h2⟩ := q.h
  rw [← z.h]
  exact h_goes h2 h1 h⟩
class IsN (o : Option Int) (b : outParam Bool) : Prop where h : o.isNone = b
instance (priority := high) {o : Option Int} {b : Bool} [q : IsN o b] : Op2 isR (doorD o) .none (.v (.bool b)) := ⟨by rw [← q.h]; cases o <;> rfl⟩
theorem lead_mem {nm : Str} {j : Nat} {b : Bool} (h : (nm, Op.lead j b) ∈ opL) : nm ∈ allN := by
  simp only [opL, List.mem_cons, Prod.mk.injEq, Op.lead.injEq, reduceCtorEq, and_false, false_or, or_false, List.not_mem_nil] at h
  rcases h with ⟨rfl, _⟩ | ⟨rfl, _⟩ | ⟨rfl, _⟩ | ⟨rfl, _⟩ | ⟨rfl, _⟩ | ⟨rfl, _⟩ <;> decide
theorem h_end_door {P : Pg} {hs : List Int} {s : Sd} {nm : Str} {o m : Int} {j : Nat} (F : Stf P hs s) (hr : rowAt P s.row = (nm, o, m)) (hop : (nm, Op.lead j true) ∈ opL) :
    m_end_by_door [.fz P.d, .fz s.d] = some (.v (endD (endR P hs.length s (nm, o, m))), [.fz P.d, .fz s.d]) := by
  have hR := rowOk_at F.p F.s.r0 F.s.r1
  rw [hr] at hR
  have hbx : nm ∈ boxN := op_box _ hop (.inr ⟨_, rfl⟩)
  have ho1 : o < s.bx.length := by rw [F.s.bl]; exact hR.ob hbx
  have ho0 : 0 ≤ o := hR.o0
  haveI : RowC P s.row nm o m := ⟨⟨F.s.r0, F.s.r1⟩, hr⟩
  haveI : Tru (0 ≤ o) := ⟨ho0⟩
  haveI : Tru (o < (s.bx.length : Int)) := ⟨ho1⟩
  haveI : LeadF nm j := ⟨lead_mem hop, true, op_of hop⟩
  have hmd : (P.doors.map doorD).length = P.doors.length := List.length_map _
  have he : endR P hs.length s (nm, o, m) = if goesO j s.hand = true then (if (P.doors.length : Int) ≤ bAt s.bx o % 100 then some (("off" : Str), bAt s.bx o % 100) else if (doorAt P (bAt s.bx o % 100)).isNone = true then some (("lost" : Str), bAt s.bx o % 100) else none) else none := by
    unfold endR
    rw [op_of hop]
  rw [he]
  refine wm_out ?_
  unfold m_end_by_door
  walk_at "start"
  unfold b_end_by_door
  cases hb : goesO j s.hand with
  | false =>
    haveI : GoesC j s.hand false := ⟨hb⟩
    repeat walk_at "go"
    exact ⟨rfl, rfl⟩
  | true =>
    haveI : GoesC j s.hand true := ⟨hb⟩
    rw [if_pos rfl]
    by_cases h1 : (P.doors.length : Int) ≤ bAt s.bx o % 100
    · haveI : Tru (((P.doors.map doorD).length : Int) ≤ bAt s.bx o % 100) := ⟨by rw [hmd]; exact h1⟩
      repeat walk_at "go"
      exact ⟨by rw [if_pos h1]; rfl, rfl⟩
    · haveI : Fls (((P.doors.map doorD).length : Int) ≤ bAt s.bx o % 100) := ⟨by rw [hmd]; exact h1⟩
      haveI : InDoors P (bAt s.bx o % 100) := ⟨by omega⟩
      rw [if_neg h1]
      cases hn : (doorAt P (bAt s.bx o % 100)).isNone with
      | true =>
        haveI : IsN (doorAt P (bAt s.bx o % 100)) true := ⟨hn⟩
        repeat walk_at "go"
        exact ⟨rfl, rfl⟩
      | false =>
        haveI : IsN (doorAt P (bAt s.bx o % 100)) false := ⟨hn⟩
        repeat walk_at "go"
        exact ⟨rfl, rfl⟩
class EndBox (P : Pg) (hs : List Int) (s : Sd) (r : outParam D) : Prop where h : m_end_by_box [.fz P.d, .fz s.d, .fz (.list (hs.map .int))] = some (.v r, [.fz P.d, .fz s.d, .fz (.list (hs.map .int))])
instance {P : Pg} {hs : List Int} {s : Sd} {r : D} [q : EndBox P hs s r] : Cal m_end_by_box [.fz P.d, .fz s.d, .fz (.list (hs.map .int))] (.v r) [.fz P.d, .fz s.d, .fz (.list (hs.map .int))] := ⟨q.h⟩
class EndDoor (P : Pg) (s : Sd) (r : outParam D) : Prop where h : m_end_by_door [.fz P.d, .fz s.d] = some (.v r, [.fz P.d, .fz s.d])
instance {P : Pg} {s : Sd} {r : D} [q : EndDoor P s r] : Cal m_end_by_door [.fz P.d, .fz s.d] (.v r) [.fz P.d, .fz s.d] := ⟨q.h⟩
theorem tabOk_at {P : Pg} {i : Int} (h : PgOk P) (h0 : 0 ≤ i) (h1 : i < P.tabs.length) : TabOk P.boxes.length P.rows.length (tabAt P i) := h.tw _ (Sl.getD_mem (by omega))
theorem h_end_at {P : Pg} {hs : List Int} {s : Sd} (F : Stf P hs s) :
    m_end_at [.fz P.d, .fz s.d, .fz (.list (hs.map .int))] = some (.v (endD (endR P hs.length s (rowAt P s.row))), [.fz P.d, .fz s.d, .fz (.list (hs.map .int))]) := by
  have hR := rowOk_at F.p F.s.r0 F.s.r1
  generalize hr : rowAt P s.row = r at hR
  obtain ⟨nm, o, m⟩ := r
  have hop := op_mem nm hR.nm
  have hop0 := hop
  simp only [opL, List.mem_cons, Prod.mk.injEq, List.not_mem_nil, or_false] at hop
  haveI : RowC P s.row nm o m := ⟨⟨F.s.r0, F.s.r1⟩, hr⟩
  rcases hop with ⟨rfl, h⟩ | ⟨rfl, h⟩ | ⟨rfl, h⟩ | ⟨rfl, h⟩ | ⟨rfl, h⟩ | ⟨rfl, h⟩ | ⟨rfl, h⟩ | ⟨rfl, h⟩ | ⟨rfl, h⟩ | ⟨rfl, h⟩ | ⟨rfl, h⟩ | ⟨rfl, h⟩ | ⟨rfl, h⟩ | ⟨rfl, h⟩ | ⟨rfl, h⟩ | ⟨rfl, h⟩ | ⟨rfl, h⟩ | ⟨rfl, h⟩ | ⟨rfl, h⟩ | ⟨rfl, h⟩ | ⟨rfl, h⟩ | ⟨rfl, h⟩ | ⟨rfl, h⟩ | ⟨rfl, h⟩ | ⟨rfl, h⟩ | ⟨rfl, h⟩
  all_goals
    rw [h] at hop0
    have ho := op_of hop0
    first
    | (haveI := EndBox.mk (h_end_box F hr hop0)
       refine wm_out ?_
       unfold m_end_at
       walk_at "start"
       unfold b_end_at
       repeat walk_at "go"
       exact ⟨rfl, rfl⟩)
    | (haveI := EndDoor.mk (h_end_door (hs := hs) F hr hop0)
       refine wm_out ?_
       unfold m_end_at
       walk_at "start"
       unfold b_end_at
       repeat walk_at "go"
       exact ⟨rfl, rfl⟩)
    | (refine wm_out ?_
       unfold m_end_at
       walk_at "start"
       unfold b_end_at
       repeat walk_at "go"
       refine ⟨?_, rfl⟩
       unfold endR
       simp only [ho]
       rfl)
    | skip
  have hT : TabOk P.boxes.length P.rows.length (tabAt P o) := tabOk_at F.p hR.o0 (hR.os rfl)
  haveI : InTabs P o := ⟨⟨hR.o0, hR.os rfl⟩⟩
  haveI : Tru (0 ≤ (tabAt P o).1) := ⟨hT.b0⟩
  haveI : Tru ((tabAt P o).1 < (s.bx.length : Int)) := ⟨by rw [F.s.bl]; exact hT.b1⟩
  cases hn : (tabR (tabAt P o) s.bx).isNone with
  | true =>
    haveI : IsN (tabR (tabAt P o) s.bx) true := ⟨hn⟩
    refine wm_out ?_
    unfold m_end_at
    walk_at "start"
    unfold b_end_at
    repeat walk_at "go"
    refine ⟨?_, rfl⟩
    unfold endR
    simp only [ho, hn]
    rfl
  | false =>
    haveI : IsN (tabR (tabAt P o) s.bx) false := ⟨hn⟩
    refine wm_out ?_
    unfold m_end_at
    walk_at "start"
    unfold b_end_at
    repeat walk_at "go"
    refine ⟨?_, rfl⟩
    unfold endR
    simp only [ho, hn]
    rfl
class StF (P : Pg) (hs : List Int) (s : Sd) : Prop where h : Stf P hs s
instance {P : Pg} {hs : List Int} {s : Sd} [q : StF P hs s] : Cal m_end_at [.fz P.d, .fz s.d, .fz (.list (hs.map .int))] (.v (endD (endR P hs.length s (rowAt P s.row)))) [.fz P.d, .fz s.d, .fz (.list (hs.map .int))] := ⟨h_end_at q.h⟩
class EndV (P : Pg) (hs : List Int) (s : Sd) (d : outParam D) : Prop where h : endD (endR P hs.length s (rowAt P s.row)) = d
instance (priority := high) {P : Pg} {hs : List Int} {s : Sd} {d : D} [q : StF P hs s] [z : EndV P hs s d] : Cal m_end_at [.fz P.d, .fz s.d, .fz (.list (hs.map .int))] (.v d) [.fz P.d, .fz s.d, .fz (.list (hs.map .int))] := ⟨by rw [h_end_at q.h, z.h]⟩
class DoorC (P : Pg) (a : Int) (i : outParam Int) : Prop where h : (0 ≤ a ∧ a < P.doors.length) ∧ doorAt P a = some i
instance (priority := high) {P : Pg} {a i : Int} [q : DoorC P a i] : Op2 ixD (.tuple (P.doors.map doorD)) (.int a) (.v (.int i)) := ⟨by
  have e := at_map (f := doorD) (l := P.doors) (i := a) (x := none) q.h.1
  rw [show P.doors.getD a.toNat none = some i from q.h.2] at e
  exact e⟩
class TabC (t : Tab) (b : List Int) (i : outParam Int) : Prop where h : (0 ≤ t.1 ∧ t.1 < b.length) ∧ tabR t b = some i
instance (priority := high) {t : Tab} {b : List Int} {i : Int} [q : TabC t b i] : Cal m_table_row [.fz (tabD t), .fz (.tuple (b.map .int))] (.v (.int i)) [.fz (tabD t), .fz (.tuple (b.map .int))] := ⟨by
  rw [h_table_row q.h.1.1 q.h.1.2, q.h.2]
  rfl⟩
theorem h_led {P : Pg} {hs : List Int} {s : Sd} {nm : Str} {o m : Int} {op : Op} (F : Stf P hs s) (hr : rowAt P s.row = (nm, o, m)) (hop : (nm, op) ∈ opL) (hl : (∃ j b, op = .lead j b) ∨ op = .sw) (he : endR P hs.length s (nm, o, m) = none) :
    m_row_led_to [.fz P.d, .fz s.d] = some (.v (.int (stepR P hs s (nm, o, m)).row), [.fz P.d, .fz s.d]) := by
  have hR := rowOk_at F.p F.s.r0 F.s.r1
  rw [hr] at hR
  have ho0 : 0 ≤ o := hR.o0
  haveI : RowC P s.row nm o m := ⟨⟨F.s.r0, F.s.r1⟩, hr⟩
  have hop1 := op_of hop
  unfold endR at he
  simp only [hop1] at he
  unfold stepR
  simp only [hop1]
  rcases hl with ⟨j, b, rfl⟩ | rfl
  · haveI : LeadF nm j := ⟨lead_mem hop, b, op_of hop⟩
    have hc := hop
    simp only [opL, List.mem_cons, Prod.mk.injEq, Op.lead.injEq, reduceCtorEq, and_false, false_or, or_false, List.not_mem_nil] at hc
    cases hb : goesO j s.hand with
    | false =>
      haveI : GoesC j s.hand false := ⟨hb⟩
      rcases hc with ⟨rfl, rfl, rfl⟩ | ⟨rfl, rfl, rfl⟩ | ⟨rfl, rfl, rfl⟩ | ⟨rfl, rfl, rfl⟩ | ⟨rfl, rfl, rfl⟩ | ⟨rfl, rfl, rfl⟩
      all_goals
        refine wm_out ?_
        unfold m_row_led_to
        walk_at "start"
        unfold b_row_led_to
        repeat walk_at "go"
        (refine ⟨?_, rfl⟩; first | rfl | simp [hb])
    | true =>
      haveI : GoesC j s.hand true := ⟨hb⟩
      cases b with
      | false =>
        rcases hc with ⟨rfl, rfl, hx⟩ | ⟨rfl, rfl, hx⟩ | ⟨rfl, rfl, hx⟩ | ⟨rfl, rfl, hx⟩ | ⟨rfl, rfl, hx⟩ | ⟨rfl, rfl, hx⟩
        all_goals first
          | exact absurd hx (by decide)
          | (refine wm_out ?_
             unfold m_row_led_to
             walk_at "start"
             unfold b_row_led_to
             repeat walk_at "go"
             (refine ⟨?_, rfl⟩; first | rfl | simp [hb]))
      | true =>
        have hbx : nm ∈ boxN := op_box _ hop (.inr ⟨_, rfl⟩)
        have ho1 : o < s.bx.length := by rw [F.s.bl]; exact hR.ob hbx
        haveI : Tru (0 ≤ o) := ⟨ho0⟩
        haveI : Tru (o < (s.bx.length : Int)) := ⟨ho1⟩
        simp only [hb, if_true] at he
        have h1 : ¬ (P.doors.length : Int) ≤ bAt s.bx o % 100 := fun q => by rw [if_pos q] at he; cases he
        rw [if_neg h1] at he
        cases hd : doorAt P (bAt s.bx o % 100) with
        | none => rw [hd] at he; cases he
        | some i =>
          haveI : DoorC P (bAt s.bx o % 100) i := ⟨⟨by omega, by omega⟩, hd⟩
          rcases hc with ⟨rfl, rfl, hx⟩ | ⟨rfl, rfl, hx⟩ | ⟨rfl, rfl, hx⟩ | ⟨rfl, rfl, hx⟩ | ⟨rfl, rfl, hx⟩ | ⟨rfl, rfl, hx⟩
          all_goals first
            | exact absurd hx (by decide)
            | (refine wm_out ?_
               unfold m_row_led_to
               walk_at "start"
               unfold b_row_led_to
               repeat walk_at "go"
               (refine ⟨?_, rfl⟩; first | rfl | simp [hb]))
  · have hnm : nm = "switch" := by
      simp only [opL, List.mem_cons, Prod.mk.injEq, reduceCtorEq, and_false, false_or, or_false, and_true, List.not_mem_nil] at hop
      exact hop
    subst hnm
    have hT : TabOk P.boxes.length P.rows.length (tabAt P o) := tabOk_at F.p hR.o0 (hR.os rfl)
    haveI : InTabs P o := ⟨⟨hR.o0, hR.os rfl⟩⟩
    cases hn : tabR (tabAt P o) s.bx with
    | none => simp only [hn] at he; cases he
    | some i =>
      haveI : TabC (tabAt P o) s.bx i := ⟨⟨hT.b0, by rw [F.s.bl]; exact hT.b1⟩, hn⟩
      refine wm_out ?_
      unfold m_row_led_to
      walk_at "start"
      unfold b_row_led_to
      repeat walk_at "go"
      exact ⟨rfl, rfl⟩
class LedC (P : Pg) (s : Sd) (i : outParam Int) : Prop where h : m_row_led_to [.fz P.d, .fz s.d] = some (.v (.int i), [.fz P.d, .fz s.d])
instance {P : Pg} {s : Sd} {i : Int} [q : LedC P s i] : Cal m_row_led_to [.fz P.d, .fz s.d] (.v (.int i)) [.fz P.d, .fz s.d] := ⟨q.h⟩
class DoneC (s : Sd) (nm : Str) (at_ : Int) (hs : List Int) (s' : outParam Sd) : Prop where h : m_done_by_box [.fz s.d, .fz (.str nm), .fz (.int at_), .fz (.list (hs.map .int))] = some (.v s'.d, [.fz s.d, .fz (.str nm), .fz (.int at_), .fz (.list (hs.map .int))])
instance {s s' : Sd} {nm : Str} {at_ : Int} {hs : List Int} [q : DoneC s nm at_ hs s'] : Cal m_done_by_box [.fz s.d, .fz (.str nm), .fz (.int at_), .fz (.list (hs.map .int))] (.v s'.d) [.fz s.d, .fz (.str nm), .fz (.int at_), .fz (.list (hs.map .int))] := ⟨q.h⟩
theorem sl_sd {s : Sd} : slD s.d (some 1) none = some (.v (.tuple [.int s.hand, .tuple (s.bx.map .int), .int s.hd, .tuple (s.told.map .int)])) := rfl
local macro_rules | `(tactic| walk_at "g1") => `(tactic| ((with_reducible apply ks); walk_at "get"; exact sl_sd))
theorem atO_dom {b : List Int} {y : Bool} {o : Int} (h : 0 ≤ o) (hb : Wds b) : 0 ≤ atO b y o := by
  unfold atO
  have := (bAt_dom (i := o) hb).1
  split <;> omega
theorem h_still_step {P : Pg} {hs : List Int} {s : Sd} (F : Stf P hs s) (he : endR P hs.length s (rowAt P s.row) = none) :
    m_still_step [.fz P.d, .fz s.d, .fz (.list (hs.map .int))] = some (.v (stepR P hs s (rowAt P s.row)).d, [.fz P.d, .fz s.d, .fz (.list (hs.map .int))]) := by
  have hR := rowOk_at F.p F.s.r0 F.s.r1
  haveI : StF P hs s := ⟨F⟩
  haveI : EndV P hs s .none := ⟨by rw [he]; rfl⟩
  generalize hr : rowAt P s.row = r at hR he
  obtain ⟨nm, o, m⟩ := r
  have hop := op_mem nm hR.nm
  have hop0 := hop
  haveI : RowC P s.row nm o m := ⟨⟨F.s.r0, F.s.r1⟩, hr⟩
  have hh := F.s
  have h2 := F.p.b2
  have hbl := F.s.bl
  cases e : opOf nm with
  | en => unfold endR at he; simp only [e] at he; cases he
  | doo k y =>
    rw [e] at hop0
    have hbx : nm ∈ boxN := op_box _ hop0 (.inl ⟨_, _, rfl⟩)
    have ho1 : o < s.bx.length := by rw [F.s.bl]; exact hR.ob hbx
    haveI : Tru (0 ≤ o) := ⟨hR.o0⟩
    haveI : Tru (o < (s.bx.length : Int)) := ⟨ho1⟩
    haveI : DooF nm k y := ⟨hop0⟩
    have es : stepR P hs s (nm, o, m) = doK k (atO s.bx y o) hs s := by unfold stepR; simp only [e]
    rw [es]
    unfold endR at he
    simp only [e] at he
    have g1 : ¬ (s.bx.length : Int) ≤ atO s.bx y o := fun q => by rw [if_pos q] at he; cases he
    rw [if_neg g1] at he
    have g2 : k = 5 → s.hd < hs.length := fun q => by
      by_cases z : (hs.length : Int) ≤ s.hd
      · rw [if_pos ⟨q, z⟩] at he; cases he
      · omega
    have hat : 0 ≤ atO s.bx y o := atO_dom hR.o0 hh.bw
    have hdn := fun nm' (hk : (nm', Op.doo k false) ∈ opL) => h_done (hs := hs) hk hat (by omega) (by omega) hh.bw hh.d0 g2 hh.tl ⟨hh.h0, hh.h1⟩
    simp only [opL, List.mem_cons, Prod.mk.injEq, Op.doo.injEq, reduceCtorEq, and_false, false_or, or_false, List.not_mem_nil] at hop0
    rcases hop0 with ⟨rfl, rfl, rfl⟩ | ⟨rfl, rfl, rfl⟩ | ⟨rfl, rfl, rfl⟩ | ⟨rfl, rfl, rfl⟩ | ⟨rfl, rfl, rfl⟩ | ⟨rfl, rfl, rfl⟩ | ⟨rfl, rfl, rfl⟩ | ⟨rfl, rfl, rfl⟩ | ⟨rfl, rfl, rfl⟩ | ⟨rfl, rfl, rfl⟩ | ⟨rfl, rfl, rfl⟩ | ⟨rfl, rfl, rfl⟩ | ⟨rfl, rfl, rfl⟩ | ⟨rfl, rfl, rfl⟩
    · haveI : DoneC s "load" o hs (doK 0 (atO s.bx false o) hs s) := ⟨hdn "load" (by decide)⟩
      refine wm_out ?_
      unfold m_still_step
      walk_at "start"
      unfold b_still_step
      repeat walk_at "go"
      exact ⟨rfl, rfl⟩
    · haveI : DoneC s "store" o hs (doK 1 (atO s.bx false o) hs s) := ⟨hdn "store" (by decide)⟩
      refine wm_out ?_
      unfold m_still_step
      walk_at "start"
      unfold b_still_step
      repeat walk_at "go"
      exact ⟨rfl, rfl⟩
    · haveI : DoneC s "add" o hs (doK 2 (atO s.bx false o) hs s) := ⟨hdn "add" (by decide)⟩
      refine wm_out ?_
      unfold m_still_step
      walk_at "start"
      unfold b_still_step
      repeat walk_at "go"
      exact ⟨rfl, rfl⟩
    · haveI : DoneC s "less" o hs (doK 3 (atO s.bx false o) hs s) := ⟨hdn "less" (by decide)⟩
      refine wm_out ?_
      unfold m_still_step
      walk_at "start"
      unfold b_still_step
      repeat walk_at "go"
      exact ⟨rfl, rfl⟩
    · haveI : DoneC s "say" o hs (doK 4 (atO s.bx false o) hs s) := ⟨hdn "say" (by decide)⟩
      refine wm_out ?_
      unfold m_still_step
      walk_at "start"
      unfold b_still_step
      repeat walk_at "go"
      exact ⟨rfl, rfl⟩
    · haveI : DoneC s "hear" o hs (doK 5 (atO s.bx false o) hs s) := ⟨hdn "hear" (by decide)⟩
      refine wm_out ?_
      unfold m_still_step
      walk_at "start"
      unfold b_still_step
      repeat walk_at "go"
      exact ⟨rfl, rfl⟩
    · haveI : DoneC s "patch" o hs (doK 6 (atO s.bx false o) hs s) := ⟨hdn "patch" (by decide)⟩
      refine wm_out ?_
      unfold m_still_step
      walk_at "start"
      unfold b_still_step
      repeat walk_at "go"
      exact ⟨rfl, rfl⟩
    · haveI := DoneC.mk (hdn "load" (by decide))
      refine wm_out ?_
      unfold m_still_step
      walk_at "start"
      unfold b_still_step
      repeat walk_at "go"
      exact ⟨rfl, rfl⟩
    · haveI := DoneC.mk (hdn "store" (by decide))
      refine wm_out ?_
      unfold m_still_step
      walk_at "start"
      unfold b_still_step
      repeat walk_at "go"
      exact ⟨rfl, rfl⟩
    · haveI := DoneC.mk (hdn "add" (by decide))
      refine wm_out ?_
      unfold m_still_step
      walk_at "start"
      unfold b_still_step
      repeat walk_at "go"
      exact ⟨rfl, rfl⟩
    · haveI := DoneC.mk (hdn "less" (by decide))
      refine wm_out ?_
      unfold m_still_step
      walk_at "start"
      unfold b_still_step
      repeat walk_at "go"
      exact ⟨rfl, rfl⟩
    · haveI := DoneC.mk (hdn "say" (by decide))
      refine wm_out ?_
      unfold m_still_step
      walk_at "start"
      unfold b_still_step
      repeat walk_at "go"
      exact ⟨rfl, rfl⟩
    · haveI := DoneC.mk (hdn "hear" (by decide))
      refine wm_out ?_
      unfold m_still_step
      walk_at "start"
      unfold b_still_step
      repeat walk_at "go"
      exact ⟨rfl, rfl⟩
    · haveI := DoneC.mk (hdn "patch" (by decide))
      refine wm_out ?_
      unfold m_still_step
      walk_at "start"
      unfold b_still_step
      repeat walk_at "go"
      exact ⟨rfl, rfl⟩
  | lead j y =>
    rw [e] at hop0
    haveI := LedC.mk (h_led F hr hop0 (.inl ⟨_, _, rfl⟩) he)
    have es : (stepR P hs s (nm, o, m)).d = .tuple [.int (stepR P hs s (nm, o, m)).row, .int s.hand, .tuple (s.bx.map .int), .int s.hd, .tuple (s.told.map .int)] := by unfold stepR; simp only [e]; rfl
    rw [es]
    simp only [opL, List.mem_cons, Prod.mk.injEq, Op.lead.injEq, reduceCtorEq, and_false, false_or, or_false, List.not_mem_nil] at hop0
    rcases hop0 with ⟨rfl, rfl, rfl⟩ | ⟨rfl, rfl, rfl⟩ | ⟨rfl, rfl, rfl⟩ | ⟨rfl, rfl, rfl⟩ | ⟨rfl, rfl, rfl⟩ | ⟨rfl, rfl, rfl⟩
    all_goals
      refine wm_out ?_
      unfold m_still_step
      walk_at "start"
      unfold b_still_step
      repeat walk_at "go"
      exact ⟨rfl, rfl⟩
  | sw =>
    rw [e] at hop0
    haveI := LedC.mk (h_led F hr hop0 (.inr rfl) he)
    have es : (stepR P hs s (nm, o, m)).d = .tuple [.int (stepR P hs s (nm, o, m)).row, .int s.hand, .tuple (s.bx.map .int), .int s.hd, .tuple (s.told.map .int)] := by unfold stepR; simp only [e]; rfl
    rw [es]
    simp only [opL, List.mem_cons, Prod.mk.injEq, reduceCtorEq, and_false, false_or, or_false, and_true, List.not_mem_nil] at hop0
    subst hop0
    refine wm_out ?_
    unfold m_still_step
    walk_at "start"
    unfold b_still_step
    repeat walk_at "go"
    exact ⟨rfl, rfl⟩
theorem eq_nilT {ds : List D} (h : SeqAt.shaped (.tuple ds) = true) : eqR (.tuple ds) (.tuple []) = some (.v (.bool ds.isEmpty)) := by
  show ((if (SeqAt.shaped (.tuple ds) && SeqAt.shaped (.tuple [])) = true then some (PyData.eqv (.tuple ds) (.tuple [])) else none).map _) = _
  rw [h]
  cases ds with
  | nil => rfl
  | cons d ds => simp [PyData.eqv, PyData.eqvAll, show SeqAt.shaped (PyData.tuple []) = true from rfl]
theorem sh_prs (ps : List (Int × Int)) : SeqAt.shaped (.tuple (ps.map prD)) = true := sh_ok (n := 8) (sh_tup (shA_map fun q => sh_tup (shA_cons sh_int (shA_cons sh_int shA_nil)))) (by decide)
theorem sh_tabs (ts : List Tab) : SeqAt.shaped (.tuple (ts.map tabD)) = true := sh_ok (n := 8) (sh_tup (shA_map fun q => sh_tup (shA_cons sh_int (shA_cons (sh_tup (shA_map fun q => sh_tup (shA_cons sh_int (shA_cons sh_int shA_nil)))) shA_nil)))) (by decide)
local macro_rules | `(tactic| walk_at "call") => `(tactic| ((with_reducible apply other_step); assumption; omega; intro dd p' hp; refine ⟨_, (by walk_at "set"), ?_⟩))
set_option maxHeartbeats 800000 in
theorem w_other_table {n at_ nr nb : Int} {p : D} {P : Pg} (hp : Pool n p) (hn : n < 100000) (hP : PgOk P) (h : 0 ≤ at_) : Wm m_law_other_table [.io p, .fz (.tuple (P.tabs.map tabD)), .fz (.int at_), .fz (.int nr), .fz (.int nb)] fun r out => ∃ (d p' : D), r = .v d ∧ out = [.io p', .fz (.tuple (P.tabs.map tabD)), .fz (.int at_), .fz (.int nr), .fz (.int nb)] ∧ Pool (n + 9) p' := by
  have m1 : (P.tabs.map tabD).length = P.tabs.length := List.length_map _
  have ht2 := hP.t2
  haveI : Tru ((P.tabs.map tabD).length ≤ 3000) := ⟨by omega⟩
  have e := eq_nilT (sh_tabs P.tabs)
  unfold m_law_other_table
  walk_at "start"
  unfold b_law_other_table
  by_cases h0 : P.tabs = []
  · rw [h0] at e ⊢
    simp only [List.map_nil] at e ⊢
    repeat walk_at "go"
    exact ⟨_, _, rfl, rfl, pool_mono (by assumption) (by omega)⟩
  have h1 : 0 < (P.tabs.length : Int) := by have := List.length_pos_iff.mpr h0; omega
  have e2 : (P.tabs.map tabD).isEmpty = false := by
    cases q : P.tabs with
    | nil => exact absurd q h0
    | cons _ _ => rfl
  rw [e2] at e
  haveI : Op2 eqR (.tuple (P.tabs.map tabD)) (.tuple []) (.v (.bool false)) := ⟨e⟩
  have hm0 := Int.emod_nonneg at_ (show (P.tabs.length : Int) ≠ 0 by omega)
  have hm1 := Int.emod_lt_of_pos at_ h1
  haveI : InTabs P (at_ % ((P.tabs.map tabD).length : Int)) := ⟨by rw [m1]; exact ⟨hm0, hm1⟩⟩
  haveI : Tru (0 ≤ at_ % ((P.tabs.map tabD).length : Int)) := ⟨by rw [m1]; exact hm0⟩
  repeat walk_at "go"
  rename_i w q hq w0 w1 _ _
  have hT := tabOk_at hP hm0 hm1
  rw [← m1] at hT
  generalize tabAt P (at_ % ((P.tabs.map tabD).length : Int)) = t at *
  have hfew := hT.few
  have m2 : (t.2.map prD).length = t.2.length := List.length_map _
  have e3 := eq_nilT (sh_prs t.2)
  clear e e2 hm0 hm1
  have hw : w = 0 ∨ w = 1 ∨ w = 2 ∨ w = 3 ∨ w = 4 ∨ w = 5 := by omega
  rcases hw with rfl | rfl | rfl | rfl | rfl | rfl
  · repeat walk_at "go"
    exact ⟨_, _, rfl, rfl, pool_mono (by assumption) (by omega)⟩
  · repeat walk_at "go"
    refine k2_ixA rfl rfl (by assumption) (by assumption) fun d hd => ?_
    repeat walk_at "go"
    exact ⟨_, _, rfl, rfl, pool_mono (by assumption) (by omega)⟩
  · repeat walk_at "go"
    refine k2_ixA rfl rfl (by assumption) (by assumption) fun d hd => ?_
    repeat walk_at "go"
    exact ⟨_, _, rfl, rfl, pool_mono (by assumption) (by omega)⟩
  · by_cases hz : t.2 = []
    · haveI : Op2 eqR (.tuple (t.2.map prD)) (.tuple []) (.v (.bool true)) := ⟨by rw [e3, hz]; rfl⟩
      repeat walk_at "go"
      refine k2_ixA rfl rfl (by assumption) (by assumption) fun d hd => ?_
      repeat walk_at "go"
      exact ⟨_, _, rfl, rfl, pool_mono (by assumption) (by omega)⟩
    · have hzl : 0 < ((t.2.map prD).length : Int) := by have := List.length_pos_iff.mpr hz; omega
      haveI : Op2 eqR (.tuple (t.2.map prD)) (.tuple []) (.v (.bool false)) := ⟨by
        rw [e3]
        cases q : t.2 with
        | nil => exact absurd q hz
        | cons _ _ => rfl⟩
      have hc := cut_len (t.2.map prD)
      repeat walk_at "go"
      rename_i k q2 hq2 k0 k1 _ _
      have hc2 := hc (some k) (some (k + 1))
      repeat walk_at "go"
      exact ⟨_, _, rfl, rfl, pool_mono (by assumption) (by omega)⟩
  · by_cases hz : t.2 = []
    · haveI : Op2 eqR (.tuple (t.2.map prD)) (.tuple []) (.v (.bool true)) := ⟨by rw [e3, hz]; rfl⟩
      repeat walk_at "go"
      refine k2_ixA rfl rfl (by assumption) (by assumption) fun d hd => ?_
      repeat walk_at "go"
      exact ⟨_, _, rfl, rfl, pool_mono (by assumption) (by omega)⟩
    · have hzl : 0 < ((t.2.map prD).length : Int) := by have := List.length_pos_iff.mpr hz; omega
      haveI : Op2 eqR (.tuple (t.2.map prD)) (.tuple []) (.v (.bool false)) := ⟨by
        rw [e3]
        cases q : t.2 with
        | nil => exact absurd q hz
        | cons _ _ => rfl⟩
      have hc := cut_len (t.2.map prD)
      repeat walk_at "go"
      exact ⟨_, _, rfl, rfl, pool_mono (by assumption) (by omega)⟩
  · by_cases hz : t.2 = []
    · haveI : Op2 eqR (.tuple (t.2.map prD)) (.tuple []) (.v (.bool true)) := ⟨by rw [e3, hz]; rfl⟩
      repeat walk_at "go"
      refine k2_ixA rfl rfl (by assumption) (by assumption) fun d hd => ?_
      repeat walk_at "go"
      exact ⟨_, _, rfl, rfl, pool_mono (by assumption) (by omega)⟩
    · have hzl : 0 < ((t.2.map prD).length : Int) := by have := List.length_pos_iff.mpr hz; omega
      haveI : Op2 eqR (.tuple (t.2.map prD)) (.tuple []) (.v (.bool false)) := ⟨by
        rw [e3]
        cases q : t.2 with
        | nil => exact absurd q hz
        | cons _ _ => rfl⟩
      have hc := cut_len (t.2.map prD)
      repeat walk_at "go"
      rename_i k q2 hq2 k0 k1 _ _
      haveI : Tru ((t.2.map prD).length ≤ 3000) := ⟨by omega⟩
      refine k2 rfl rfl (at_map (f := prD) (l := t.2) (x := (0, 0)) ⟨k0, by omega⟩) ?_
      repeat walk_at "go"
      refine k2_ixA rfl rfl (by assumption) (by assumption) fun d hd => ?_
      repeat walk_at "go"
      exact ⟨_, _, rfl, rfl, pool_mono (by assumption) (by omega)⟩
theorem orow_step {n at_ nb nt : Int} {p : D} {P : Pg} {Q : R → List Cel → Prop} (hp : Pool n p) (hn : n < 100000) (hr : P.rows.length ≤ 2000) (h : 0 ≤ at_ ∧ at_ < P.rows.length) (k : ∀ d p', Pool (n + 5) p' → Q (.v d) [.io p', .fz (.tuple (P.rows.map rowD)), .fz (.int at_), .fz (.int nb), .fz (.int nt)]) : Wm m_law_other_row [.io p, .fz (.tuple (P.rows.map rowD)), .fz (.int at_), .fz (.int nb), .fz (.int nt)] Q :=
  wm_mono (w_other_row hp hn hr h) fun r out q => by
    obtain ⟨d, p', rfl, rfl, h1⟩ := q
    exact k d p' h1
theorem otab_step {n at_ nr nb : Int} {p : D} {P : Pg} {Q : R → List Cel → Prop} (hp : Pool n p) (hn : n < 100000) (hP : PgOk P) (h : 0 ≤ at_) (k : ∀ d p', Pool (n + 9) p' → Q (.v d) [.io p', .fz (.tuple (P.tabs.map tabD)), .fz (.int at_), .fz (.int nr), .fz (.int nb)]) : Wm m_law_other_table [.io p, .fz (.tuple (P.tabs.map tabD)), .fz (.int at_), .fz (.int nr), .fz (.int nb)] Q :=
  wm_mono (w_other_table hp hn hP h) fun r out q => by
    obtain ⟨d, p', rfl, rfl, h1⟩ := q
    exact k d p' h1
local macro_rules | `(tactic| walk_at "call") => `(tactic| ((with_reducible apply other_step); assumption; omega; intro dd p' hp; refine ⟨_, (by walk_at "set"), ?_⟩))
local macro_rules | `(tactic| walk_at "call") => `(tactic| ((with_reducible apply orow_step); assumption; omega; omega; assumption; intro dd p' hp; refine ⟨_, (by walk_at "set"), ?_⟩))
local macro_rules | `(tactic| walk_at "call") => `(tactic| ((with_reducible apply otab_step); assumption; omega; assumption; assumption; intro dd p' hp; refine ⟨_, (by walk_at "set"), ?_⟩))
set_option maxHeartbeats 800000 in
theorem w_spoilt {n kind spot : Int} {p : D} {P : Pg} (hp : Pool n p) (hn : n < 100000) (hP : PgOk P) (hk : 0 ≤ kind ∧ kind < 10) (hs : 0 ≤ spot) : Wm m_law_spoilt [.io p, .fz (.int kind), .fz P.d, .fz (.int spot)] fun r out => ∃ (d p' : D), r = .v d ∧ out = [.io p', .fz (.int kind), .fz P.d, .fz (.int spot)] ∧ Pool (n + 10) p' := by
  have m1 : (P.rows.map rowD).length = P.rows.length := List.length_map _
  have m4 : (P.boxes.map PyData.int).length = P.boxes.length := List.length_map _
  have m3 : (P.doors.map doorD).length = P.doors.length := List.length_map _
  have hr1 := hP.r1
  have hr2 := hP.r2
  have hb1 := hP.b1
  have hb2 := hP.b2
  have hdl := hP.dl
  have hq : 0 ≤ spot % ((P.rows.map rowD).length : Int) ∧ spot % ((P.rows.map rowD).length : Int) < P.rows.length := by
    rw [m1]; exact ⟨Int.emod_nonneg _ (by omega), Int.emod_lt_of_pos _ (by omega)⟩
  have hq2 : 0 ≤ spot % ((P.boxes.map PyData.int).length : Int) := by
    rw [m4]; exact Int.emod_nonneg _ (by omega)
  haveI : Tru (0 ≤ spot % ((P.boxes.map PyData.int).length : Int)) := ⟨hq2⟩
  haveI : Tru ((P.boxes.map PyData.int).length ≤ 3000) := ⟨by omega⟩
  haveI : Tru ((P.doors.map doorD).length ≤ 3000) := ⟨by omega⟩
  unfold m_law_spoilt
  simp only [Pg.d]
  walk_at "start"
  unfold b_law_spoilt
  by_cases k3 : kind < 3
  · haveI : Tru (kind < 3) := ⟨k3⟩
    repeat walk_at "go"
    exact ⟨_, _, rfl, rfl, pool_mono (by assumption) (by omega)⟩
  haveI : Fls (kind < 3) := ⟨k3⟩
  by_cases k6 : kind < 6
  · haveI : Tru (kind < 6) := ⟨k6⟩
    repeat walk_at "go"
    exact ⟨_, _, rfl, rfl, pool_mono (by assumption) (by omega)⟩
  haveI : Fls (kind < 6) := ⟨k6⟩
  have hkk : kind = 6 ∨ kind = 7 ∨ kind = 8 ∨ kind = 9 := by omega
  rcases hkk with rfl | rfl | rfl | rfl
  · repeat walk_at "go"
    exact ⟨_, _, rfl, rfl, pool_mono (by assumption) (by omega)⟩
  · repeat walk_at "go"
    exact ⟨_, _, rfl, rfl, pool_mono (by assumption) (by omega)⟩
  · repeat walk_at "go"
    refine k2_ixA rfl rfl (by assumption) (by assumption) fun d hd => ?_
    repeat walk_at "go"
    exact ⟨_, _, rfl, rfl, pool_mono (by assumption) (by omega)⟩
  · repeat walk_at "go"
    refine k2_ixA rfl rfl (by assumption) (by assumption) fun d hd => ?_
    repeat walk_at "go"
    exact ⟨_, _, rfl, rfl, pool_mono (by assumption) (by omega)⟩
theorem b_from {x lo hi : Int} (h1 : lo ≤ x) (h2 : x ≤ hi) : m_is_from [.fz (.int x), .fz (.int lo), .fz (.int hi)] = some (.v (.bool true), [.fz (.int x), .fz (.int lo), .fz (.int hi)]) := by
  refine wm_out ?_
  unfold m_is_from
  walk_at "start"
  unfold b_is_from
  first | haveI : Tru (lo ≤ x) := ⟨by walk_at "fact"⟩ | haveI : Fls (lo ≤ x) := ⟨by walk_at "fact"⟩
  first | haveI : Tru (x ≤ hi) := ⟨by walk_at "fact"⟩ | haveI : Fls (x ≤ hi) := ⟨by walk_at "fact"⟩
  repeat walk_at "go"
  exact ⟨by rw [decide_eq_true h2], rfl⟩
theorem b_tup {ds : List D} {lo hi : Int} (h1 : lo ≤ (ds.length : Int)) (h2 : (ds.length : Int) ≤ hi) : m_is_tuple_of [.fz (.tuple ds), .fz (.int lo), .fz (.int hi)] = some (.v (.bool true), [.fz (.tuple ds), .fz (.int lo), .fz (.int hi)]) := by
  refine wm_out ?_
  unfold m_is_tuple_of
  walk_at "start"
  unfold b_is_tuple_of
  first | haveI : Tru (lo ≤ (ds.length : Int)) := ⟨by walk_at "fact"⟩ | haveI : Fls (lo ≤ (ds.length : Int)) := ⟨by walk_at "fact"⟩
  first | haveI : Tru ((ds.length : Int) ≤ hi) := ⟨by walk_at "fact"⟩ | haveI : Fls ((ds.length : Int) ≤ hi) := ⟨by walk_at "fact"⟩
  repeat walk_at "go"
  exact ⟨by rw [decide_eq_true h2], rfl⟩
theorem b_boxes {ws : List Int} (h1 : 1 ≤ ws.length) (h2 : ws.length ≤ 99) (hw : Wds ws) : m_are_boxes [.fz (.tuple (ws.map .int))] = some (.v (.bool true), [.fz (.tuple (ws.map .int))]) := by
  refine wm_out ?_
  have hml : (ws.map PyData.int).length = ws.length := List.length_map _
  haveI : Cal m_is_tuple_of _ _ _ := ⟨b_tup (ds := ws.map .int) (lo := 1) (hi := 99) (by omega) (by omega)⟩
  unfold m_are_boxes
  walk_at "start"
  unfold b_are_boxes
  repeat walk_at "go"
  refine kl_encM PyData.int (fun _ => .bool true) (fun w hw1 => ?_) ?_
  · have := b_from (x := w) (lo := 0) (hi := 9999) (by have := hw w hw1; omega) (by have := hw w hw1; omega)
    walk_at "lcm"
  repeat walk_at "go"
  rw [show (ws.all fun _ => true) = true by simp]
  exact ⟨rfl, rfl⟩
theorem b_doors {ds : List (Option Int)} {nb nr : Int} (h1 : (ds.length : Int) = nb) (hw : ∀ o ∈ ds, DoorOk nr o) : m_are_doors [.fz (.tuple (ds.map doorD)), .fz (.int nb), .fz (.int nr)] = some (.v (.bool true), [.fz (.tuple (ds.map doorD)), .fz (.int nb), .fz (.int nr)]) := by
  refine wm_out ?_
  have hml : (ds.map doorD).length = ds.length := List.length_map _
  haveI : Cal m_is_tuple_of _ _ _ := ⟨b_tup (ds := ds.map doorD) (lo := nb) (hi := nb) (by omega) (by omega)⟩
  unfold m_are_doors
  walk_at "start"
  unfold b_are_doors
  repeat walk_at "go"
  refine kl_encM doorD (fun _ => .bool true) (fun o ho => ?_) ?_
  · cases o with
    | none => 
      simp only [doorD]
      apply lcm_mk; walk_at "set"; (with_reducible apply ev_orV (a := true) (b := true)); walk_at "ev"; (intro hq; cases hq); walk_at "set"; rfl; walk_at "set"
    | some i =>
      have h := hw _ ho i rfl
      have := b_from (x := i) (lo := 0) (hi := nr - 1) (by omega) (by omega)
      walk_at "lcm"
  repeat walk_at "go"
  rw [show (ds.all fun _ => true) = true by simp]
  exact ⟨rfl, rfl⟩

theorem b_row {nb nr nt : Int} {r : Row} (h : RowOk nb nr nt r) : m_is_row [.fz (rowD r), .fz (.int nb), .fz (.int nt), .fz (.int nr)] = some (.v (.bool true), [.fz (rowD r), .fz (.int nb), .fz (.int nt), .fz (.int nr)]) := by
  obtain ⟨s, o, m⟩ := r
  refine wm_out ?_
  obtain ⟨hn, m0, m1, o0, ob, oj, os, oe⟩ := h
  simp only at hn m0 m1 o0 ob oj os oe
  haveI : Cal m_is_tuple_of _ _ _ := ⟨b_tup (ds := [.str s, .int o, .int m]) (lo := 3) (hi := 3) (by simp) (by simp)⟩
  haveI : Cal m_is_from _ _ _ := ⟨b_from (x := m) (lo := 0) (hi := 99) (by omega) (by omega)⟩
  unfold m_is_row rowD
  walk_at "start"
  unfold b_is_row
  rcases all_cases hn with h | h | h | h
  · haveI : Cal m_is_from _ _ _ := ⟨b_from (x := o) (lo := 0) (hi := nb - 1) (by omega) (by have := ob h; omega)⟩
    haveI : Tru (s ∈ (["load", "store", "add", "less", "say", "hear", "patch", "loadby", "storeby", "addby", "lessby", "sayby", "hearby", "patchby", "goby", "noughtby", "greatby"] : List Str)) := ⟨h⟩
    repeat walk_at "go"
    exact ⟨rfl, rfl⟩
  · obtain ⟨q1, q2, q3⟩ := jN_box h
    haveI : Cal m_is_from _ _ _ := ⟨b_from (x := o) (lo := 0) (hi := nr - 1) (by omega) (by have := oj h; omega)⟩
    haveI : Fls (s ∈ (["load", "store", "add", "less", "say", "hear", "patch", "loadby", "storeby", "addby", "lessby", "sayby", "hearby", "patchby", "goby", "noughtby", "greatby"] : List Str)) := ⟨q1⟩
    haveI : Tru (s ∈ (["go", "nought", "great"] : List Str)) := ⟨h⟩
    repeat walk_at "go"
    exact ⟨rfl, rfl⟩
  · obtain ⟨q1, q2, q3⟩ := sw_box h
    haveI : Cal m_is_from _ _ _ := ⟨b_from (x := o) (lo := 0) (hi := nt - 1) (by omega) (by have := os h; omega)⟩
    haveI : Fls (s ∈ (["load", "store", "add", "less", "say", "hear", "patch", "loadby", "storeby", "addby", "lessby", "sayby", "hearby", "patchby", "goby", "noughtby", "greatby"] : List Str)) := ⟨q1⟩
    haveI : Fls (s ∈ (["go", "nought", "great"] : List Str)) := ⟨q2⟩
    haveI : Tru (s = "switch") := ⟨h⟩
    repeat walk_at "go"
    exact ⟨rfl, rfl⟩
  · obtain ⟨q1, q2, q3⟩ := end_box h
    haveI : Cal m_is_from _ _ _ := ⟨b_from (x := o) (lo := 0) (hi := 0) (by omega) (by have := oe h; omega)⟩
    haveI : Fls (s ∈ (["load", "store", "add", "less", "say", "hear", "patch", "loadby", "storeby", "addby", "lessby", "sayby", "hearby", "patchby", "goby", "noughtby", "greatby"] : List Str)) := ⟨q1⟩
    haveI : Fls (s ∈ (["go", "nought", "great"] : List Str)) := ⟨q2⟩
    haveI : Fls (s = "switch") := ⟨q3⟩
    haveI : Tru (s ∈ (["stop", "norow", "beyond", "off", "lost"] : List Str)) := ⟨h⟩
    repeat walk_at "go"
    exact ⟨rfl, rfl⟩
def HdLt (a : Int) (ps : List (Int × Int)) : Prop := ∀ q ∈ ps, a < q.1
theorem b_table {nb nr : Int} {t : Tab} (h : TabOk nb nr t) : m_is_table [.fz (tabD t), .fz (.int nb), .fz (.int nr)] = some (.v (.bool true), [.fz (tabD t), .fz (.int nb), .fz (.int nr)]) := by
  obtain ⟨b, ps⟩ := t
  obtain ⟨b0, b1, hit, up, few⟩ := h
  simp only at b0 b1 hit up few
  refine wm_out ?_
  haveI : Cal m_is_tuple_of _ _ _ := ⟨b_tup (ds := [.int b, .tuple (ps.map prD)]) (lo := 2) (hi := 2) (by simp) (by simp)⟩
  haveI : Cal m_is_from _ _ _ := ⟨b_from (x := b) (lo := 0) (hi := nb - 1) (by omega) (by omega)⟩
  unfold m_is_table tabD
  walk_at "start"
  unfold b_is_table
  repeat walk_at "go"
  have hml : (ps.map prD).length = ps.length := List.length_map _
  refine lk_ty [.k, .k, .k, .z (fun i d => ∃ a : Int, d = .int a ∧ 0 ≤ a + 1 ∧ HdLt a (ps.drop i)), .f] (by refine inT_k (inT_k (inT_k (inT_z ⟨-1, rfl, by omega, fun q hq => by have := hit q (List.mem_of_mem_drop hq); unfold ItR at this; omega⟩ ?_))); walk_at "inT") (fun i d hi => ?_) ?_
  · obtain ⟨x, hx, rfl⟩ := map_get2 hi
    have hil : i < ps.length := (List.getElem?_eq_some_iff.mp hx).1
    rw [List.getElem?_eq_getElem hil] at hx
    cases hx
    walk_at "allT"
    rintro ds ⟨a, rfl, ha, hlt⟩ x4
    have hx := hit _ (List.getElem_mem hil)
    have hdr : ps.drop i = ps[i] :: ps.drop (i + 1) := List.drop_eq_getElem_cons hil
    have hnx : HdLt ps[i].1 (ps.drop (i + 1)) := fun q hq => by
      have h1 : (ps.drop i).map (·.1) = (ps.map (·.1)).drop i := List.map_drop
      have h2 := up.sublist (List.drop_sublist i _)
      rw [← h1, hdr, List.map_cons, List.pairwise_cons] at h2
      exact h2.1 _ (List.mem_map.mpr ⟨q, hq, rfl⟩)
    have hlt2 : a < ps[i].1 := hlt _ (by rw [hdr]; exact List.mem_cons_self ..)
    generalize ps[i] = pr at hx hnx hlt2
    obtain ⟨u, v⟩ := pr
    unfold ItR at hx
    simp only at hx hnx hlt2
    haveI : Cal m_is_tuple_of _ _ _ := ⟨b_tup (ds := [.int u, .int v]) (lo := 2) (hi := 2) (by simp) (by simp)⟩
    haveI : Cal m_is_from _ _ _ := ⟨b_from (x := u) (lo := a + 1) (hi := 10099) (by omega) (by omega)⟩
    haveI : Cal m_is_from _ _ _ := ⟨b_from (x := v) (lo := 0) (hi := nr - 1) (by omega) (by omega)⟩
    unfold prD
    refine ⟨_, (by walk_at "set"), ?_⟩
    unfold b_is_table_1
    repeat walk_at "go"
    refine inT_k (inT_k (inT_k (inT_z ⟨u, rfl, by omega, hnx⟩ ?_)))
    walk_at "inT"
  · walk_at "allT"
    rintro ds ⟨a, rfl, ha, hlt⟩ x4
    repeat walk_at "go"
    exact ⟨rfl, rfl⟩
theorem ix_lastT {ds : List D} {d : D} : ixD (.tuple (ds ++ [d])) (.int (-1)) = some (.v d) := by
  show (atI _ (-1)).map R.v = _
  unfold atI ixN
  rw [if_neg (by omega), if_pos (by simp; omega)]
  have e : (-1 + ((ds ++ [d]).length : Int)).toNat = ds.length := by simp; omega
  show ((ds ++ [d])[(-1 + ((ds ++ [d]).length : Int)).toNat]?).map R.v = _
  rw [e, List.getElem?_append_right (Nat.le_refl _)]
  simp
theorem h_is_still {P : Pg} (h : PgOk P) : m_is_still [.fz P.d] = some (.v (.bool true), [.fz P.d]) := by
  obtain ⟨rows, tabs, doors, boxes⟩ := P
  obtain ⟨hb1, hb2, hbw, hr1, hr2, hrw, hrl, ht2, htw, hdl, hdw⟩ := h
  simp only at hb1 hb2 hbw hr1 hr2 hrw hrl ht2 htw hdl hdw
  refine wm_out ?_
  have m1 : (rows.map rowD).length = rows.length := List.length_map _
  have m2 : (tabs.map tabD).length = tabs.length := List.length_map _
  have m3 : (doors.map doorD).length = doors.length := List.length_map _
  have m4 : (boxes.map PyData.int).length = boxes.length := List.length_map _
  haveI : Cal m_is_tuple_of _ _ _ := ⟨b_tup (ds := [.tuple (rows.map rowD), .tuple (tabs.map tabD), .tuple (doors.map doorD), .tuple (boxes.map .int)]) (lo := 4) (hi := 4) (by simp) (by simp)⟩
  haveI : Cal m_is_tuple_of _ _ _ := ⟨b_tup (ds := rows.map rowD) (lo := 1) (hi := 2000) (by omega) (by omega)⟩
  haveI : Cal m_is_tuple_of _ _ _ := ⟨b_tup (ds := tabs.map tabD) (lo := 0) (hi := 99) (by omega) (by omega)⟩
  haveI : Cal m_are_boxes _ _ _ := ⟨b_boxes (ws := boxes) hb1 hb2 hbw⟩
  haveI : Cal m_are_doors _ _ _ := ⟨b_doors (ds := doors) (nb := ((boxes.map PyData.int).length : Int)) (nr := ((rows.map rowD).length : Int)) (by omega) (by rw [m1]; exact hdw)⟩
  unfold m_is_still Pg.d
  walk_at "start"
  unfold b_is_still
  repeat walk_at "go"
  refine kl_encM rowD (fun _ => .bool true) (fun r hr => ?_) ?_
  · have := b_row (nb := ((boxes.map PyData.int).length : Int)) (nr := ((rows.map rowD).length : Int)) (nt := ((tabs.map tabD).length : Int)) (r := r) (by rw [m1, m2, m4]; exact hrw r hr)
    walk_at "lcm"
  obtain ⟨rs, r, rfl, hl⟩ := hrl
  repeat walk_at "go"
  rw [show ((rs ++ [r]).all fun _ => true) = true by simp]
  repeat walk_at "go"
  refine k2 rfl rfl (by rw [List.map_append]; exact ix_lastT) ?_
  obtain ⟨s, o, mk⟩ := r
  haveI : Tru (s ∈ (["go", "goby", "switch", "stop", "norow", "beyond", "off", "lost"] : List Str)) := ⟨hl⟩
  simp only [rowD]
  repeat walk_at "go"
  refine kl_encM tabD (fun _ => .bool true) (fun t ht => ?_) ?_
  · have := b_table (nb := ((boxes.map PyData.int).length : Int)) (nr := (((rs ++ [(s, o, mk)]).map rowD).length : Int)) (t := t) (by rw [m1, m4]; exact htw t ht)
    walk_at "lcm"
  repeat walk_at "go"
  rw [show (tabs.all fun _ => true) = true by simp]
  exact ⟨rfl, rfl⟩
def movD (P : Pg) (hs : List Int) (s : Sd) (r : Row) : D := match endR P hs.length s r with
  | some e => .tuple [.bool true, .tuple [.str e.1, .int e.2]]
  | none => .tuple [.bool false, (stepR P hs s r).d]
def jS : Nat → Str
  | 0 => "go"
  | 1 => "nought"
  | _ => "great"
theorem h_lgoes (j : Nat) (hj : j < 3) (h : Int) : m_law_goes [.fz (.str (jS j)), .fz (.int h)] = some (.v (.bool (goesO j h)), [.fz (.str (jS j)), .fz (.int h)]) := by
  have hj : j = 0 ∨ j = 1 ∨ j = 2 := by omega
  have e : decide (4999 < h) = decide (5000 ≤ h) := decide_eq_decide.mpr (by omega)
  rcases hj with rfl | rfl | rfl
  all_goals
    refine wm_out ?_
    unfold m_law_goes
    simp only [jS]
    walk_at "start"
    unfold b_law_goes
    repeat walk_at "go"
    first
      | exact ⟨rfl, rfl⟩
      | (rw [e]; exact ⟨rfl, rfl⟩)
class LgC (nm : Str) (h : Int) (b : outParam Bool) : Prop where h : m_law_goes [.fz (.str nm), .fz (.int h)] = some (.v (.bool b), [.fz (.str nm), .fz (.int h)])
instance {nm : Str} {h : Int} {b : Bool} [q : LgC nm h b] : Cal m_law_goes [.fz (.str nm), .fz (.int h)] (.v (.bool b)) [.fz (.str nm), .fz (.int h)] := ⟨q.h⟩
/-- a go, nought, great; by a box or not -/
def ledD (P : Pg) (s : Sd) (j : Nat) (at_ : Int) (y : Bool) : D := if goesO j s.hand = true then (if y = true then (if (P.doors.length : Int) ≤ at_ then .tuple [.bool true, .tuple [.str "off", .int at_]] else match doorAt P at_ with
    | none => .tuple [.bool true, .tuple [.str "lost", .int at_]]
    | some i => .tuple [.bool false, ({ s with row := i } : Sd).d]) else .tuple [.bool false, ({ s with row := at_ } : Sd).d]) else .tuple [.bool false, ({ s with row := s.row + 1 } : Sd).d]
theorem h_lled {P : Pg} {s : Sd} {j : Nat} {at_ : Int} {y : Bool} (hj : j < 3) (h0 : 0 ≤ at_) : m_law_led [.fz P.d, .fz s.d, .fz (.str (jS j)), .fz (.int at_), .fz (.bool y)] = some (.v (ledD P s j at_ y), [.fz P.d, .fz s.d, .fz (.str (jS j)), .fz (.int at_), .fz (.bool y)]) := by
  have hmd : (P.doors.map doorD).length = P.doors.length := List.length_map _
  have hg := h_lgoes j hj s.hand
  unfold ledD
  refine wm_out ?_
  unfold m_law_led
  walk_at "start"
  unfold b_law_led
  cases hb : goesO j s.hand with
  | false =>
    rw [hb] at hg
    haveI := LgC.mk hg
    repeat walk_at "go"
    exact ⟨rfl, rfl⟩
  | true =>
    rw [hb] at hg
    haveI := LgC.mk hg
    cases y with
    | false =>
      repeat walk_at "go"
      exact ⟨rfl, rfl⟩
    | true =>
      rw [if_pos rfl, if_pos rfl]
      by_cases h1 : (P.doors.length : Int) ≤ at_
      · haveI : Tru (((P.doors.map doorD).length : Int) ≤ at_) := ⟨by rw [hmd]; exact h1⟩
        rw [if_pos h1]
        repeat walk_at "go"
        exact ⟨rfl, rfl⟩
      · haveI : Fls (((P.doors.map doorD).length : Int) ≤ at_) := ⟨by rw [hmd]; exact h1⟩
        rw [if_neg h1]
        haveI : InDoors P at_ := ⟨⟨h0, by omega⟩⟩
        cases hd : doorAt P at_ with
        | none =>
          haveI : IsN (doorAt P at_) true := ⟨by rw [hd]; rfl⟩
          repeat walk_at "go"
          exact ⟨rfl, rfl⟩
        | some i =>
          haveI : DoorC P at_ i := ⟨⟨h0, by omega⟩, hd⟩
          repeat walk_at "go"
          exact ⟨rfl, rfl⟩
theorem find_filter (ps : List (Int × Int)) (x : Int) : findR ps x = ((ps.filter fun q => decide (q.1 = x)).head?).map (·.2) := by
  unfold findR
  rw [List.head?_filter]
theorem ne_nil_l {ds : List D} (h : SeqAt.shaped (.list ds) = true) : neR (.list ds) (.list []) = some (.v (.bool !ds.isEmpty)) := by
  have e := eq_nil_l h
  unfold eqR at e
  unfold neR
  cases q : eqD (.list ds) (.list []) with
  | none => rw [q] at e; cases e
  | some b =>
    rw [q] at e
    cases e
    rfl
/-- one turn of the walk for an item -/
theorem mv_turn {P : Pg} {s : Sd} {t : Tab} {c2 c3 c4 c5 c6 c8 c10 c11 c12 : Option Cel} {x : Int} {Q : Out → Prop} (hl : t.2.length ≤ 1000) (h10 : ∃ y, c10 = fre y)
    (kn : findR t.2 x = none → Q (.nx [some (.fz P.d), some (.fz s.d), c2, c3, c4, c5, c6, some (.fz (.tuple (t.2.map prD))), c8, some (.fz (.int x)), some (.ow (.list [])), c11, c12, none, none]))
    (ks : ∀ r, findR t.2 x = some r → ∀ e10, Q (.rt (.v (.tuple [.bool false, ({ s with row := r } : Sd).d])) [some (.fz P.d), some (.fz s.d), c2, c3, c4, c5, c6, some (.fz (.tuple (t.2.map prD))), c8, some (.fz (.int x)), e10, c11, c12, none, none])) :
    Ws b_law_move_1 [some (.fz P.d), some (.fz s.d), c2, c3, c4, c5, c6, some (.fz (.tuple (t.2.map prD))), c8, some (.fz (.int x)), c10, c11, c12, none, none] Q := by
  obtain ⟨y10, rfl⟩ := h10
  unfold b_law_move_1
  repeat walk_at "go"
  refine kl_enc prD (fun q => decide (q.1 = x)) (fun q => .int q.2) (fun q hq => ?_) ?_
  · simp only [prD]
    walk_at "lcb"
  have hf := find_filter t.2 x
  have hfl : (t.2.filter fun q => decide (q.1 = x)).length ≤ t.2.length := List.length_filter_le _ _
  generalize (t.2.filter fun q => decide (q.1 = x)) = l at hf hfl
  cases l with
  | nil =>
    have e := ne_nil_l (ds := []) rfl
    repeat walk_at "go"
    exact kn hf
  | cons q l =>
    have e := ne_nil_l (ds := (q :: l).map fun q => PyData.int q.2) (sh_ok (n := 8) (sh_list (shA_map fun _ => sh_int)) (by decide))
    repeat walk_at "go"
    refine k2 (r := .v (.int q.2)) rfl rfl ?_ ?_
    · show (atI _ 0).map R.v = _
      rw [Sl.atI_nat (by decide)]
      rfl
    repeat walk_at "go"
    exact ks _ hf _
class LledC (P : Pg) (s : Sd) (nm : Str) (at_ : Int) (y : Bool) (d : outParam D) : Prop where h : m_law_led [.fz P.d, .fz s.d, .fz (.str nm), .fz (.int at_), .fz (.bool y)] = some (.v d, [.fz P.d, .fz s.d, .fz (.str nm), .fz (.int at_), .fz (.bool y)])
class LdoneC (s : Sd) (nm : Str) (at_ : Int) (hs : List Int) (s' : outParam Sd) : Prop where h : m_law_done [.fz s.d, .fz (.str nm), .fz (.int at_), .fz (.list (hs.map .int))] = some (.v s'.d, [.fz s.d, .fz (.str nm), .fz (.int at_), .fz (.list (hs.map .int))])
instance {s s' : Sd} {nm : Str} {at_ : Int} {hs : List Int} [q : LdoneC s nm at_ hs s'] : Cal m_law_done [.fz s.d, .fz (.str nm), .fz (.int at_), .fz (.list (hs.map .int))] (.v s'.d) [.fz s.d, .fz (.str nm), .fz (.int at_), .fz (.list (hs.map .int))] := ⟨q.h⟩
theorem h_doing : m_law_doing [] = some (.n (.list [.str "load", .str "store", .str "add", .str "less", .str "say", .str "hear", .str "patch"]), []) := by
  refine wm_out ?_
  unfold m_law_doing
  walk_at "start"
  unfold b_law_doing
  repeat walk_at "go"
  exact ⟨rfl, rfl⟩
instance : Cal m_law_doing [] (.n (.list [.str "load", .str "store", .str "add", .str "less", .str "say", .str "hear", .str "patch"])) [] := ⟨h_doing⟩
instance (priority := high) : Cal m_law_ending [] (.n (.list [.str "stop", .str "norow", .str "beyond", .str "off", .str "lost"])) [] := ⟨h_ending⟩
theorem h_move {P : Pg} {hs : List Int} {s : Sd} (F : Stf P hs s) :
    m_law_move [.fz P.d, .fz s.d, .fz (.list (hs.map .int))] = some (.v (movD P hs s (rowAt P s.row)), [.fz P.d, .fz s.d, .fz (.list (hs.map .int))]) := by
  have hR := rowOk_at F.p F.s.r0 F.s.r1
  generalize hr : rowAt P s.row = r at hR
  obtain ⟨nm, o, m⟩ := r
  have hop := op_mem nm hR.nm
  have hop0 := hop
  haveI : RowC P s.row nm o m := ⟨⟨F.s.r0, F.s.r1⟩, hr⟩
  have hh := F.s
  have h2 := F.p.b2
  have hbl := F.s.bl
  have hml2 : (s.bx.map PyData.int).length = s.bx.length := List.length_map _
  have hmh : (hs.map PyData.int).length = hs.length := List.length_map _
  cases e : opOf nm with
  | en =>
    rw [e] at hop0
    have es : movD P hs s (nm, o, m) = .tuple [.bool true, .tuple [.str nm, .int m]] := by unfold movD endR; simp only [e]
    rw [es]
    simp only [opL, List.mem_cons, Prod.mk.injEq, reduceCtorEq, and_false, false_or, or_false, and_true, List.not_mem_nil] at hop0
    rcases hop0 with rfl | rfl | rfl | rfl | rfl
    all_goals
      refine wm_out ?_
      unfold m_law_move
      walk_at "start"
      unfold b_law_move
      repeat walk_at "go"
      exact ⟨rfl, rfl⟩
  | lead j y =>
    rw [e] at hop0
    have hj : j < 3 := by
      simp only [opL, List.mem_cons, Prod.mk.injEq, Op.lead.injEq, reduceCtorEq, and_false, false_or, or_false, List.not_mem_nil] at hop0
      rcases hop0 with ⟨_, rfl, _⟩ | ⟨_, rfl, _⟩ | ⟨_, rfl, _⟩ | ⟨_, rfl, _⟩ | ⟨_, rfl, _⟩ | ⟨_, rfl, _⟩ <;> decide
    have hat : 0 ≤ atO s.bx y o := atO_dom hR.o0 hh.bw
    have q := h_lled (P := P) (s := s) (y := y) hj hat
    have es : movD P hs s (nm, o, m) = ledD P s j (atO s.bx y o) y := by
      unfold movD endR stepR ledD
      simp only [e]
      cases hb : goesO j s.hand with
      | false => cases y <;> simp [hb]
      | true =>
        cases y with
        | false => simp [atO, hb]
        | true =>
          simp only [if_true, atO]
          by_cases h1 : (P.doors.length : Int) ≤ bAt s.bx o % 100
          · simp [h1, hb]
          · simp only [h1, if_false]
            cases doorAt P (bAt s.bx o % 100) with
            | none => simp [hb]
            | some i => simp [hb]
    rw [es]
    have hbo : y = true → 0 ≤ o ∧ o < s.bx.length := fun hy => by
      subst hy
      have hbx : nm ∈ boxN := op_box _ hop0 (.inr ⟨_, rfl⟩)
      exact ⟨hR.o0, by rw [F.s.bl]; exact hR.ob hbx⟩
    simp only [opL, List.mem_cons, Prod.mk.injEq, Op.lead.injEq, reduceCtorEq, and_false, false_or, or_false, List.not_mem_nil] at hop0
    rcases hop0 with ⟨rfl, rfl, rfl⟩ | ⟨rfl, rfl, rfl⟩ | ⟨rfl, rfl, rfl⟩ | ⟨rfl, rfl, rfl⟩ | ⟨rfl, rfl, rfl⟩ | ⟨rfl, rfl, rfl⟩
    all_goals
      try haveI : Tru (0 ≤ o) := ⟨(hbo rfl).1⟩
      try haveI : Tru (o < (s.bx.length : Int)) := ⟨(hbo rfl).2⟩
      refine wm_out ?_
      unfold m_law_move
      walk_at "start"
      unfold b_law_move
      repeat walk_at "go"
      exact ⟨rfl, rfl⟩
  | doo k y =>
    rw [e] at hop0
    have hbx : nm ∈ boxN := op_box _ hop0 (.inl ⟨_, _, rfl⟩)
    have ho1 : o < s.bx.length := by rw [F.s.bl]; exact hR.ob hbx
    have hat : 0 ≤ atO s.bx y o := atO_dom hR.o0 hh.bw
    haveI : Tru (0 ≤ o) := ⟨hR.o0⟩
    haveI : Tru (o < (s.bx.length : Int)) := ⟨ho1⟩
    have es : movD P hs s (nm, o, m) = if (s.bx.length : Int) ≤ atO s.bx y o then .tuple [.bool true, .tuple [.str "beyond", .int m]] else if k = 5 ∧ (hs.length : Int) ≤ s.hd then .tuple [.bool true, .tuple [.str "dry", .int m]] else .tuple [.bool false, (doK k (atO s.bx y o) hs s).d] := by
      unfold movD endR stepR
      simp only [e]
      by_cases g1 : (s.bx.length : Int) ≤ atO s.bx y o
      · simp [g1]
      · by_cases g2 : k = 5 ∧ (hs.length : Int) ≤ s.hd
        · simp [g1, g2]
        · simp only [g1, g2, if_false]
    rw [es]
    by_cases g1 : (s.bx.length : Int) ≤ atO s.bx y o
    · rw [if_pos g1]
      have g1' : ((s.bx.map PyData.int).length : Int) ≤ atO s.bx y o := by rw [hml2]; exact g1
      simp only [opL, List.mem_cons, Prod.mk.injEq, Op.doo.injEq, reduceCtorEq, and_false, false_or, or_false, List.not_mem_nil] at hop0
      rcases hop0 with ⟨rfl, rfl, rfl⟩ | ⟨rfl, rfl, rfl⟩ | ⟨rfl, rfl, rfl⟩ | ⟨rfl, rfl, rfl⟩ | ⟨rfl, rfl, rfl⟩ | ⟨rfl, rfl, rfl⟩ | ⟨rfl, rfl, rfl⟩ | ⟨rfl, rfl, rfl⟩ | ⟨rfl, rfl, rfl⟩ | ⟨rfl, rfl, rfl⟩ | ⟨rfl, rfl, rfl⟩ | ⟨rfl, rfl, rfl⟩ | ⟨rfl, rfl, rfl⟩ | ⟨rfl, rfl, rfl⟩
      all_goals
        first
        | haveI : Tru (((s.bx.map PyData.int).length : Int) ≤ o) := ⟨g1'⟩
        | haveI : Tru (((s.bx.map PyData.int).length : Int) ≤ bAt s.bx o % 100) := ⟨g1'⟩
        refine wm_out ?_
        unfold m_law_move
        walk_at "start"
        unfold b_law_move
        repeat walk_at "go"
        exact ⟨rfl, rfl⟩
    · rw [if_neg g1]
      have g1' : ¬ ((s.bx.map PyData.int).length : Int) ≤ atO s.bx y o := by rw [hml2]; exact g1
      by_cases g2 : k = 5 ∧ (hs.length : Int) ≤ s.hd
      · rw [if_pos g2]
        haveI : Tru (((hs.map PyData.int).length : Int) ≤ s.hd) := ⟨by rw [hmh]; exact g2.2⟩
        obtain ⟨rfl, _⟩ := g2
        simp only [opL, List.mem_cons, Prod.mk.injEq, Op.doo.injEq, reduceCtorEq, and_false, false_and, false_or, or_false, List.not_mem_nil, Nat.reduceEqDiff] at hop0
        rcases hop0 with ⟨rfl, _, rfl⟩ | ⟨rfl, _, rfl⟩
        all_goals
          first
          | haveI : Fls (((s.bx.map PyData.int).length : Int) ≤ o) := ⟨g1'⟩
          | haveI : Fls (((s.bx.map PyData.int).length : Int) ≤ bAt s.bx o % 100) := ⟨g1'⟩
          refine wm_out ?_
          unfold m_law_move
          walk_at "start"
          unfold b_law_move
          repeat walk_at "go"
          exact ⟨rfl, rfl⟩
      · rw [if_neg g2]
        have g3 : k = 5 → s.hd < hs.length := fun q => by
          by_cases z : (hs.length : Int) ≤ s.hd
          · exact absurd ⟨q, z⟩ g2
          · omega
        have g4 : k = 5 → ¬ ((hs.map PyData.int).length : Int) ≤ s.hd := fun q => by have := g3 q; rw [hmh]; omega
        have hdn := fun nm' (hk : (nm', Op.doo k false) ∈ opL) => h_ldone (hs := hs) hk hat (by omega) (by omega) hh.bw hh.d0 g3 hh.tl ⟨hh.h0, hh.h1⟩
        simp only [opL, List.mem_cons, Prod.mk.injEq, Op.doo.injEq, reduceCtorEq, and_false, false_or, or_false, List.not_mem_nil] at hop0
        rcases hop0 with ⟨rfl, rfl, rfl⟩ | ⟨rfl, rfl, rfl⟩ | ⟨rfl, rfl, rfl⟩ | ⟨rfl, rfl, rfl⟩ | ⟨rfl, rfl, rfl⟩ | ⟨rfl, rfl, rfl⟩ | ⟨rfl, rfl, rfl⟩ | ⟨rfl, rfl, rfl⟩ | ⟨rfl, rfl, rfl⟩ | ⟨rfl, rfl, rfl⟩ | ⟨rfl, rfl, rfl⟩ | ⟨rfl, rfl, rfl⟩ | ⟨rfl, rfl, rfl⟩ | ⟨rfl, rfl, rfl⟩
        all_goals
          first
          | haveI : Fls (((s.bx.map PyData.int).length : Int) ≤ o) := ⟨g1'⟩
          | haveI : Fls (((s.bx.map PyData.int).length : Int) ≤ bAt s.bx o % 100) := ⟨g1'⟩
          try haveI : Fls (((hs.map PyData.int).length : Int) ≤ s.hd) := ⟨g4 rfl⟩
          refine wm_out ?_
          unfold m_law_move
          walk_at "start"
          unfold b_law_move
          first
          | (have q := hdn "load" (by decide)
             repeat walk_at "go"
             exact ⟨rfl, rfl⟩)
          | (have q := hdn "store" (by decide)
             repeat walk_at "go"
             exact ⟨rfl, rfl⟩)
          | (have q := hdn "add" (by decide)
             repeat walk_at "go"
             exact ⟨rfl, rfl⟩)
          | (have q := hdn "less" (by decide)
             repeat walk_at "go"
             exact ⟨rfl, rfl⟩)
          | (have q := hdn "say" (by decide)
             repeat walk_at "go"
             exact ⟨rfl, rfl⟩)
          | (have q := hdn "hear" (by decide)
             repeat walk_at "go"
             exact ⟨rfl, rfl⟩)
          | (have q := hdn "patch" (by decide)
             repeat walk_at "go"
             exact ⟨rfl, rfl⟩)
  | sw =>
    rw [e] at hop0
    simp only [opL, List.mem_cons, Prod.mk.injEq, reduceCtorEq, and_false, false_or, or_false, and_true, List.not_mem_nil] at hop0
    subst hop0
    have hT : TabOk P.boxes.length P.rows.length (tabAt P o) := tabOk_at F.p hR.o0 (hR.os rfl)
    haveI : InTabs P o := ⟨⟨hR.o0, hR.os rfl⟩⟩
    haveI : Tru (0 ≤ (tabAt P o).1) := ⟨hT.b0⟩
    haveI : Tru ((tabAt P o).1 < (s.bx.length : Int)) := ⟨by rw [F.s.bl]; exact hT.b1⟩
    have hfew := hT.few
    have es : ∀ x, tabR (tabAt P o) s.bx = x → movD P hs s ("switch", o, m) = match x with
        | none => .tuple [.bool true, .tuple [.str "lost", .int m]]
        | some i => .tuple [.bool false, ({ s with row := i } : Sd).d] := by
      intro x hx
      unfold movD endR stepR
      simp only [e, hx]
      cases x <;> simp
    unfold tabR at es
    refine wm_out ?_
    unfold m_law_move
    walk_at "start"
    unfold b_law_move
    repeat walk_at "go"
    refine lk_cons (Tg.h) ?_
    refine mv_turn (by omega) ⟨none, rfl⟩ (fun hn => ?_) fun r hr e10 => ?_
    · repeat walk_at "go"
      refine lk_cons (Tg.h) ?_
      refine mv_turn (by omega) ⟨some (_, true), rfl⟩ (fun hn2 => ?_) fun r hr2 e10 => ?_
      · repeat walk_at "go"
        rw [es none (by rw [hn, hn2]; rfl)]
        exact ⟨rfl, rfl⟩
      · repeat walk_at "go"
        rw [es (some r) (by rw [hn, hr2]; rfl)]
        exact ⟨rfl, rfl⟩
    · repeat walk_at "go"
      rw [es (some r) (by rw [hr]; rfl)]
      exact ⟨rfl, rfl⟩
theorem set_wds {b : List Int} {i : Nat} {w : Int} (h : Wds b) (hw : 0 ≤ w ∧ w < 10000) : Wds (b.set i w) := fun x hx => by
  rcases List.mem_or_eq_of_mem_set hx with h1 | rfl
  · exact h x h1
  · exact hw
theorem last_lead {P : Pg} {s : Sd} {hs : List Int} {n : Nat} (p : PgOk P) (F : SdOk P hs n s) (h : s.row + 1 = P.rows.length) : (rowAt P s.row).1 ∈ lastN := by
  obtain ⟨rs, r, e1, e2⟩ := p.rl
  have hl : s.row.toNat = rs.length := by
    have := congrArg List.length e1
    rw [List.length_append, List.length_singleton] at this
    have := F.r0
    omega
  unfold rowAt
  rw [e1, List.getD_eq_getElem?_getD, hl, List.getElem?_append_right (Nat.le_refl _)]
  simpa using e2
theorem doK_ok {P : Pg} {s : Sd} {hs : List Int} {n k : Nat} {at_ : Int} (F : SdOk P hs n s) (hw : Wds hs) (hr : s.row + 1 < P.rows.length) (h5 : k = 5 → s.hd < hs.length) : SdOk P hs (n + 1) (doK k at_ hs s) := by
  have h0 := F.r0
  have hb := F.bw
  have h1 := F.h0
  have h2 := F.h1
  have hl := F.bl
  have d0 := F.d0
  have d1 := F.d1
  have tl := F.tl
  have ha := bAt_dom (i := at_) hb
  unfold doK
  split
  · exact ⟨by simp only; omega, hr, ha.1, ha.2, hl, hb, d0, d1, by simp only; omega⟩
  · exact ⟨by simp only; omega, hr, h1, h2, by simp only [List.length_set]; exact hl, set_wds hb ⟨h1, h2⟩, d0, d1, by simp only; omega⟩
  · exact ⟨by simp only; omega, hr, by simp only; omega, by simp only; omega, hl, hb, d0, d1, by simp only; omega⟩
  · exact ⟨by simp only; omega, hr, by simp only; omega, by simp only; omega, hl, hb, d0, d1, by simp only; omega⟩
  · exact ⟨by simp only; omega, hr, h1, h2, hl, hb, d0, d1, by simp only [List.length_append, List.length_singleton]; omega⟩
  · have := h5 rfl
    exact ⟨by simp only; omega, hr, h1, h2, by simp only [List.length_set]; exact hl, set_wds hb (bAt_dom hw), by simp only; omega, by simp only; omega, by simp only; omega⟩
  · exact ⟨by simp only; omega, hr, h1, h2, by simp only [List.length_set]; exact hl, set_wds hb (by omega), d0, d1, by simp only; omega⟩
theorem last_op : ∀ q ∈ opL, q.1 ∈ lastN → q.2 = .lead 0 true ∨ q.2 = .lead 0 false ∨ q.2 = .sw ∨ q.2 = .en := by
  intro q hq
  simp only [opL, List.mem_cons, List.not_mem_nil, or_false] at hq
  rcases hq with rfl | rfl | rfl | rfl | rfl | rfl | rfl | rfl | rfl | rfl | rfl | rfl | rfl | rfl | rfl | rfl | rfl | rfl | rfl | rfl | rfl | rfl | rfl | rfl | rfl | rfl
  all_goals first
    | (intro _; simp; done)
    | (intro h; exact absurd h (by decide))
theorem find_mem {ps : List (Int × Int)} {x i : Int} (h : findR ps x = some i) : ∃ q ∈ ps, q.2 = i := by
  unfold findR at h
  obtain ⟨q, h1, h2⟩ := Option.map_eq_some_iff.mp h
  exact ⟨q, List.mem_of_find?_eq_some h1, h2⟩
theorem tab_mem {t : Tab} {b : List Int} {i : Int} (h : tabR t b = some i) : ∃ q ∈ t.2, q.2 = i := by
  unfold tabR at h
  cases e : findR t.2 (bAt b t.1) with
  | some j => rw [e] at h; cases h; exact find_mem e
  | none => rw [e] at h; exact find_mem h
theorem step_ok {P : Pg} {s : Sd} {hs : List Int} {n : Nat} (p : PgOk P) (F : SdOk P hs n s) (hw : Wds hs) (he : endR P hs.length s (rowAt P s.row) = none) : SdOk P hs (n + 1) (stepR P hs s (rowAt P s.row)) := by
  have hR := rowOk_at p F.r0 F.r1
  have hla := last_lead p F
  have r0 := F.r0
  have r1 := F.r1
  generalize hr : rowAt P s.row = r at *
  obtain ⟨nm, o, m⟩ := r
  have hop := op_mem nm hR.nm
  have hlo := last_op _ hop
  have same : ∀ i : Int, 0 ≤ i → i < P.rows.length → SdOk P hs (n + 1) { s with row := i } := fun i h0 h1 => ⟨h0, h1, F.h0, F.h1, F.bl, F.bw, F.d0, F.d1, by have := F.tl; simp only; omega⟩
  have next : (opOf nm ≠ .lead 0 true ∧ opOf nm ≠ .lead 0 false ∧ opOf nm ≠ .sw ∧ opOf nm ≠ .en) → s.row + 1 < P.rows.length := fun ⟨q1, q2, q3, q4⟩ => by
    by_cases z : s.row + 1 = P.rows.length
    · rcases hlo (hla z) with h | h | h | h
      · exact absurd h q1
      · exact absurd h q2
      · exact absurd h q3
      · exact absurd h q4
    · omega
  unfold endR at he
  unfold stepR
  cases e : opOf nm with
  | en => simp only [e] at he; cases he
  | doo k y =>
    simp only [e] at he ⊢
    have g1 : ¬ (s.bx.length : Int) ≤ atO s.bx y o := fun q => by rw [if_pos q] at he; cases he
    rw [if_neg g1] at he
    refine doK_ok F hw (next (by rw [e]; simp)) fun q => ?_
    by_cases z : (hs.length : Int) ≤ s.hd
    · rw [if_pos ⟨q, z⟩] at he; cases he
    · omega
  | lead j y =>
    rw [e] at hop
    have hoff : goesO j s.hand = false → s.row + 1 < P.rows.length := fun hb => by
      have hj : j ≠ 0 := fun q => by subst q; cases hb
      exact next (by rw [e]; refine ⟨?_, ?_, by simp, by simp⟩ <;> (intro q; cases q; exact hj rfl))
    cases y with
    | false =>
      simp only [e] at he ⊢
      cases hb : goesO j s.hand with
      | false =>
        simp only [hb, Bool.false_eq_true, if_false]
        exact same _ (by omega) (hoff hb)
      | true =>
        simp only [hb, if_true, Bool.false_eq_true, if_false]
        have hjn : nm ∈ jN := by
          simp only [opL, List.mem_cons, Prod.mk.injEq, Op.lead.injEq, reduceCtorEq, and_false, false_or, or_false, List.not_mem_nil] at hop
          rcases hop with ⟨rfl, _, h⟩ | ⟨rfl, _, h⟩ | ⟨rfl, _, h⟩ | ⟨rfl, _⟩ | ⟨rfl, _⟩ | ⟨rfl, _⟩ <;> decide
        exact same o hR.o0 (hR.oj hjn)
    | true =>
      simp only [e] at he ⊢
      cases hb : goesO j s.hand with
      | false =>
        simp only [hb, Bool.false_eq_true, if_false]
        exact same _ (by omega) (hoff hb)
      | true =>
        simp only [hb, if_true] at he ⊢
        have h1 : ¬ (P.doors.length : Int) ≤ bAt s.bx o % 100 := fun q => by rw [if_pos q] at he; cases he
        rw [if_neg h1] at he
        cases hd : doorAt P (bAt s.bx o % 100) with
        | none => rw [hd] at he; cases he
        | some i =>
          have hm : doorAt P (bAt s.bx o % 100) ∈ P.doors := Sl.getD_mem (by omega)
          have := p.dw _ hm i hd
          exact same i this.1 this.2
  | sw =>
    simp only [e] at he ⊢
    have hsw : nm = "switch" := by
      rw [e] at hop
      simp only [opL, List.mem_cons, Prod.mk.injEq, reduceCtorEq, and_false, false_or, or_false, and_true, List.not_mem_nil] at hop
      exact hop
    cases hn : tabR (tabAt P o) s.bx with
    | none => rw [hn] at he; cases he
    | some i =>
      have hT : TabOk P.boxes.length P.rows.length (tabAt P o) := tabOk_at p hR.o0 (hR.os hsw)
      obtain ⟨q, hq, rfl⟩ := tab_mem hn
      have := hT.it q hq
      exact same q.2 this.2.2.1 this.2.2.2
def endS (P : Pg) (hs : List Int) (s : Sd) : Option (Str × Int) := endR P hs.length s (rowAt P s.row)
def nxS (P : Pg) (hs : List Int) (s : Sd) : Sd := stepR P hs s (rowAt P s.row)
def runS (P : Pg) (hs : List Int) : Nat → Sd → Nat × Sd
  | 0, s => (0, s)
  | n + 1, s => if (endS P hs s).isNone = true then ((runS P hs n (nxS P hs s)).1 + 1, (runS P hs n (nxS P hs s)).2) else (0, s)
theorem run_end {P : Pg} {hs : List Int} {n : Nat} {s : Sd} (h : (endS P hs s).isNone = false) : runS P hs n s = (0, s) := by
  cases n with
  | zero => rfl
  | succ n => unfold runS; rw [h]; rfl
theorem run_succ {P : Pg} {hs : List Int} {n : Nat} {s : Sd} (h : (endS P hs s).isNone = true) : runS P hs (n + 1) s = ((runS P hs n (nxS P hs s)).1 + 1, (runS P hs n (nxS P hs s)).2) := by
  rw [runS, if_pos h]
theorem run_len {P : Pg} {hs : List Int} : ∀ {n : Nat} {s : Sd}, (runS P hs n s).1 ≤ n
  | 0, s => Nat.le_refl _
  | n + 1, s => by
    unfold runS
    split
    · exact Nat.succ_le_succ run_len
    · exact Nat.zero_le _
theorem run_ok {P : Pg} {hs : List Int} (p : PgOk P) (hw : Wds hs) : ∀ {n b : Nat} {s : Sd}, SdOk P hs b s → SdOk P hs (b + (runS P hs n s).1) (runS P hs n s).2
  | 0, b, s, F => F
  | n + 1, b, s, F => by
    unfold runS
    split
    · rename_i h
      have := run_ok p hw (n := n) (step_ok p F hw (Option.isNone_iff_eq_none.mp h))
      rw [show b + ((runS P hs n (nxS P hs s)).1 + 1) = b + 1 + (runS P hs n (nxS P hs s)).1 by omega]
      exact this
    · exact F
/-- parted -/
theorem run_part {P : Pg} {hs : List Int} : ∀ {n m : Nat} {s : Sd}, n ≤ m → runS P hs m s = ((runS P hs n s).1 + (runS P hs (m - (runS P hs n s).1) (runS P hs n s).2).1, (runS P hs (m - (runS P hs n s).1) (runS P hs n s).2).2)
  | 0, m, s, h => by simp [runS]
  | n + 1, 0, s, h => by omega
  | n + 1, m + 1, s, h => by
    by_cases e : (endS P hs s).isNone = true
    · rw [run_succ e, run_succ e]
      have := run_part (P := P) (hs := hs) (n := n) (m := m) (s := nxS P hs s) (by omega)
      simp only
      rw [show m + 1 - ((runS P hs n (nxS P hs s)).1 + 1) = m - (runS P hs n (nxS P hs s)).1 by omega]
      have h1 := congrArg Prod.fst this
      have h2 := congrArg Prod.snd this
      simp only at h1 h2
      rw [h1, h2]
      congr 1
      omega
    · rw [Bool.not_eq_true] at e
      rw [run_end e, run_end e]
      simp only [Nat.sub_zero]
      rw [run_end e]
      simp
def outS (P : Pg) (hs : List Int) (r : Nat × Sd) : D := .tuple [.int r.1, r.2.d, endD (endS P hs r.2)]
instance (priority := high + 1) {P : Pg} {hs : List Int} {s : Sd} [q : StF P hs s] : Cal m_end_at [.fz P.d, .fz s.d, .fz (.list (hs.map .int))] (.v (endD (endS P hs s))) [.fz P.d, .fz s.d, .fz (.list (hs.map .int))] := ⟨h_end_at q.h⟩
class GoF (P : Pg) (hs : List Int) (s : Sd) : Prop where h : (endS P hs s).isNone = true
instance {P : Pg} {hs : List Int} {s : Sd} [q : StF P hs s] [z : GoF P hs s] : Cal m_still_step [.fz P.d, .fz s.d, .fz (.list (hs.map .int))] (.v (nxS P hs s).d) [.fz P.d, .fz s.d, .fz (.list (hs.map .int))] := ⟨h_still_step q.h (Option.isNone_iff_eq_none.mp z.h)⟩
class IsE (o : Option (Str × Int)) (b : outParam Bool) : Prop where h : o.isNone = b
instance (priority := high) {o : Option (Str × Int)} {b : Bool} [q : IsE o b] : Op2 isR (endD o) .none (.v (.bool b)) := ⟨by rw [← q.h]; cases o <;> rfl⟩
theorem sd_mono {P : Pg} {hs : List Int} {n m : Nat} {s : Sd} (h : SdOk P hs n s) (hm : n ≤ m) : SdOk P hs m s := ⟨h.r0, h.r1, h.h0, h.h1, h.bl, h.bw, h.d0, h.d1, by have := h.tl; omega⟩
theorem h_still_on {P : Pg} {hs : List Int} {s : Sd} {n : Int} {b : Nat} (p : PgOk P) (F : SdOk P hs b s) (hb : b ≤ 10000) (hw : Wds hs) (hn : 0 ≤ n ∧ n ≤ 6000) :
    m_still_on [.fz P.d, .fz s.d, .fz (.list (hs.map .int)), .fz (.int n)] = some (.v (outS P hs (runS P hs n.toNat s)), [.fz P.d, .fz s.d, .fz (.list (hs.map .int)), .fz (.int n)]) := by
  haveI : StF P hs s := ⟨⟨p, sd_mono F (by omega)⟩⟩
  refine wm_out ?_
  unfold m_still_on
  walk_at "start"
  unfold b_still_on
  repeat walk_at "go"
  refine ws_st (α := Nat × Sd) [true, true, true, true, true, true] (fun a => [some (.fz P.d), some (.fz a.2.d), some (.fz (.list (hs.map .int))), some (.fz (.int n)), some (.fz (.int a.1)), some (.fz (endD (endS P hs a.2)))]) (fun k a => a.1 + k = n.toNat ∧ SdOk P hs (b + a.1) a.2 ∧ runS P hs n.toNat s = ((runS P hs k a.2).1 + a.1, (runS P hs k a.2).2)) n.toNat (0, s) (by unfold FUEL; omega) (by walk_at "in") ⟨by simp, F, by simp⟩ (fun k a ⟨hk, F1, hr⟩ => ?_)
  walk_at "all"
  obtain ⟨c, s1⟩ := a
  simp only at hk F1 hr ⊢
  haveI : StF P hs s1 := ⟨⟨p, sd_mono F1 (by omega)⟩⟩
  cases he : (endS P hs s1).isNone with
  | false =>
    haveI : IsE (endS P hs s1) false := ⟨he⟩
    rw [run_end he] at hr
    repeat walk_at "go"
    exact ⟨by rw [hr]; simp [outS], rfl⟩
  | true =>
    haveI : IsE (endS P hs s1) true := ⟨he⟩
    haveI : GoF P hs s1 := ⟨he⟩
    cases k with
    | zero =>
      haveI : Fls ((c : Int) < n) := ⟨by omega⟩
      repeat walk_at "go"
      exact ⟨by rw [hr]; simp [outS, runS], rfl⟩
    | succ k =>
      haveI : Tru ((c : Int) < n) := ⟨by omega⟩
      have F2 := step_ok p F1 hw (Option.isNone_iff_eq_none.mp he)
      haveI : StF P hs (nxS P hs s1) := ⟨⟨p, sd_mono F2 (by omega)⟩⟩
      rw [run_succ he] at hr
      repeat walk_at "go"
      unfold b_still_on_1
      repeat walk_at "go"
      exact ⟨k, (c + 1, nxS P hs s1), by omega, by walk_at "in", by simp only; omega, F2, by rw [hr]; simp only; congr 1; omega⟩
class OnF (P : Pg) (hs : List Int) (s : Sd) (n : Int) : Prop where h : PgOk P ∧ (∃ b, SdOk P hs b s ∧ b ≤ 10000) ∧ Wds hs ∧ 0 ≤ n ∧ n ≤ 6000
instance {P : Pg} {hs : List Int} {s : Sd} {n : Int} [q : OnF P hs s n] : Cal m_still_on [.fz P.d, .fz s.d, .fz (.list (hs.map .int)), .fz (.int n)] (.v (outS P hs (runS P hs n.toNat s))) [.fz P.d, .fz s.d, .fz (.list (hs.map .int)), .fz (.int n)] := ⟨by
  obtain ⟨h1, ⟨b, h2, h3⟩, h4, h5, h6⟩ := q.h
  exact h_still_on h1 h2 h3 h4 ⟨h5, h6⟩⟩
def begS (P : Pg) (r : Int) : Sd := ⟨r, 0, P.boxes, 0, []⟩
theorem h_begin (P : Pg) (r : Int) : m_begin_stand [.fz P.d, .fz (.int r)] = some (.v (begS P r).d, [.fz P.d, .fz (.int r)]) := by
  refine wm_out ?_
  unfold m_begin_stand
  walk_at "start"
  unfold b_begin_stand
  repeat walk_at "go"
  exact ⟨rfl, rfl⟩
instance {P : Pg} {r : Int} : Cal m_begin_stand [.fz P.d, .fz (.int r)] (.v (begS P r).d) [.fz P.d, .fz (.int r)] := ⟨h_begin P r⟩
theorem beg_ok {P : Pg} {hs : List Int} {r : Int} (p : PgOk P) (h : 0 ≤ r ∧ r < P.rows.length) : SdOk P hs 0 (begS P r) := ⟨h.1, h.2, by show (0 : Int) ≤ 0; decide, by show (0 : Int) < 10000; decide, rfl, p.bw, by show (0 : Int) ≤ 0; decide, by show (0 : Int) ≤ hs.length; omega, by unfold begS; simp⟩
theorem h_still_run {P : Pg} {hs : List Int} {r n : Int} (p : PgOk P) (hr : 0 ≤ r ∧ r < P.rows.length) (hw : Wds hs) (hn : 0 ≤ n ∧ n ≤ 6000) :
    m_still_run [.fz P.d, .fz (.int r), .fz (.list (hs.map .int)), .fz (.int n)] = some (.v (outS P hs (runS P hs n.toNat (begS P r))), [.fz P.d, .fz (.int r), .fz (.list (hs.map .int)), .fz (.int n)]) := by
  haveI : OnF P hs (begS P r) n := ⟨p, ⟨0, beg_ok p hr, by decide⟩, hw, hn⟩
  refine wm_out ?_
  unfold m_still_run
  walk_at "start"
  unfold b_still_run
  repeat walk_at "go"
  exact ⟨rfl, rfl⟩
class RunF (P : Pg) (hs : List Int) (r n : Int) : Prop where h : PgOk P ∧ (0 ≤ r ∧ r < P.rows.length) ∧ Wds hs ∧ 0 ≤ n ∧ n ≤ 6000
instance {P : Pg} {hs : List Int} {r n : Int} [q : RunF P hs r n] : Cal m_still_run [.fz P.d, .fz (.int r), .fz (.list (hs.map .int)), .fz (.int n)] (.v (outS P hs (runS P hs n.toNat (begS P r)))) [.fz P.d, .fz (.int r), .fz (.list (hs.map .int)), .fz (.int n)] := ⟨h_still_run q.h.1 q.h.2.1 q.h.2.2.1 q.h.2.2.2⟩
/-! ### the law's own run -/
def dueS (P : Pg) (hs : List Int) (s : Sd) : D := match endS P hs s with
  | some e => .tuple [.str e.1, .int e.2]
  | none => (nxS P hs s).d
theorem mov_eq {P : Pg} {hs : List Int} {s : Sd} : movD P hs s (rowAt P s.row) = .tuple [.bool (!(endS P hs s).isNone), dueS P hs s] := by
  unfold movD dueS endS
  cases endR P hs.length s (rowAt P s.row) <;> rfl
class EndB (P : Pg) (hs : List Int) (s : Sd) (b : outParam Bool) : Prop where h : (endS P hs s).isNone = !b
instance {P : Pg} {hs : List Int} {s : Sd} {b : Bool} [q : StF P hs s] [z : EndB P hs s b] : Cal m_law_move [.fz P.d, .fz s.d, .fz (.list (hs.map .int))] (.v (.tuple [.bool b, dueS P hs s])) [.fz P.d, .fz s.d, .fz (.list (hs.map .int))] := ⟨by
  rw [h_move q.h, mov_eq, z.h, Bool.not_not]⟩
theorem due_go {P : Pg} {hs : List Int} {s : Sd} (h : (endS P hs s).isNone = true) : dueS P hs s = (nxS P hs s).d := by
  unfold dueS
  rw [Option.isNone_iff_eq_none.mp h]
theorem due_end {P : Pg} {hs : List Int} {s : Sd} (h : (endS P hs s).isNone = false) : dueS P hs s = endD (endS P hs s) := by
  unfold dueS
  cases e : endS P hs s with
  | none => rw [e] at h; cases h
  | some e => rfl
theorem h_lrun {P : Pg} {hs : List Int} {s : Sd} {n : Int} {b : Nat} (p : PgOk P) (F : SdOk P hs b s) (hb : b ≤ 10000) (hw : Wds hs) (hn : 0 ≤ n ∧ n ≤ 6000) :
    m_law_run__2 [.fz P.d, .fz s.d, .fz (.list (hs.map .int)), .fz (.int n)] = some (.v (outS P hs (runS P hs n.toNat s)), [.fz P.d, .fz s.d, .fz (.list (hs.map .int)), .fz (.int n)]) := by
  haveI : StF P hs s := ⟨⟨p, sd_mono F (by omega)⟩⟩
  haveI : EndB P hs s (!(endS P hs s).isNone) := ⟨by simp⟩
  refine wm_out ?_
  unfold m_law_run__2
  walk_at "start"
  unfold b_law_run__2
  repeat walk_at "go"
  refine ws_st (α := Nat × Sd) [true, true, true, true, true, true, true] (fun a => [some (.fz P.d), some (.fz a.2.d), some (.fz (.list (hs.map .int))), some (.fz (.int n)), some (.fz (.int a.1)), some (.fz (.bool (!(endS P hs a.2).isNone))), some (.fz (dueS P hs a.2))]) (fun k a => a.1 + k = n.toNat ∧ SdOk P hs (b + a.1) a.2 ∧ runS P hs n.toNat s = ((runS P hs k a.2).1 + a.1, (runS P hs k a.2).2)) n.toNat (0, s) (by unfold FUEL; omega) (by walk_at "in") ⟨by simp, F, by simp⟩ (fun k a ⟨hk, F1, hr⟩ => ?_)
  walk_at "all"
  obtain ⟨c, s1⟩ := a
  simp only at hk F1 hr ⊢
  haveI : StF P hs s1 := ⟨⟨p, sd_mono F1 (by omega)⟩⟩
  cases he : (endS P hs s1).isNone with
  | false =>
    rw [run_end he] at hr
    repeat walk_at "go"
    exact ⟨by rw [due_end he, hr]; simp [outS], rfl⟩
  | true =>
    cases k with
    | zero =>
      haveI : Fls ((c : Int) < n) := ⟨by omega⟩
      repeat walk_at "go"
      exact ⟨by rw [hr]; simp [outS, runS, Option.isNone_iff_eq_none.mp he, endD], rfl⟩
    | succ k =>
      haveI : Tru ((c : Int) < n) := ⟨by omega⟩
      have F2 := step_ok p F1 hw (Option.isNone_iff_eq_none.mp he)
      haveI : StF P hs (nxS P hs s1) := ⟨⟨p, sd_mono F2 (by omega)⟩⟩
      haveI : EndB P hs (nxS P hs s1) (!(endS P hs (nxS P hs s1)).isNone) := ⟨by simp⟩
      rw [run_succ he] at hr
      rw [due_go he]
      repeat walk_at "go"
      unfold b_law_run__2_1
      repeat walk_at "go"
      exact ⟨k, (c + 1, nxS P hs s1), by omega, by walk_at "in", by simp only; omega, F2, by rw [hr]; simp only; congr 1; omega⟩
class OnL (P : Pg) (hs : List Int) (s : Sd) (n : Int) : Prop where h : PgOk P ∧ (∃ b, SdOk P hs b s ∧ b ≤ 10000) ∧ Wds hs ∧ 0 ≤ n ∧ n ≤ 6000
instance {P : Pg} {hs : List Int} {s : Sd} {n : Int} [q : OnF P hs s n] : Cal m_law_run__2 [.fz P.d, .fz s.d, .fz (.list (hs.map .int)), .fz (.int n)] (.v (outS P hs (runS P hs n.toNat s))) [.fz P.d, .fz s.d, .fz (.list (hs.map .int)), .fz (.int n)] := ⟨by
  obtain ⟨h1, ⟨b, h2, h3⟩, h4, h5, h6⟩ := q.h
  exact h_lrun h1 h2 h3 h4 ⟨h5, h6⟩⟩
/-! ### the same, part by part -/
inductive Al : Nat → D → Prop
  | int {n : Nat} (i : Int) : Al n (.int i)
  | str {n : Nat} (x : Str) : Al n (.str x)
  | non {n : Nat} : Al n .none
  | tup {n : Nat} {ds : List D} : ds.length ≤ 100000 → (∀ d ∈ ds, Al n d) → Al (n + 1) (.tuple ds)
  | lst {n : Nat} {ds : List D} : ds.length ≤ 100000 → (∀ d ∈ ds, Al n d) → Al (n + 1) (.list ds)
theorem zip_same (ds : List D) : zipD ds ds = ds.map fun d => .tuple [d, d] := by
  induction ds with
  | nil => rfl
  | cons d ds ih =>
    show PyData.tuple [d, d] :: zipD ds ds = _
    rw [ih]
    rfl
theorem h_alike : ∀ {n : Nat} {d : D}, Al n d → ∀ k, n < k → r_law_alike__4 k [.fz d, .fz d] = some (.v (.bool true), [.fz d, .fz d]) := by
  intro n d h
  induction h with
  | int i =>
    intro k hk
    obtain ⟨k, rfl⟩ : ∃ j, k = j + 1 := ⟨k - 1, by omega⟩
    refine wm_out ?_
    unfold r_law_alike__4
    walk_at "start"
    unfold b_law_alike__4
    repeat walk_at "go"
    exact ⟨by simp, rfl⟩
  | str x =>
    intro k hk
    obtain ⟨k, rfl⟩ : ∃ j, k = j + 1 := ⟨k - 1, by omega⟩
    refine wm_out ?_
    unfold r_law_alike__4
    walk_at "start"
    unfold b_law_alike__4
    repeat walk_at "go"
    exact ⟨by simp, rfl⟩
  | non =>
    intro k hk
    obtain ⟨k, rfl⟩ : ∃ j, k = j + 1 := ⟨k - 1, by omega⟩
    refine wm_out ?_
    unfold r_law_alike__4
    walk_at "start"
    unfold b_law_alike__4
    repeat walk_at "go"
    exact ⟨rfl, rfl⟩
  | tup hl h ih =>
    intro k hk
    obtain ⟨k, rfl⟩ : ∃ j, k = j + 1 := ⟨k - 1, by omega⟩
    refine wm_out ?_
    unfold r_law_alike__4
    walk_at "start"
    unfold b_law_alike__4
    repeat walk_at "go"
    rw [zip_same]
    refine kl_encM (fun d => .tuple [d, d]) (fun _ => .bool true) (fun d hd => ?_) ?_
    · have := ih d hd k (by omega)
      walk_at "lcm"
    repeat walk_at "go"
    exact ⟨by simp, rfl⟩
  | lst hl h ih =>
    intro k hk
    obtain ⟨k, rfl⟩ : ∃ j, k = j + 1 := ⟨k - 1, by omega⟩
    refine wm_out ?_
    unfold r_law_alike__4
    walk_at "start"
    unfold b_law_alike__4
    repeat walk_at "go"
    rw [zip_same]
    refine kl_encM (fun d => .tuple [d, d]) (fun _ => .bool true) (fun d hd => ?_) ?_
    · have := ih d hd k (by omega)
      walk_at "lcm"
    repeat walk_at "go"
    exact ⟨by simp, rfl⟩
class AlF (d : D) : Prop where h : ∃ n, n < 8 ∧ Al n d
instance {d : D} [q : AlF d] : Cal m_law_alike__4 [.fz d, .fz d] (.v (.bool true)) [.fz d, .fz d] := ⟨by
  obtain ⟨n, h1, h2⟩ := q.h
  exact h_alike h2 8 h1⟩
theorem al_ints {n : Nat} {ns : List Int} (h : ns.length ≤ 100000) : Al (n + 1) (.tuple (ns.map .int)) := .tup (by rw [List.length_map]; exact h) fun d hd => by
  obtain ⟨i, _, rfl⟩ := List.mem_map.mp hd
  exact .int i
theorem al_cons {n : Nat} {d : D} {ds : List D} (h : Al n d) (k : ∀ x ∈ ds, Al n x) : ∀ x ∈ d :: ds, Al n x := fun x hx => by
  rcases List.mem_cons.mp hx with rfl | hx
  · exact h
  · exact k x hx
theorem al_sd {s : Sd} (h1 : s.bx.length ≤ 100000) (h2 : s.told.length ≤ 100000) : Al 2 s.d := .tup (by simp) (al_cons (.int _) (al_cons (.int _) (al_cons (al_ints h1) (al_cons (.int _) (al_cons (al_ints h2) (by simp))))))
theorem al_end (o : Option (Str × Int)) : Al 2 (endD o) := by
  cases o with
  | none => exact .non
  | some e => exact .tup (by simp) (al_cons (.str _) (al_cons (.int _) (by simp)))
theorem al_out {P : Pg} {hs : List Int} {r : Nat × Sd} (h1 : r.2.bx.length ≤ 100000) (h2 : r.2.told.length ≤ 100000) : Al 3 (outS P hs r) := .tup (by simp) (al_cons (.int _) (al_cons (al_sd h1 h2) (al_cons (al_end _) (by simp))))
theorem set_map {cs : List Int} {k : Nat} {v : Int} : (cs.map PyData.int).set k (.int v) = (cs.set k v).map .int := by rw [List.map_set]
theorem w_cells (ns : List Int) (m : Int) (hl : ns.length ≤ 63) (hm : 1 ≤ m ∧ m ≤ 63) : Wm m_law_cells [.fz (.list (ns.map .int)), .fz (.int m)] fun r _ => ∃ cs : List Int, r = .n (.list (cs.map .int)) ∧ cs.length ≤ m := by
  unfold m_law_cells
  walk_at "start"
  unfold b_law_cells
  have hml : (ns.map PyData.int).length = ns.length := List.length_map _
  repeat walk_at "go"
  rw [← List.map_take]
  have hcl : (ns.take m.toNat).length = min m.toNat ns.length := List.length_take
  generalize ns.take m.toNat = c0 at hcl
  refine lk_ty [.k, .k, .o (fun i d => ∃ cs : List Int, d = .list (cs.map .int) ∧ cs.length = min m.toNat ns.length), .f] (inT_k (inT_k (inT_o ⟨c0, rfl, hcl⟩ (inT_none inT_nil)))) (fun i d hi => ?_) ?_
  · obtain ⟨rfl, hk⟩ := rngD_get hi
    walk_at "allT"
    rintro ds ⟨cs, rfl, hc⟩ x3
    have hml2 : (cs.map PyData.int).length = cs.length := List.length_map _
    have hmod : 0 ≤ (m + (i : Int)) % m ∧ (m + (i : Int)) % m < m := ⟨Int.emod_nonneg _ (by omega), Int.emod_lt_of_pos _ (by omega)⟩
    refine ⟨_, (by walk_at "set"), ?_⟩
    unfold b_law_cells_1
    repeat walk_at "go"
    rw [set_map]
    refine inT_k (inT_k (inT_o ⟨_, rfl, by rw [List.length_set]; exact hc⟩ ?_))
    walk_at "inT"
  · walk_at "allT"
    rintro ds ⟨cs, rfl, hc⟩ x3
    repeat walk_at "go"
    exact ⟨cs, rfl, by omega⟩
theorem w_running {n : Int} {p : D} (hp : Pool n p) (hn : n < 100000) : Wm m_law_running [.io p] fun r out => ∃ (ss : List Str) (p' : D), r = .v (.list (ss.map .str)) ∧ out = [.io p'] ∧ Pool (n + 1) p' ∧ NmsOk ss := by
  unfold m_law_running
  walk_at "start"
  unfold b_law_running
  repeat walk_at "go"
  refine k2_ixA rfl rfl (by assumption) (by assumption) fun d hd => ?_
  rename_i m q hq m0 m1 _ _
  obtain ⟨ss, rfl, hss⟩ : ∃ ss : List Str, d = .list (ss.map .str) ∧ NmsOk ss := by
    have hm : m.toNat = 0 ∨ m.toNat = 1 ∨ m.toNat = 2 ∨ m.toNat = 3 := by omega
    rcases hm with h | h | h | h <;> (rw [h] at hd; cases hd)
    · exact ⟨namesL, rfl, by decide, by decide, by decide +kernel⟩
    · exact ⟨["add", "less", "loadby", "store", "say", "patch", "hear", "nought", "great", "go", "addby", "patchby"], rfl, by decide, by decide, by decide +kernel⟩
    · exact ⟨["add", "less", "loadby", "store", "say", "patch", "hear", "nought", "great", "go", "addby", "patchby", "noughtby", "greatby", "goby", "switch"], rfl, by decide, by decide, by decide +kernel⟩
    · exact ⟨["hear", "hearby", "hear", "go", "say", "nought"], rfl, by decide, by decide, by decide +kernel⟩
  repeat walk_at "go"
  exact ⟨ss, _, rfl, rfl, hq, hss⟩
theorem running_step {n : Int} {p : D} {Q : R → List Cel → Prop} (hp : Pool n p) (hn : n < 100000) (k : ∀ ss p', Pool (n + 1) p' → NmsOk ss → Q (.v (.list (ss.map .str))) [.io p']) : Wm m_law_running [.io p] Q :=
  wm_mono (w_running hp hn) fun r out h => by
    obtain ⟨ss, p', rfl, rfl, h1, h2⟩ := h
    exact k ss p' h1 h2
theorem still_pg {P : Pg} (h : PgOk P) : stillB P.d = true := by
  have a := h_is_still h
  rw [t_still] at a
  injection a with a
  injection a with a _
  injection a with a
  injection a
theorem zip_mem2 : ∀ {a b : List D} {d : D}, d ∈ zipD a b → ∃ x y, x ∈ a ∧ y ∈ b ∧ d = .tuple [x, y]
  | [], _, _, h => by cases h
  | _ :: _, [], _, h => by cases h
  | x :: a, y :: b, d, h => by
    rcases List.mem_cons.mp (show d ∈ PyData.tuple [x, y] :: zipD a b from h) with rfl | h
    · exact ⟨x, y, List.mem_cons_self .., List.mem_cons_self .., rfl⟩
    · obtain ⟨u, v, h1, h2, h3⟩ := zip_mem2 h
      exact ⟨u, v, List.mem_cons_of_mem _ h1, List.mem_cons_of_mem _ h2, h3⟩
theorem zip_len2 : ∀ (a b : List D), (zipD a b).length ≤ a.length
  | [], _ => Nat.le_refl _
  | _ :: _, [] => Nat.zero_le _
  | x :: a, y :: b => by
    show (PyData.tuple [x, y] :: zipD a b).length ≤ _
    have := zip_len2 a b
    simp only [List.length_cons]
    omega
class PgF (P : Pg) : Prop where h : PgOk P
instance (priority := high) {P : Pg} [q : PgF P] : Cal m_is_still [.fz P.d] (.v (.bool true)) [.fz P.d] := ⟨h_is_still q.h⟩
instance (priority := high) {P : Pg} [q : PgF P] : Cal m_law_due__2 [.fz P.d] (.v (.bool true)) [.fz P.d] := ⟨by rw [t_due, still_pg q.h]⟩
instance {d : D} : Cal m_law_due__2 [.fz d] (.v (.bool (stillB d))) [.fz d] := ⟨t_due d⟩
instance : Cal m_law_bounds_right [] (.v (.bool true)) [] := ⟨h_bounds⟩
theorem spoilt_step {n kind spot : Int} {p : D} {P : Pg} {Q : R → List Cel → Prop} (hp : Pool n p) (hn : n < 100000) (hP : PgOk P) (hk : 0 ≤ kind ∧ kind < 10) (hs : 0 ≤ spot) (k : ∀ d p', Pool (n + 10) p' → Q (.v d) [.io p', .fz (.int kind), .fz P.d, .fz (.int spot)]) : Wm m_law_spoilt [.io p, .fz (.int kind), .fz P.d, .fz (.int spot)] Q :=
  wm_mono (w_spoilt hp hn hP hk hs) fun r out h => by
    obtain ⟨d, p', rfl, rfl, h1⟩ := h
    exact k d p' h1
local macro_rules | `(tactic| walk_at "call") => `(tactic| ((with_reducible apply program_step); assumption; omega; assumption; intro P p' hp hP hP30; refine ⟨_, (by walk_at "set"), ?_⟩))
local macro_rules | `(tactic| walk_at "call") => `(tactic| ((with_reducible apply spoilt_step); assumption; omega; assumption; omega; omega; intro d p' hp; refine ⟨_, (by walk_at "set"), ?_⟩))
theorem law_k12 (ns : List Int) (hl : ns.length ≤ 63) : ∃ out, m_main_k12 [.fz (.list (ns.map .int))] = some (.v (.bool true), out) := by
  suffices h : Wm m_main_k12 [.fz (.list (ns.map .int))] fun r _ => r = .v (.bool true) by
    obtain ⟨r, out, h1, rfl⟩ := h
    exact ⟨out, h1⟩
  have hnm : NmsOk namesL := ⟨by decide, by decide, by decide +kernel⟩
  unfold m_main_k12
  walk_at "start"
  unfold b_main_k12
  repeat walk_at "go"
  refine kcx rfl (by walk_at "set") (wm_mono (w_cells ns 10 hl (by omega)) fun r out h => ?_)
  obtain ⟨xs, rfl, hc⟩ := h
  refine ⟨okB rfl, ?_⟩
  repeat walk_at "go"
  refine lk_ty [.k, .f, .f, .f, .f, .f, .f, .f, .f, .f, .f] (by walk_at "inT") (fun i d hd => ?_) ?_
  · obtain ⟨x, rfl⟩ : ∃ x, d = .int x := by
      rcases List.mem_append.mp (List.mem_of_getElem? hd) with h | h
      · rw [List.mem_singleton] at h; exact ⟨0, h⟩
      · obtain ⟨x, _, rfl⟩ := List.mem_map.mp h; exact ⟨x, rfl⟩
    clear hd
    walk_at "allT"
    intro x1 x2 x3 x4 x5 x6 x7 x8 x9 x10
    refine ⟨_, (by walk_at "set"), ?_⟩
    unfold b_main_k12_2
    repeat walk_at "gi"
    rename_i p0 hp0
    have hlen : (rngD 0 (Int.toNat 8)).length = 8 := rngD_len
    refine kl_tyM [.k, .k, .o (fun j d => Pool (0 + j) d), .k, .k, .k, .k, .k, .k, .k, .f] (TI 0 10) (by refine inT_k (inT_k (inT_o (pool_mono hp0 (by omega)) ?_)); walk_at "inT") (fun j d hj => ?_) fun acc hl hT => ?_
    · have hjl : j < 8 := by rw [← hlen]; exact (List.getElem?_eq_some_iff.mp hj).1
      walk_at "allT"
      intro q hq y10
      refine ⟨_, (by walk_at "set"), ?_⟩
      repeat walk_at "go"
      refine ⟨⟨_, rfl, by assumption, by assumption⟩, ?_⟩
      refine inT_k (inT_k (inT_o (pool_mono (by assumption) (by omega)) ?_))
      walk_at "inT"
    rw [hlen] at hl ⊢
    walk_at "allT"
    intro q1 hq1 y10
    repeat walk_at "go"
    refine kl_tyM [.k, .k, .o (fun j d => Pool (8 + j) d), .k, .k, .k, .k, .k, .k, .k, .f] (TI 0 1000) (by refine inT_k (inT_k (inT_o (pool_mono hq1 (by omega)) ?_)); walk_at "inT") (fun j d hj => ?_) fun acc2 hl2 hT2 => ?_
    · have hjl : j < 8 := by rw [← hlen]; exact (List.getElem?_eq_some_iff.mp hj).1
      walk_at "allT"
      intro q hq y10
      refine ⟨_, (by walk_at "set"), ?_⟩
      repeat walk_at "go"
      refine ⟨⟨_, rfl, by assumption, by assumption⟩, ?_⟩
      refine inT_k (inT_k (inT_o (pool_mono (by assumption) (by omega)) ?_))
      walk_at "inT"
    rw [hlen] at hl2 ⊢
    walk_at "allT"
    intro q2 hq2 y10
    repeat walk_at "go"
    rename_i P q3 hq3 hP hP30
    haveI : PgF P := ⟨hP⟩
    rw [still_pg hP]
    repeat walk_at "go"
    refine lk_ty [.k, .k, .o (fun j d => Pool (5016 + 10 * j) d), .k, .k, .k, .f, .f, .f, .f, .f] (by refine inT_k (inT_k (inT_o (pool_mono hq3 (by omega)) ?_)); walk_at "inT") (fun j d hd => ?_) ?_
    · obtain ⟨u, v, hu, hv, rfl⟩ := zip_mem2 (List.mem_of_getElem? hd)
      have hj8 : j < 8 := by have := (List.getElem?_eq_some_iff.mp hd).1; have := zip_len2 acc acc2; omega
      obtain ⟨a, rfl, ha0, ha1⟩ := hT _ hu
      obtain ⟨b, rfl, hb0, hb1⟩ := hT2 _ hv
      clear hd
      walk_at "allT"
      intro q hq y6 y7 y8 y9 y10
      refine ⟨_, (by walk_at "set"), ?_⟩
      unfold b_main_k12_1
      repeat walk_at "go"
      refine inT_k (inT_k (inT_o (pool_mono (by assumption) (by omega)) ?_))
      walk_at "inT"
    · walk_at "allT"
      intro q hq y6 y7 y8 y9 y10
      repeat walk_at "go"
      walk_at "inT"
  · walk_at "allT"
    intro x1 x2 x3 x4 x5 x6 x7 x8 x9 x10
    repeat walk_at "go"
    rfl
end Rd

set_option Elab.async false
set_option linter.all false
set_option maxRecDepth 100000
set_option maxHeartbeats 4000000
set_option autoImplicit false
namespace Tk12
open PySem PySem.Spec PyProof.Rows L2 Sl Rd
def top (i : Nat) : Stmt := PySem.Challenge.pw_stillrow_k12_still_programs_known.main.body.getD i (.Pass ⟨0, 0, 0, 0⟩)
abbrev s_is_from : Stmt := top 11
abbrev s_is_tuple_of : Stmt := top 12
abbrev s_are_boxes : Stmt := top 13
abbrev s_is_row : Stmt := top 14
abbrev s_is_table : Stmt := top 15
abbrev s_are_doors : Stmt := top 16
abbrev s_is_still : Stmt := top 17
abbrev s_law_pool : Stmt := top 19
abbrev s_law_next : Stmt := top 20
abbrev s_law_cells : Stmt := top 21
abbrev s_law_doing : Stmt := top 22
abbrev s_law_ending : Stmt := top 23
abbrev s_law_names : Stmt := top 24
abbrev s_law_word : Stmt := top 25
abbrev s_law_words : Stmt := top 26
abbrev s_law_row : Stmt := top 27
abbrev s_law_table : Stmt := top 28
abbrev s_law_program : Stmt := top 29
abbrev s_law_within : Stmt := top 30
abbrev s_law_row_good : Stmt := top 31
abbrev s_law_table_good : Stmt := top 32
abbrev s_law_due : Stmt := top 33
abbrev s_law_other : Stmt := top 34
abbrev s_law_put : Stmt := top 35
abbrev s_law_other_row : Stmt := top 36
abbrev s_law_other_table : Stmt := top 37
abbrev s_law_spoilt : Stmt := top 38
abbrev s_law_bounds_right : Stmt := top 39
abbrev s_law : Stmt := top 40
def d_is_from : He.DefD := ⟨("is_from", none), "is_from", "is_from", defArgs s_is_from, defBody s_is_from, defScope s_is_from, [], []⟩
def d_is_tuple_of : He.DefD := ⟨("is_tuple_of", none), "is_tuple_of", "is_tuple_of", defArgs s_is_tuple_of, defBody s_is_tuple_of, defScope s_is_tuple_of, [], []⟩
def d_are_boxes : He.DefD := ⟨("are_boxes", none), "are_boxes", "are_boxes", defArgs s_are_boxes, defBody s_are_boxes, defScope s_are_boxes, [], []⟩
def d_is_row : He.DefD := ⟨("is_row", none), "is_row", "is_row", defArgs s_is_row, defBody s_is_row, defScope s_is_row, [], []⟩
def d_is_table : He.DefD := ⟨("is_table", none), "is_table", "is_table", defArgs s_is_table, defBody s_is_table, defScope s_is_table, [], []⟩
def d_are_doors : He.DefD := ⟨("are_doors", none), "are_doors", "are_doors", defArgs s_are_doors, defBody s_are_doors, defScope s_are_doors, [], []⟩
def d_is_still : He.DefD := ⟨("is_still", none), "is_still", "is_still", defArgs s_is_still, defBody s_is_still, defScope s_is_still, [], []⟩
def d_law_pool : He.DefD := ⟨("_law_pool", none), "_law_pool", "_law_pool", defArgs s_law_pool, defBody s_law_pool, defScope s_law_pool, [], []⟩
def d_law_next : He.DefD := ⟨("_law_next", none), "_law_next", "_law_next", defArgs s_law_next, defBody s_law_next, defScope s_law_next, [], []⟩
def d_law_cells : He.DefD := ⟨("_law_cells", none), "_law_cells", "_law_cells", defArgs s_law_cells, defBody s_law_cells, defScope s_law_cells, [], []⟩
def d_law_doing : He.DefD := ⟨("_law_doing", none), "_law_doing", "_law_doing", defArgs s_law_doing, defBody s_law_doing, defScope s_law_doing, [], []⟩
def d_law_ending : He.DefD := ⟨("_law_ending", none), "_law_ending", "_law_ending", defArgs s_law_ending, defBody s_law_ending, defScope s_law_ending, [], []⟩
def d_law_names : He.DefD := ⟨("_law_names", none), "_law_names", "_law_names", defArgs s_law_names, defBody s_law_names, defScope s_law_names, [], []⟩
def d_law_word : He.DefD := ⟨("_law_word", none), "_law_word", "_law_word", defArgs s_law_word, defBody s_law_word, defScope s_law_word, [], []⟩
def d_law_words : He.DefD := ⟨("_law_words", none), "_law_words", "_law_words", defArgs s_law_words, defBody s_law_words, defScope s_law_words, [], []⟩
def d_law_row : He.DefD := ⟨("_law_row", none), "_law_row", "_law_row", defArgs s_law_row, defBody s_law_row, defScope s_law_row, [], []⟩
def d_law_table : He.DefD := ⟨("_law_table", none), "_law_table", "_law_table", defArgs s_law_table, defBody s_law_table, defScope s_law_table, [], []⟩
def d_law_program : He.DefD := ⟨("_law_program", none), "_law_program", "_law_program", defArgs s_law_program, defBody s_law_program, defScope s_law_program, [], []⟩
def d_law_within : He.DefD := ⟨("_law_within", none), "_law_within", "_law_within", defArgs s_law_within, defBody s_law_within, defScope s_law_within, [], []⟩
def d_law_row_good : He.DefD := ⟨("_law_row_good", none), "_law_row_good", "_law_row_good", defArgs s_law_row_good, defBody s_law_row_good, defScope s_law_row_good, [], []⟩
def d_law_table_good : He.DefD := ⟨("_law_table_good", none), "_law_table_good", "_law_table_good", defArgs s_law_table_good, defBody s_law_table_good, defScope s_law_table_good, [], []⟩
def d_law_due : He.DefD := ⟨("_law_due", none), "_law_due", "_law_due", defArgs s_law_due, defBody s_law_due, defScope s_law_due, [], []⟩
def d_law_other : He.DefD := ⟨("_law_other", none), "_law_other", "_law_other", defArgs s_law_other, defBody s_law_other, defScope s_law_other, [], []⟩
def d_law_put : He.DefD := ⟨("_law_put", none), "_law_put", "_law_put", defArgs s_law_put, defBody s_law_put, defScope s_law_put, [], []⟩
def d_law_other_row : He.DefD := ⟨("_law_other_row", none), "_law_other_row", "_law_other_row", defArgs s_law_other_row, defBody s_law_other_row, defScope s_law_other_row, [], []⟩
def d_law_other_table : He.DefD := ⟨("_law_other_table", none), "_law_other_table", "_law_other_table", defArgs s_law_other_table, defBody s_law_other_table, defScope s_law_other_table, [], []⟩
def d_law_spoilt : He.DefD := ⟨("_law_spoilt", none), "_law_spoilt", "_law_spoilt", defArgs s_law_spoilt, defBody s_law_spoilt, defScope s_law_spoilt, [], []⟩
def d_law_bounds_right : He.DefD := ⟨("_law_bounds_right", none), "_law_bounds_right", "_law_bounds_right", defArgs s_law_bounds_right, defBody s_law_bounds_right, defScope s_law_bounds_right, [], []⟩
def d_law : He.DefD := ⟨("law", none), "law", "law", defArgs s_law, defBody s_law, defScope s_law, [], []⟩
def fn : List He.DefD := [d_is_from, d_is_tuple_of, d_are_boxes, d_is_row, d_is_table, d_are_doors, d_is_still, d_law_pool, d_law_next, d_law_cells, d_law_doing, d_law_ending, d_law_names, d_law_word, d_law_words, d_law_row, d_law_table, d_law_program, d_law_within, d_law_row_good, d_law_table_good, d_law_due, d_law_other, d_law_put, d_law_other_row, d_law_other_table, d_law_spoilt, d_law_bounds_right, d_law]
def fa : List He.Fa := [.free "isinstance", .free "int", .free "bool", .free "tuple", .free "len", .free "max", .free "list", .free "range", .free "all", .free "str", .free "sorted", .free "set", .free "zip", .glo "is_from", .glo "is_tuple_of", .glo "are_boxes", .glo "is_row", .glo "is_table", .glo "are_doors", .glo "is_still", .glo "_law_pool", .glo "_law_next", .glo "_law_cells", .glo "_law_doing", .glo "_law_ending", .glo "_law_names", .glo "_law_word", .glo "_law_words", .glo "_law_row", .glo "_law_table", .glo "_law_program", .glo "_law_within", .glo "_law_row_good", .glo "_law_table_good", .glo "_law_due", .glo "_law_other", .glo "_law_put", .glo "_law_other_row", .glo "_law_other_table", .glo "_law_spoilt", .glo "_law_bounds_right", .glo "law"]
def cs : List (Str × D) := [("MOST_BOXES", (.int 99)), ("MOST_WORD", (.int 9999)), ("MOST_MARK", (.int 99)), ("BY_BOX", c_BY_BOX), ("BY_ROW", c_BY_ROW), ("ENDING", c_ENDING), ("MOST_ITEM", (.int 10099)), ("MOST_ROWS", (.int 2000)), ("MOST_TABLES", (.int 99)), ("LAST", c_LAST)]
variable {P : Program} {w : World} {K : PySem.W.Frag} {mg : Str → Option Value} {base : Heap}
def ms : List Str := []
def us : List Str := []
theorem sc_is_from : FnScope ["thing", "low", "high"] ["thing", "low", "high"] (defScope s_is_from) := ⟨rfl, rfl, rfl, by decide +kernel, rfl, by decide +kernel, by decide +kernel⟩
theorem ok_is_from (T : Txt fa fn cs K mg)   : Def P w K mg base "is_from" ["thing", "low", "high"] 1 m_is_from := by
  obtain ⟨fd, F⟩ := T.says.def_ 0 (d := d_is_from) rfl
  refine ⟨_, fd, T.glo 13, F.kp, F.bindsN fun _ _ _ _ _ _ us hl => match us, hl with | [_, _, _], _ => rfl, FnOk.mono (fn_ok (k := 0) F sc_is_from rfl rfl fun cdv A outer s H E hr => ?_) (by decide), funD_lk F⟩
  exact (so_blk1 (so_ret (so_andV (so_isi (fun _ => T.free 0) (fun _ => T.free 1) (by decide +kernel) so_var) (so_andV (so_notV (so_isi (fun _ => T.free 0) (fun _ => T.free 2) (by decide +kernel) so_var)) (so_oneV (so_lele so_var so_var so_var))))))
theorem sc_is_tuple_of : FnScope ["thing", "low", "high"] ["thing", "low", "high"] (defScope s_is_tuple_of) := ⟨rfl, rfl, rfl, by decide +kernel, rfl, by decide +kernel, by decide +kernel⟩
theorem ok_is_tuple_of (T : Txt fa fn cs K mg)   : Def P w K mg base "is_tuple_of" ["thing", "low", "high"] 1 m_is_tuple_of := by
  obtain ⟨fd, F⟩ := T.says.def_ 1 (d := d_is_tuple_of) rfl
  refine ⟨_, fd, T.glo 14, F.kp, F.bindsN fun _ _ _ _ _ _ us hl => match us, hl with | [_, _, _], _ => rfl, FnOk.mono (fn_ok (k := 0) F sc_is_tuple_of rfl rfl fun cdv A outer s H E hr => ?_) (by decide), funD_lk F⟩
  exact (so_blk1 (so_ret (so_andV (so_isi (fun _ => T.free 0) (fun _ => T.free 3) (by decide +kernel) so_var) (so_oneV (so_lele so_var (so_len (fun _ => T.free 4) (so_pP so_var so_p0)) so_var)))))
theorem sc_law_pool : FnScope ["cell"] ["cell"] (defScope s_law_pool) := ⟨rfl, rfl, rfl, by decide +kernel, rfl, by decide +kernel, by decide +kernel⟩
theorem ok_law_pool (T : Txt fa fn cs K mg)   : Def P w K mg base "_law_pool" ["cell"] 1 m_law_pool := by
  obtain ⟨fd, F⟩ := T.says.def_ 7 (d := d_law_pool) rfl
  refine ⟨_, fd, T.glo 20, F.kp, F.bindsN fun _ _ _ _ _ _ us hl => match us, hl with | [_], _ => rfl, FnOk.mono (fn_ok (k := 0) F sc_law_pool rfl rfl fun cdv A outer s H E hr => ?_) (by decide), funD_lk F⟩
  exact (so_blk1 (so_ret (so_lst (so_cons (so_max (fun _ => T.free 5) (so_pP so_int (so_pP (so_sub so_var (so_pow so_int so_int)) so_p0))) (so_cons (so_mod so_var so_int) (so_cons so_int so_nil))))))
theorem sc_law_next : FnScope ["pool", "base", "digit", "turn", "close", "stir"] ["pool", "base"] (defScope s_law_next) := ⟨rfl, rfl, rfl, by decide +kernel, rfl, by decide +kernel, by decide +kernel⟩
theorem ok_law_next (T : Txt fa fn cs K mg)   : Def P w K mg base "_law_next" ["pool", "base"] 1 m_law_next := by
  obtain ⟨fd, F⟩ := T.says.def_ 8 (d := d_law_next) rfl
  refine ⟨_, fd, T.glo 21, F.kp, F.bindsN fun _ _ _ _ _ _ us hl => match us, hl with | [_, _], _ => rfl, FnOk.mono (fn_ok (k := 0) F sc_law_next rfl rfl fun cdv A outer s H E hr => ?_) (by decide), funD_lk F⟩
  exact (so_blk (so_if (st_gt (so_item (fun _ => hu_room hr) so_var so_int) so_int) (so_blk (so_set (fun _ => sc_law_next.nd) (so_mod (so_item (fun _ => hu_room hr) so_var so_int) so_var))
  (so_blk (so_setX (fun _ => hu_room hr) (so_div (so_item (fun _ => hu_room hr) so_var so_int) so_var) so_var so_int)
  (so_blk1 (so_ret so_var)))) so_blk0)
  (so_blk (so_set (fun _ => sc_law_next.nd) (so_add (so_item (fun _ => hu_room hr) so_var so_int) so_int))
  (so_blk (so_setX (fun _ => hu_room hr) so_var so_var so_int)
  (so_blk (so_set (fun _ => sc_law_next.nd) (so_mod (so_add (so_add (so_item (fun _ => hu_room hr) so_var so_int) (so_mul (so_mul so_int so_var) so_var)) (so_mul so_int so_var)) so_int))
  (so_blk (so_set (fun _ => sc_law_next.nd) (so_mod (so_mul (so_add so_var so_int) (so_add so_var so_int)) so_int))
  (so_blk1 (so_ret (so_mod (so_div (so_mod (so_mul so_var so_var) so_int) so_int) so_var))))))))
theorem sc_law_cells : FnScope ["script", "most", "cells", "k"] ["script", "most"] (defScope s_law_cells) := ⟨rfl, rfl, rfl, by decide +kernel, rfl, by decide +kernel, by decide +kernel⟩
theorem ok_law_cells (T : Txt fa fn cs K mg)   : Def P w K mg base "_law_cells" ["script", "most"] 1 m_law_cells := by
  obtain ⟨fd, F⟩ := T.says.def_ 9 (d := d_law_cells) rfl
  refine ⟨_, fd, T.glo 22, F.kp, F.bindsN fun _ _ _ _ _ _ us hl => match us, hl with | [_, _], _ => rfl, FnOk.mono (fn_ok (k := 0) F sc_law_cells rfl rfl fun cdv A outer s H E hr => ?_) (by decide), funD_lk F⟩
  exact (so_blk (so_set (fun _ => sc_law_cells.nd) (so_list (fun _ => T.free 6) (so_pP (so_cut so_var so_o0 (so_o1 so_var)) so_p0)))
  (so_blk (so_for (si_rng2 (fun _ => T.free 7) (so_cons so_var (so_cons (so_len (fun _ => T.free 4) (so_pP so_var so_p0)) so_nil)) (by intro e ds e' h; exact lenA2 h)) (so_gn (fun _ => sc_law_cells.nd)) (so_blk1 (so_setX (fun _ => hu_room hr) (so_add (so_mul (so_mod (so_item (fun _ => hu_room hr) so_var (so_mod so_var so_var)) (so_pow so_int so_int)) so_int) (so_item (fun _ => hu_room hr) so_var so_var)) so_var (so_mod so_var so_var))) (fun _ => PassesOwn.never))
  (so_blk1 (so_ret so_var))))
theorem sc_law_doing : FnScope [] [] (defScope s_law_doing) := ⟨rfl, rfl, rfl, by decide +kernel, rfl, by decide +kernel, by decide +kernel⟩
theorem ok_law_doing (T : Txt fa fn cs K mg)   : Def P w K mg base "_law_doing" [] 1 m_law_doing := by
  obtain ⟨fd, F⟩ := T.says.def_ 10 (d := d_law_doing) rfl
  refine ⟨_, fd, T.glo 23, F.kp, F.bindsN fun _ _ _ _ _ _ us hl => match us, hl with | [], _ => rfl, FnOk.mono (fn_ok (k := 0) F sc_law_doing rfl rfl fun cdv A outer s H E hr => ?_) (by decide), funD_lk F⟩
  exact (so_blk1 (so_ret (so_lst (so_cons so_str (so_cons so_str (so_cons so_str (so_cons so_str (so_cons so_str (so_cons so_str (so_cons so_str so_nil))))))))))
theorem sc_law_ending : FnScope [] [] (defScope s_law_ending) := ⟨rfl, rfl, rfl, by decide +kernel, rfl, by decide +kernel, by decide +kernel⟩
theorem ok_law_ending (T : Txt fa fn cs K mg)   : Def P w K mg base "_law_ending" [] 1 m_law_ending := by
  obtain ⟨fd, F⟩ := T.says.def_ 11 (d := d_law_ending) rfl
  refine ⟨_, fd, T.glo 24, F.kp, F.bindsN fun _ _ _ _ _ _ us hl => match us, hl with | [], _ => rfl, FnOk.mono (fn_ok (k := 0) F sc_law_ending rfl rfl fun cdv A outer s H E hr => ?_) (by decide), funD_lk F⟩
  exact (so_blk1 (so_ret (so_lst (so_cons so_str (so_cons so_str (so_cons so_str (so_cons so_str (so_cons so_str so_nil))))))))
theorem sc_law_within : FnScope ["thing", "low", "high"] ["thing", "low", "high"] (defScope s_law_within) := ⟨rfl, rfl, rfl, by decide +kernel, rfl, by decide +kernel, by decide +kernel⟩
theorem ok_law_within (T : Txt fa fn cs K mg)   : Def P w K mg base "_law_within" ["thing", "low", "high"] 1 m_law_within := by
  obtain ⟨fd, F⟩ := T.says.def_ 18 (d := d_law_within) rfl
  refine ⟨_, fd, T.glo 31, F.kp, F.bindsN fun _ _ _ _ _ _ us hl => match us, hl with | [_, _, _], _ => rfl, FnOk.mono (fn_ok (k := 0) F sc_law_within rfl rfl fun cdv A outer s H E hr => ?_) (by decide), funD_lk F⟩
  exact (so_blk1 (so_ret (so_andV (so_isi (fun _ => T.free 0) (fun _ => T.free 1) (by decide +kernel) so_var) (so_andV (so_notV (so_isi (fun _ => T.free 0) (fun _ => T.free 2) (by decide +kernel) so_var)) (so_oneV (so_lele so_var so_var so_var))))))
theorem sc_law_put : FnScope ["some", "at", "thing"] ["some", "at", "thing"] (defScope s_law_put) := ⟨rfl, rfl, rfl, by decide +kernel, rfl, by decide +kernel, by decide +kernel⟩
theorem ok_law_put (T : Txt fa fn cs K mg)   : Def P w K mg base "_law_put" ["some", "at", "thing"] 1 m_law_put := by
  obtain ⟨fd, F⟩ := T.says.def_ 23 (d := d_law_put) rfl
  refine ⟨_, fd, T.glo 36, F.kp, F.bindsN fun _ _ _ _ _ _ us hl => match us, hl with | [_, _, _], _ => rfl, FnOk.mono (fn_ok (k := 0) F sc_law_put rfl rfl fun cdv A outer s H E hr => ?_) (by decide), funD_lk F⟩
  exact (so_blk1 (so_ret (so_add (so_add (so_cut so_var so_o0 (so_o1 so_var)) (so_tup (so_cons so_var so_nil))) (so_cut so_var (so_o1 (so_add so_var so_int)) so_o0))))
theorem sc_are_boxes : FnScope ["thing", "word"] ["thing"] (defScope s_are_boxes) := ⟨rfl, rfl, rfl, by decide +kernel, rfl, by decide +kernel, by decide +kernel⟩
theorem ok_are_boxes (T : Txt fa fn cs K mg)  (D_is_from : Def P w K mg base "is_from" ["thing", "low", "high"] 1 m_is_from) (D_is_tuple_of : Def P w K mg base "is_tuple_of" ["thing", "low", "high"] 1 m_is_tuple_of) : Def P w K mg base "are_boxes" ["thing"] 2 m_are_boxes := by
  obtain ⟨fd, F⟩ := T.says.def_ 2 (d := d_are_boxes) rfl
  refine ⟨_, fd, T.glo 15, F.kp, F.bindsN fun _ _ _ _ _ _ us hl => match us, hl with | [_], _ => rfl, FnOk.mono (fn_ok (k := 1) F sc_are_boxes rfl rfl fun cdv A outer s H E hr => ?_) (by decide), funD_lk F⟩
  exact (so_blk1 (so_ret (so_andV (so_call D_is_tuple_of (fun _ => hr.mono (by decide)) (so_pF so_var (so_pF so_int (so_pF (so_glob (T.cst 0)) so_p0)))) (so_oneV (so_all (fun _ => T.free 8) (so_pP (so_lc (own := [("word", 1)]) (fun _ => sc_are_boxes.nd) (fun _ => blkOk_by (by rfl)) (si_seq (by intro _; rfl) so_var) (so_gn (fun _ => sc_are_boxes.nd)) so_c0 (so_call D_is_from (fun _ => hr.mono (by decide)) (so_pF so_var (so_pF so_int (so_pF (so_glob (T.cst 1)) so_p0)))) (by decide)) so_p0))))))
theorem sc_is_row : FnScope ["thing", "boxes", "tables", "rows"] ["thing", "boxes", "tables", "rows"] (defScope s_is_row) := ⟨rfl, rfl, rfl, by decide +kernel, rfl, by decide +kernel, by decide +kernel⟩
theorem ok_is_row (T : Txt fa fn cs K mg)  (D_is_from : Def P w K mg base "is_from" ["thing", "low", "high"] 1 m_is_from) (D_is_tuple_of : Def P w K mg base "is_tuple_of" ["thing", "low", "high"] 1 m_is_tuple_of) : Def P w K mg base "is_row" ["thing", "boxes", "tables", "rows"] 2 m_is_row := by
  obtain ⟨fd, F⟩ := T.says.def_ 3 (d := d_is_row) rfl
  refine ⟨_, fd, T.glo 16, F.kp, F.bindsN fun _ _ _ _ _ _ us hl => match us, hl with | [_, _, _, _], _ => rfl, FnOk.mono (fn_ok (k := 1) F sc_is_row rfl rfl fun cdv A outer s H E hr => ?_) (by decide), funD_lk F⟩
  exact (so_blk (so_if (SoW.t (so_or (so_not (so_tval (so_call D_is_tuple_of (fun _ => hr.mono (by decide)) (so_pF so_var (so_pF so_int (so_pF so_int so_p0)))))) (so_or (so_not (so_tval (so_isi (fun _ => T.free 0) (fun _ => T.free 9) (by decide +kernel) (so_item (fun _ => hu_room hr) so_var so_int)))) (so_or1 (so_not (so_tval (so_call D_is_from (fun _ => hr.mono (by decide)) (so_pF (so_item (fun _ => hu_room hr) so_var so_int) (so_pF so_int (so_pF (so_glob (T.cst 2)) so_p0)))))))))) (so_blk1 (so_ret so_bl)) so_blk0)
  (so_blk (so_if (st_in (fun _ => hu_room hr) (so_item (fun _ => hu_room hr) so_var so_int) (so_glob (T.cst 3))) (so_blk1 (so_ret (so_call D_is_from (fun _ => hr.mono (by decide)) (so_pF (so_item (fun _ => hu_room hr) so_var so_int) (so_pF so_int (so_pF (so_sub so_var so_int) so_p0)))))) so_blk0)
  (so_blk (so_if (st_in (fun _ => hu_room hr) (so_item (fun _ => hu_room hr) so_var so_int) (so_glob (T.cst 4))) (so_blk1 (so_ret (so_call D_is_from (fun _ => hr.mono (by decide)) (so_pF (so_item (fun _ => hu_room hr) so_var so_int) (so_pF so_int (so_pF (so_sub so_var so_int) so_p0)))))) so_blk0)
  (so_blk (so_if (st_eq (fun _ => hu_room hr) (so_item (fun _ => hu_room hr) so_var so_int) so_str) (so_blk1 (so_ret (so_call D_is_from (fun _ => hr.mono (by decide)) (so_pF (so_item (fun _ => hu_room hr) so_var so_int) (so_pF so_int (so_pF (so_sub so_var so_int) so_p0)))))) so_blk0)
  (so_blk1 (so_ret (so_andV (so_in (fun _ => hu_room hr) (so_item (fun _ => hu_room hr) so_var so_int) (so_glob (T.cst 5))) (so_oneV (so_call D_is_from (fun _ => hr.mono (by decide)) (so_pF (so_item (fun _ => hu_room hr) so_var so_int) (so_pF so_int (so_pF so_int so_p0))))))))))))
theorem sc_is_table : FnScope ["thing", "boxes", "rows", "ahead", "pair"] ["thing", "boxes", "rows"] (defScope s_is_table) := ⟨rfl, rfl, rfl, by decide +kernel, rfl, by decide +kernel, by decide +kernel⟩
theorem ok_is_table (T : Txt fa fn cs K mg)  (D_is_from : Def P w K mg base "is_from" ["thing", "low", "high"] 1 m_is_from) (D_is_tuple_of : Def P w K mg base "is_tuple_of" ["thing", "low", "high"] 1 m_is_tuple_of) : Def P w K mg base "is_table" ["thing", "boxes", "rows"] 2 m_is_table := by
  obtain ⟨fd, F⟩ := T.says.def_ 4 (d := d_is_table) rfl
  refine ⟨_, fd, T.glo 17, F.kp, F.bindsN fun _ _ _ _ _ _ us hl => match us, hl with | [_, _, _], _ => rfl, FnOk.mono (fn_ok (k := 1) F sc_is_table rfl rfl fun cdv A outer s H E hr => ?_) (by decide), funD_lk F⟩
  exact (so_blk (so_if (SoW.t (so_or (so_not (so_tval (so_call D_is_tuple_of (fun _ => hr.mono (by decide)) (so_pF so_var (so_pF so_int (so_pF so_int so_p0)))))) (so_or (so_not (so_tval (so_call D_is_from (fun _ => hr.mono (by decide)) (so_pF (so_item (fun _ => hu_room hr) so_var so_int) (so_pF so_int (so_pF (so_sub so_var so_int) so_p0)))))) (so_or1 (so_not (so_tval (so_isi (fun _ => T.free 0) (fun _ => T.free 3) (by decide +kernel) (so_item (fun _ => hu_room hr) so_var so_int)))))))) (so_blk1 (so_ret so_bl)) so_blk0)
  (so_blk (so_set (fun _ => sc_is_table.nd) (so_neg so_int))
  (so_blk (so_for (si_seq (by intro _; rfl) (so_item (fun _ => hu_room hr) so_var so_int)) (so_gn (fun _ => sc_is_table.nd)) (so_blk (so_if (SoW.t (so_or (so_not (so_tval (so_call D_is_tuple_of (fun _ => hr.mono (by decide)) (so_pF so_var (so_pF so_int (so_pF so_int so_p0)))))) (so_or1 (so_not (so_tval (so_call D_is_from (fun _ => hr.mono (by decide)) (so_pF (so_item (fun _ => hu_room hr) so_var so_int) (so_pF (so_add so_var so_int) (so_pF (so_glob (T.cst 6)) so_p0))))))))) (so_blk1 (so_ret so_bl)) so_blk0)
  (so_blk (so_if (so_not (so_tval (so_call D_is_from (fun _ => hr.mono (by decide)) (so_pF (so_item (fun _ => hu_room hr) so_var so_int) (so_pF so_int (so_pF (so_sub so_var so_int) so_p0)))))) (so_blk1 (so_ret so_bl)) so_blk0)
  (so_blk1 (so_set (fun _ => sc_is_table.nd) (so_item (fun _ => hu_room hr) so_var so_int))))) (fun _ => PassesOwn.never))
  (so_blk1 (so_ret so_bl)))))
theorem sc_are_doors : FnScope ["thing", "boxes", "rows", "door"] ["thing", "boxes", "rows"] (defScope s_are_doors) := ⟨rfl, rfl, rfl, by decide +kernel, rfl, by decide +kernel, by decide +kernel⟩
theorem ok_are_doors (T : Txt fa fn cs K mg)  (D_is_from : Def P w K mg base "is_from" ["thing", "low", "high"] 1 m_is_from) (D_is_tuple_of : Def P w K mg base "is_tuple_of" ["thing", "low", "high"] 1 m_is_tuple_of) : Def P w K mg base "are_doors" ["thing", "boxes", "rows"] 2 m_are_doors := by
  obtain ⟨fd, F⟩ := T.says.def_ 5 (d := d_are_doors) rfl
  refine ⟨_, fd, T.glo 18, F.kp, F.bindsN fun _ _ _ _ _ _ us hl => match us, hl with | [_, _, _], _ => rfl, FnOk.mono (fn_ok (k := 1) F sc_are_doors rfl rfl fun cdv A outer s H E hr => ?_) (by decide), funD_lk F⟩
  exact (so_blk (so_if (so_not (so_tval (so_call D_is_tuple_of (fun _ => hr.mono (by decide)) (so_pF so_var (so_pF so_var (so_pF so_var so_p0)))))) (so_blk1 (so_ret so_bl)) so_blk0)
  (so_blk1 (so_ret (so_all (fun _ => T.free 8) (so_pP (so_lc (own := [("door", 3)]) (fun _ => sc_are_doors.nd) (fun _ => blkOk_by (by rfl)) (si_seq (by intro _; rfl) so_var) (so_gn (fun _ => sc_are_doors.nd)) so_c0 (so_orV (so_is so_var so_non) (so_oneV (so_call D_is_from (fun _ => hr.mono (by decide)) (so_pF so_var (so_pF so_int (so_pF (so_sub so_var so_int) so_p0)))))) (by decide)) so_p0)))))
theorem sc_law_names : FnScope ["leading", "found", "name"] [] (defScope s_law_names) := ⟨rfl, rfl, rfl, by decide +kernel, rfl, by decide +kernel, by decide +kernel⟩
theorem ok_law_names (T : Txt fa fn cs K mg)  (D_law_doing : Def P w K mg base "_law_doing" [] 1 m_law_doing) (D_law_ending : Def P w K mg base "_law_ending" [] 1 m_law_ending) : Def P w K mg base "_law_names" [] 2 m_law_names := by
  obtain ⟨fd, F⟩ := T.says.def_ 12 (d := d_law_names) rfl
  refine ⟨_, fd, T.glo 25, F.kp, F.bindsN fun _ _ _ _ _ _ us hl => match us, hl with | [], _ => rfl, FnOk.mono (fn_ok (k := 1) F sc_law_names rfl rfl fun cdv A outer s H E hr => ?_) (by decide), funD_lk F⟩
  exact (so_blk (so_set (fun _ => sc_law_names.nd) (so_lst (so_cons so_str (so_cons so_str (so_cons so_str so_nil)))))
  (so_blk (so_set (fun _ => sc_law_names.nd) (so_add (so_call0 D_law_doing (fun _ => hr.mono (by decide))) (so_lc (own := [("name", 2)]) (fun _ => sc_law_names.nd) (fun _ => blkOk_by (by rfl)) (si_seq (by intro _; rfl) (so_add (so_call0 D_law_doing (fun _ => hr.mono (by decide))) so_var)) (so_gn (fun _ => sc_law_names.nd)) so_c0 (so_add so_var so_str) (by decide))))
  (so_blk1 (so_ret (so_add (so_add (so_add so_var so_var) (so_lst (so_cons so_str so_nil))) (so_call0 D_law_ending (fun _ => hr.mono (by decide))))))))
theorem sc_law_word : FnScope ["pool", "many", "way"] ["pool", "many"] (defScope s_law_word) := ⟨rfl, rfl, rfl, by decide +kernel, rfl, by decide +kernel, by decide +kernel⟩
theorem ok_law_word (T : Txt fa fn cs K mg)  (D_law_next : Def P w K mg base "_law_next" ["pool", "base"] 1 m_law_next) : Def P w K mg base "_law_word" ["pool", "many"] 2 m_law_word__2 := by
  obtain ⟨fd, F⟩ := T.says.def_ 13 (d := d_law_word) rfl
  refine ⟨_, fd, T.glo 26, F.kp, F.bindsN fun _ _ _ _ _ _ us hl => match us, hl with | [_, _], _ => rfl, FnOk.mono (fn_ok (k := 1) F sc_law_word rfl rfl fun cdv A outer s H E hr => ?_) (by decide), funD_lk F⟩
  exact (so_blk (so_set (fun _ => sc_law_word.nd) (so_callIO D_law_next (fun _ => hr.mono (by decide)) (so_pP so_var (so_pF so_int so_p0))))
  (so_blk (so_if (st_eq (fun _ => hu_room hr) so_var so_int) (so_blk1 (so_ret (so_callIO D_law_next (fun _ => hr.mono (by decide)) (so_pP so_var (so_pF so_var so_p0))))) so_blk0)
  (so_blk (so_if (st_eq (fun _ => hu_room hr) so_var so_int) (so_blk1 (so_ret (so_add (so_mul so_int (so_callIO D_law_next (fun _ => hr.mono (by decide)) (so_pP so_var (so_pF so_int so_p0)))) (so_callIO D_law_next (fun _ => hr.mono (by decide)) (so_pP so_var (so_pF so_var so_p0)))))) so_blk0)
  (so_blk (so_if (st_eq (fun _ => hu_room hr) so_var so_int) (so_blk1 (so_ret (so_callIO D_law_next (fun _ => hr.mono (by decide)) (so_pP so_var (so_pF so_int so_p0))))) so_blk0)
  (so_blk (so_if (st_eq (fun _ => hu_room hr) so_var so_int) (so_blk1 (so_ret (so_add (so_mul so_int (so_callIO D_law_next (fun _ => hr.mono (by decide)) (so_pP so_var (so_pF so_int so_p0)))) (so_mod (so_item (fun _ => hu_room hr) (so_lst (so_cons so_var (so_cons (so_sub so_var so_int) (so_cons so_int so_nil)))) (so_callIO D_law_next (fun _ => hr.mono (by decide)) (so_pP so_var (so_pF so_int so_p0)))) so_int)))) so_blk0)
  (so_blk1 (so_ret (so_item (fun _ => hu_room hr) (so_lst (so_cons so_int (so_cons so_int (so_cons so_int (so_cons so_int (so_cons so_int (so_cons so_int so_nil))))))) (so_callIO D_law_next (fun _ => hr.mono (by decide)) (so_pP so_var (so_pF so_int so_p0)))))))))))
theorem sc_law_row : FnScope ["pool", "name", "boxes", "rows", "tables", "operand"] ["pool", "name", "boxes", "rows", "tables"] (defScope s_law_row) := ⟨rfl, rfl, rfl, by decide +kernel, rfl, by decide +kernel, by decide +kernel⟩
theorem ok_law_row (T : Txt fa fn cs K mg)  (D_law_next : Def P w K mg base "_law_next" ["pool", "base"] 1 m_law_next) (D_law_ending : Def P w K mg base "_law_ending" [] 1 m_law_ending) : Def P w K mg base "_law_row" ["pool", "name", "boxes", "rows", "tables"] 2 m_law_row := by
  obtain ⟨fd, F⟩ := T.says.def_ 15 (d := d_law_row) rfl
  refine ⟨_, fd, T.glo 28, F.kp, F.bindsN fun _ _ _ _ _ _ us hl => match us, hl with | [_, _, _, _, _], _ => rfl, FnOk.mono (fn_ok (k := 1) F sc_law_row rfl rfl fun cdv A outer s H E hr => ?_) (by decide), funD_lk F⟩
  exact (so_blk (so_set (fun _ => sc_law_row.nd) so_int)
  (so_blk (so_if (st_in (fun _ => hu_room hr) so_var (so_lst (so_cons so_str (so_cons so_str (so_cons so_str so_nil))))) (so_blk1 (so_set (fun _ => sc_law_row.nd) (so_callIO D_law_next (fun _ => hr.mono (by decide)) (so_pP so_var (so_pF so_var so_p0))))) (so_blk1 (so_if (st_eq (fun _ => hu_room hr) so_var so_str) (so_blk1 (so_set (fun _ => sc_law_row.nd) (so_callIO D_law_next (fun _ => hr.mono (by decide)) (so_pP so_var (so_pF (so_max (fun _ => T.free 5) (so_pP so_int (so_pP so_var so_p0))) so_p0))))) (so_blk1 (so_if (st_nin (fun _ => hu_room hr) so_var (so_call0 D_law_ending (fun _ => hr.mono (by decide)))) (so_blk1 (so_set (fun _ => sc_law_row.nd) (so_callIO D_law_next (fun _ => hr.mono (by decide)) (so_pP so_var (so_pF so_var so_p0))))) so_blk0)))))
  (so_blk1 (so_ret (so_tup (so_cons so_var (so_cons so_var (so_cons (so_callIO D_law_next (fun _ => hr.mono (by decide)) (so_pP so_var (so_pF so_int so_p0))) so_nil))))))))
theorem sc_law_table : FnScope ["pool", "words", "rows", "box", "items", "turn", "word", "some", "pairs", "item"] ["pool", "words", "rows"] (defScope s_law_table) := ⟨rfl, rfl, rfl, by decide +kernel, rfl, by decide +kernel, by decide +kernel⟩
theorem ok_law_table (T : Txt fa fn cs K mg)  (D_law_next : Def P w K mg base "_law_next" ["pool", "base"] 1 m_law_next) : Def P w K mg base "_law_table" ["pool", "words", "rows"] 2 m_law_table := by
  obtain ⟨fd, F⟩ := T.says.def_ 16 (d := d_law_table) rfl
  refine ⟨_, fd, T.glo 29, F.kp, F.bindsN fun _ _ _ _ _ _ us hl => match us, hl with | [_, _, _], _ => rfl, FnOk.mono (fn_ok (k := 1) F sc_law_table rfl rfl fun cdv A outer s H E hr => ?_) (by decide), funD_lk F⟩
  exact (so_blk (so_set (fun _ => sc_law_table.nd) (so_callIO D_law_next (fun _ => hr.mono (by decide)) (so_pP so_var (so_pF (so_len (fun _ => T.free 4) (so_pP so_var so_p0)) so_p0))))
  (so_blk (so_set (fun _ => sc_law_table.nd) (so_lst so_nil))
  (so_blk (so_for (si_rng1 (fun _ => T.free 7) (so_cons (so_callIO D_law_next (fun _ => hr.mono (by decide)) (so_pP so_var (so_pF so_int so_p0))) so_nil) (by intro e ds e' h; exact lenA1 h)) (so_gn (fun _ => sc_law_table.nd)) (so_blk (so_set (fun _ => sc_law_table.nd) (so_item (fun _ => hu_room hr) so_var (so_callIO D_law_next (fun _ => hr.mono (by decide)) (so_pP so_var (so_pF (so_len (fun _ => T.free 4) (so_pP so_var so_p0)) so_p0)))))
  (so_blk (so_set (fun _ => sc_law_table.nd) (so_lst (so_cons (so_item (fun _ => hu_room hr) so_var so_var) (so_cons (so_add so_int (so_div (so_item (fun _ => hu_room hr) so_var so_var) so_int)) (so_cons so_var (so_cons (so_add so_int (so_div so_var so_int)) so_nil))))))
  (so_blk (so_expr (so_ext so_var (so_cons (so_lst (so_cons (so_callIO D_law_next (fun _ => hr.mono (by decide)) (so_pP so_var (so_pF so_int so_p0))) (so_cons so_int (so_cons so_int (so_cons so_int so_nil))))) so_nil)))
  (so_blk1 (so_expr (so_app so_var (so_cons (so_item (fun _ => hu_room hr) so_var (so_callIO D_law_next (fun _ => hr.mono (by decide)) (so_pP so_var (so_pF so_int so_p0)))) so_nil))))))) (fun _ => PassesOwn.never))
  (so_blk (so_setLc (own := [("item", 9)]) (fun _ => sc_law_table.nd) (fun _ => blkOk_by (by rfl)) (si_seq (by intro _; rfl) (so_sortSet (fun _ => T.free 10) (fun _ => T.free 11) (so_pP so_var so_p0))) (so_gn (fun _ => sc_law_table.nd)) so_c0 (so_tup (so_cons so_var (so_cons (so_callIO D_law_next (fun _ => hr.mono (by decide)) (so_pP so_var (so_pF so_var so_p0))) so_nil))) (by decide))
  (so_blk1 (so_ret (so_tup (so_cons so_var (so_cons (so_tuple (fun _ => T.free 3) (so_pP so_var so_p0)) so_nil)))))))))
theorem sc_law_table_good : FnScope ["table", "boxes", "rows", "pair", "items", "one", "other"] ["table", "boxes", "rows"] (defScope s_law_table_good) := ⟨rfl, rfl, rfl, by decide +kernel, rfl, by decide +kernel, by decide +kernel⟩
theorem ok_law_table_good (T : Txt fa fn cs K mg)  (D_law_within : Def P w K mg base "_law_within" ["thing", "low", "high"] 1 m_law_within) : Def P w K mg base "_law_table_good" ["table", "boxes", "rows"] 2 m_law_table_good := by
  obtain ⟨fd, F⟩ := T.says.def_ 20 (d := d_law_table_good) rfl
  refine ⟨_, fd, T.glo 33, F.kp, F.bindsN fun _ _ _ _ _ _ us hl => match us, hl with | [_, _, _], _ => rfl, FnOk.mono (fn_ok (k := 1) F sc_law_table_good rfl rfl fun cdv A outer s H E hr => ?_) (by decide), funD_lk F⟩
  exact (so_blk (so_if (SoW.t (so_or (so_not (so_tval (so_isi (fun _ => T.free 0) (fun _ => T.free 3) (by decide +kernel) so_var))) (so_or (st_ne (fun _ => hu_room hr) (so_len (fun _ => T.free 4) (so_pP so_var so_p0)) so_int) (so_or1 (so_not (so_tval (so_call D_law_within (fun _ => hr.mono (by decide)) (so_pF (so_item (fun _ => hu_room hr) so_var so_int) (so_pF so_int (so_pF (so_sub so_var so_int) so_p0)))))))))) (so_blk1 (so_ret so_bl)) so_blk0)
  (so_blk (so_if (so_not (so_tval (so_isi (fun _ => T.free 0) (fun _ => T.free 3) (by decide +kernel) (so_item (fun _ => hu_room hr) so_var so_int)))) (so_blk1 (so_ret so_bl)) so_blk0)
  (so_blk (so_for (si_seq (by intro _; rfl) (so_item (fun _ => hu_room hr) so_var so_int)) (so_gn (fun _ => sc_law_table_good.nd)) (so_blk (so_if (SoW.t (so_or (so_not (so_tval (so_isi (fun _ => T.free 0) (fun _ => T.free 3) (by decide +kernel) so_var))) (so_or1 (st_ne (fun _ => hu_room hr) (so_len (fun _ => T.free 4) (so_pP so_var so_p0)) so_int)))) (so_blk1 (so_ret so_bl)) so_blk0)
  (so_blk1 (so_if (SoW.t (so_or (so_not (so_tval (so_call D_law_within (fun _ => hr.mono (by decide)) (so_pF (so_item (fun _ => hu_room hr) so_var so_int) (so_pF so_int (so_pF so_int so_p0)))))) (so_or1 (so_not (so_tval (so_call D_law_within (fun _ => hr.mono (by decide)) (so_pF (so_item (fun _ => hu_room hr) so_var so_int) (so_pF so_int (so_pF (so_sub so_var so_int) so_p0))))))))) (so_blk1 (so_ret so_bl)) so_blk0))) (fun _ => PassesOwn.never))
  (so_blk (so_setLc (own := [("pair", 3)]) (fun _ => sc_law_table_good.nd) (fun _ => blkOk_by (by rfl)) (si_seq (by intro _; rfl) (so_item (fun _ => hu_room hr) so_var so_int)) (so_gn (fun _ => sc_law_table_good.nd)) so_c0 (so_item (fun _ => hu_room hr) so_var so_int) (by decide))
  (so_blk1 (so_ret (so_all (fun _ => T.free 8) (so_pP (so_lc (own := [("one", 5), ("other", 6)]) (fun _ => sc_law_table_good.nd) (fun _ => blkOk_by (by rfl)) (si_zip2 (fun _ => T.free 12) (so_cons so_var (so_cons (so_cut so_var (so_o1 so_int) so_o0) so_nil))) (so_gt (n := 2) (so_g1 (so_gn (fun _ => sc_law_table_good.nd)) (so_g1 (so_gn (fun _ => sc_law_table_good.nd)) so_g0)) (hl := by intro ds e e' h; exact lenG2 h)) so_c0 (so_lt so_var so_var) (by decide)) so_p0))))))))
theorem sc_law_other : FnScope ["pool", "most", "some"] ["pool", "most"] (defScope s_law_other) := ⟨rfl, rfl, rfl, by decide +kernel, rfl, by decide +kernel, by decide +kernel⟩
theorem ok_law_other (T : Txt fa fn cs K mg)  (D_law_next : Def P w K mg base "_law_next" ["pool", "base"] 1 m_law_next) : Def P w K mg base "_law_other" ["pool", "most"] 2 m_law_other := by
  obtain ⟨fd, F⟩ := T.says.def_ 22 (d := d_law_other) rfl
  refine ⟨_, fd, T.glo 35, F.kp, F.bindsN fun _ _ _ _ _ _ us hl => match us, hl with | [_, _], _ => rfl, FnOk.mono (fn_ok (k := 1) F sc_law_other rfl rfl fun cdv A outer s H E hr => ?_) (by decide), funD_lk F⟩
  exact (so_blk (so_set (fun _ => sc_law_other.nd) (so_lst (so_cons (so_add so_var so_int) (so_cons (so_neg so_int) (so_cons so_var (so_cons so_int (so_cons so_non (so_cons so_bl (so_cons so_bl (so_cons so_str (so_cons (so_tup (so_cons so_int so_nil)) (so_cons (so_lst (so_cons so_int so_nil)) (so_cons (so_pow so_int so_int) (so_cons (so_neg (so_pow so_int so_int)) (so_cons so_str (so_cons so_dict0 so_nil))))))))))))))))
  (so_blk1 (so_ret (so_item (fun _ => hu_room hr) so_var (so_callIO D_law_next (fun _ => hr.mono (by decide)) (so_pP so_var (so_pF so_int so_p0)))))))
theorem sc_is_still : FnScope ["thing", "rows", "tables", "doors", "boxes", "row", "one"] ["thing"] (defScope s_is_still) := ⟨rfl, rfl, rfl, by decide +kernel, rfl, by decide +kernel, by decide +kernel⟩
theorem ok_is_still (T : Txt fa fn cs K mg)  (D_is_tuple_of : Def P w K mg base "is_tuple_of" ["thing", "low", "high"] 1 m_is_tuple_of) (D_are_boxes : Def P w K mg base "are_boxes" ["thing"] 2 m_are_boxes) (D_is_row : Def P w K mg base "is_row" ["thing", "boxes", "tables", "rows"] 2 m_is_row) (D_is_table : Def P w K mg base "is_table" ["thing", "boxes", "rows"] 2 m_is_table) (D_are_doors : Def P w K mg base "are_doors" ["thing", "boxes", "rows"] 2 m_are_doors) : Def P w K mg base "is_still" ["thing"] 3 m_is_still := by
  obtain ⟨fd, F⟩ := T.says.def_ 6 (d := d_is_still) rfl
  refine ⟨_, fd, T.glo 19, F.kp, F.bindsN fun _ _ _ _ _ _ us hl => match us, hl with | [_], _ => rfl, FnOk.mono (fn_ok (k := 2) F sc_is_still rfl rfl fun cdv A outer s H E hr => ?_) (by decide), funD_lk F⟩
  exact (so_blk (so_if (so_not (so_tval (so_call D_is_tuple_of (fun _ => hr.mono (by decide)) (so_pF so_var (so_pF so_int (so_pF so_int so_p0)))))) (so_blk1 (so_ret so_bl)) so_blk0)
  (so_blk (so_asgT so_var (so_gt (n := 4) (so_g1 (so_gn (fun _ => sc_is_still.nd)) (so_g1 (so_gn (fun _ => sc_is_still.nd)) (so_g1 (so_gn (fun _ => sc_is_still.nd)) (so_g1 (so_gn (fun _ => sc_is_still.nd)) so_g0)))) (hl := by intro ds e e' h; exact lenG4 h)))
  (so_blk (so_if (SoW.t (so_or (so_not (so_tval (so_call D_is_tuple_of (fun _ => hr.mono (by decide)) (so_pF so_var (so_pF so_int (so_pF (so_glob (T.cst 7)) so_p0)))))) (so_or (so_not (so_tval (so_call D_is_tuple_of (fun _ => hr.mono (by decide)) (so_pF so_var (so_pF so_int (so_pF (so_glob (T.cst 8)) so_p0)))))) (so_or1 (so_not (so_tval (so_call D_are_boxes (fun _ => hr.mono (by decide)) (so_pF so_var so_p0)))))))) (so_blk1 (so_ret so_bl)) so_blk0)
  (so_blk (so_if (SoW.t (so_or (so_not (so_tval (so_all (fun _ => T.free 8) (so_pP (so_lc (own := [("row", 5)]) (fun _ => sc_is_still.nd) (fun _ => blkOk_by (by rfl)) (si_seq (by intro _; rfl) so_var) (so_gn (fun _ => sc_is_still.nd)) so_c0 (so_call D_is_row (fun _ => hr.mono (by decide)) (so_pF so_var (so_pF (so_len (fun _ => T.free 4) (so_pP so_var so_p0)) (so_pF (so_len (fun _ => T.free 4) (so_pP so_var so_p0)) (so_pF (so_len (fun _ => T.free 4) (so_pP so_var so_p0)) so_p0))))) (by decide)) so_p0)))) (so_or1 (st_nin (fun _ => hu_room hr) (so_item (fun _ => hu_room hr) (so_item (fun _ => hu_room hr) so_var (so_neg so_int)) so_int) (so_glob (T.cst 9)))))) (so_blk1 (so_ret so_bl)) so_blk0)
  (so_blk1 (so_ret (so_andV (so_call D_are_doors (fun _ => hr.mono (by decide)) (so_pF so_var (so_pF (so_len (fun _ => T.free 4) (so_pP so_var so_p0)) (so_pF (so_len (fun _ => T.free 4) (so_pP so_var so_p0)) so_p0)))) (so_oneV (so_all (fun _ => T.free 8) (so_pP (so_lc (own := [("one", 6)]) (fun _ => sc_is_still.nd) (fun _ => blkOk_by (by rfl)) (si_seq (by intro _; rfl) so_var) (so_gn (fun _ => sc_is_still.nd)) so_c0 (so_call D_is_table (fun _ => hr.mono (by decide)) (so_pF so_var (so_pF (so_len (fun _ => T.free 4) (so_pP so_var so_p0)) (so_pF (so_len (fun _ => T.free 4) (so_pP so_var so_p0)) so_p0)))) (by decide)) so_p0))))))))))
theorem sc_law_words : FnScope ["pool", "many", "k"] ["pool", "many"] (defScope s_law_words) := ⟨rfl, rfl, rfl, by decide +kernel, rfl, by decide +kernel, by decide +kernel⟩
theorem ok_law_words (T : Txt fa fn cs K mg)  (D_law_word : Def P w K mg base "_law_word" ["pool", "many"] 2 m_law_word__2) : Def P w K mg base "_law_words" ["pool", "many"] 3 m_law_words := by
  obtain ⟨fd, F⟩ := T.says.def_ 14 (d := d_law_words) rfl
  refine ⟨_, fd, T.glo 27, F.kp, F.bindsN fun _ _ _ _ _ _ us hl => match us, hl with | [_, _], _ => rfl, FnOk.mono (fn_ok (k := 2) F sc_law_words rfl rfl fun cdv A outer s H E hr => ?_) (by decide), funD_lk F⟩
  exact (so_blk1 (so_ret (so_tuple (fun _ => T.free 3) (so_pP (so_lc (own := [("k", 2)]) (fun _ => sc_law_words.nd) (fun _ => blkOk_by (by rfl)) (si_rng1 (fun _ => T.free 7) (so_cons so_var so_nil) (by intro e ds e' h; exact lenA1 h)) (so_gn (fun _ => sc_law_words.nd)) so_c0 (so_callIO D_law_word (fun _ => hr.mono (by decide)) (so_pP so_var (so_pF so_var so_p0))) (by decide)) so_p0))))
theorem sc_law_row_good : FnScope ["row", "boxes", "tables", "rows", "most"] ["row", "boxes", "tables", "rows"] (defScope s_law_row_good) := ⟨rfl, rfl, rfl, by decide +kernel, rfl, by decide +kernel, by decide +kernel⟩
theorem ok_law_row_good (T : Txt fa fn cs K mg)  (D_law_ending : Def P w K mg base "_law_ending" [] 1 m_law_ending) (D_law_names : Def P w K mg base "_law_names" [] 2 m_law_names) (D_law_within : Def P w K mg base "_law_within" ["thing", "low", "high"] 1 m_law_within) : Def P w K mg base "_law_row_good" ["row", "boxes", "tables", "rows"] 3 m_law_row_good := by
  obtain ⟨fd, F⟩ := T.says.def_ 19 (d := d_law_row_good) rfl
  refine ⟨_, fd, T.glo 32, F.kp, F.bindsN fun _ _ _ _ _ _ us hl => match us, hl with | [_, _, _, _], _ => rfl, FnOk.mono (fn_ok (k := 2) F sc_law_row_good rfl rfl fun cdv A outer s H E hr => ?_) (by decide), funD_lk F⟩
  exact (so_blk (so_if (SoW.t (so_or (so_not (so_tval (so_isi (fun _ => T.free 0) (fun _ => T.free 3) (by decide +kernel) so_var))) (so_or (st_ne (fun _ => hu_room hr) (so_len (fun _ => T.free 4) (so_pP so_var so_p0)) so_int) (so_or1 (so_not (so_tval (so_isi (fun _ => T.free 0) (fun _ => T.free 9) (by decide +kernel) (so_item (fun _ => hu_room hr) so_var so_int)))))))) (so_blk1 (so_ret so_bl)) so_blk0)
  (so_blk (so_if (SoW.t (so_or (st_nin (fun _ => hu_room hr) (so_item (fun _ => hu_room hr) so_var so_int) (so_call0 D_law_names (fun _ => hr.mono (by decide)))) (so_or1 (so_not (so_tval (so_call D_law_within (fun _ => hr.mono (by decide)) (so_pF (so_item (fun _ => hu_room hr) so_var so_int) (so_pF so_int (so_pF so_int so_p0))))))))) (so_blk1 (so_ret so_bl)) so_blk0)
  (so_blk (so_set (fun _ => sc_law_row_good.nd) (so_sub so_var so_int))
  (so_blk (so_if (st_in (fun _ => hu_room hr) (so_item (fun _ => hu_room hr) so_var so_int) (so_lst (so_cons so_str (so_cons so_str (so_cons so_str so_nil))))) (so_blk1 (so_set (fun _ => sc_law_row_good.nd) (so_sub so_var so_int))) so_blk0)
  (so_blk (so_if (st_eq (fun _ => hu_room hr) (so_item (fun _ => hu_room hr) so_var so_int) so_str) (so_blk1 (so_set (fun _ => sc_law_row_good.nd) (so_sub so_var so_int))) so_blk0)
  (so_blk (so_if (st_in (fun _ => hu_room hr) (so_item (fun _ => hu_room hr) so_var so_int) (so_call0 D_law_ending (fun _ => hr.mono (by decide)))) (so_blk1 (so_set (fun _ => sc_law_row_good.nd) so_int)) so_blk0)
  (so_blk1 (so_ret (so_call D_law_within (fun _ => hr.mono (by decide)) (so_pF (so_item (fun _ => hu_room hr) so_var so_int) (so_pF so_int (so_pF so_var so_p0))))))))))))
theorem sc_law_other_row : FnScope ["pool", "rows", "at", "boxes", "tables", "row", "way", "names", "most", "some"] ["pool", "rows", "at", "boxes", "tables"] (defScope s_law_other_row) := ⟨rfl, rfl, rfl, by decide +kernel, rfl, by decide +kernel, by decide +kernel⟩
theorem ok_law_other_row (T : Txt fa fn cs K mg)  (D_law_next : Def P w K mg base "_law_next" ["pool", "base"] 1 m_law_next) (D_law_names : Def P w K mg base "_law_names" [] 2 m_law_names) (D_law_other : Def P w K mg base "_law_other" ["pool", "most"] 2 m_law_other) (D_law_put : Def P w K mg base "_law_put" ["some", "at", "thing"] 1 m_law_put) : Def P w K mg base "_law_other_row" ["pool", "rows", "at", "boxes", "tables"] 3 m_law_other_row := by
  obtain ⟨fd, F⟩ := T.says.def_ 24 (d := d_law_other_row) rfl
  refine ⟨_, fd, T.glo 37, F.kp, F.bindsN fun _ _ _ _ _ _ us hl => match us, hl with | [_, _, _, _, _], _ => rfl, FnOk.mono (fn_ok (k := 2) F sc_law_other_row rfl rfl fun cdv A outer s H E hr => ?_) (by decide), funD_lk F⟩
  exact (so_blk (so_set (fun _ => sc_law_other_row.nd) (so_item (fun _ => hu_room hr) so_var so_var))
  (so_blk (so_set (fun _ => sc_law_other_row.nd) (so_callIO D_law_next (fun _ => hr.mono (by decide)) (so_pP so_var (so_pF so_int so_p0))))
  (so_blk (so_if (st_eq (fun _ => hu_room hr) so_var so_int) (so_blk (so_set (fun _ => sc_law_other_row.nd) (so_add (so_call0 D_law_names (fun _ => hr.mono (by decide))) (so_lst (so_cons so_str (so_cons so_str (so_cons so_str (so_cons so_str (so_cons so_str (so_cons so_str (so_cons so_non (so_cons so_int (so_cons (so_tup (so_cons so_str so_nil)) so_nil))))))))))))
  (so_blk (so_expr (so_ext so_var (so_cons (so_lst (so_cons (so_lst so_nil) (so_cons (so_lst (so_cons so_str so_nil)) (so_cons so_dict0 (so_cons (so_tup (so_cons (so_lst (so_cons so_str so_nil)) so_nil)) (so_cons so_bl (so_cons (so_dict (so_d1 so_str so_int so_d0)) so_nil))))))) so_nil)))
  (so_blk1 (so_ret (so_call D_law_put (fun _ => hr.mono (by decide)) (so_pF so_var (so_pF so_var (so_pF (so_add (so_tup (so_cons (so_item (fun _ => hu_room hr) so_var (so_callIO D_law_next (fun _ => hr.mono (by decide)) (so_pP so_var (so_pF (so_len (fun _ => T.free 4) (so_pP so_var so_p0)) so_p0)))) so_nil)) (so_cut so_var (so_o1 so_int) so_o0)) so_p0)))))))) so_blk0)
  (so_blk (so_if (st_eq (fun _ => hu_room hr) so_var so_int) (so_blk (so_set (fun _ => sc_law_other_row.nd) (so_item (fun _ => hu_room hr) (so_lst (so_cons (so_sub so_var so_int) (so_cons (so_sub (so_len (fun _ => T.free 4) (so_pP so_var so_p0)) so_int) (so_cons (so_sub so_var so_int) (so_cons so_int so_nil))))) (so_callIO D_law_next (fun _ => hr.mono (by decide)) (so_pP so_var (so_pF so_int so_p0)))))
  (so_blk1 (so_ret (so_call D_law_put (fun _ => hr.mono (by decide)) (so_pF so_var (so_pF so_var (so_pF (so_tup (so_cons (so_item (fun _ => hu_room hr) so_var so_int) (so_cons (so_callIO D_law_other (fun _ => hr.mono (by decide)) (so_pP so_var (so_pF so_var so_p0))) (so_cons (so_item (fun _ => hu_room hr) so_var so_int) so_nil)))) so_p0))))))) so_blk0)
  (so_blk (so_if (st_eq (fun _ => hu_room hr) so_var so_int) (so_blk1 (so_ret (so_call D_law_put (fun _ => hr.mono (by decide)) (so_pF so_var (so_pF so_var (so_pF (so_add (so_cut so_var so_o0 (so_o1 so_int)) (so_tup (so_cons (so_callIO D_law_other (fun _ => hr.mono (by decide)) (so_pP so_var (so_pF so_int so_p0))) so_nil))) so_p0)))))) so_blk0)
  (so_blk (so_if (st_eq (fun _ => hu_room hr) so_var so_int) (so_blk (so_set (fun _ => sc_law_other_row.nd) (so_lst (so_cons (so_cut so_var so_o0 (so_o1 so_int)) (so_cons (so_add so_var (so_tup (so_cons so_int so_nil))) (so_cons (so_list (fun _ => T.free 6) (so_pP so_var so_p0)) (so_cons so_non (so_cons (so_tup so_nil) (so_cons (so_item (fun _ => hu_room hr) so_var so_int) so_nil))))))))
  (so_blk1 (so_ret (so_call D_law_put (fun _ => hr.mono (by decide)) (so_pF so_var (so_pF so_var (so_pF (so_item (fun _ => hu_room hr) so_var (so_callIO D_law_next (fun _ => hr.mono (by decide)) (so_pP so_var (so_pF so_int so_p0)))) so_p0))))))) so_blk0)
  (so_blk (so_if (st_eq (fun _ => hu_room hr) so_var so_int) (so_blk1 (so_ret (so_add (so_cut so_var so_o0 (so_o1 so_var)) (so_cut so_var (so_o1 (so_add so_var so_int)) so_o0)))) so_blk0)
  (so_blk (so_if (st_eq (fun _ => hu_room hr) so_var so_int) (so_blk1 (so_ret (so_add (so_cut so_var so_o0 (so_o1 (so_neg so_int))) (so_tup (so_cons (so_tup (so_cons (so_item (fun _ => hu_room hr) (so_call0 D_law_names (fun _ => hr.mono (by decide))) (so_callIO D_law_next (fun _ => hr.mono (by decide)) (so_pP so_var (so_pF so_int so_p0)))) (so_cons so_int (so_cons so_int so_nil)))) so_nil))))) so_blk0)
  (so_blk1 (so_ret (so_add so_var (so_cut so_var (so_o1 so_var) (so_o1 (so_add so_var so_int))))))))))))))
theorem sc_law_other_table : FnScope ["pool", "tables", "at", "rows", "boxes", "box", "pairs", "way", "some", "more", "spot", "twice", "item", "row", "pair"] ["pool", "tables", "at", "rows", "boxes"] (defScope s_law_other_table) := ⟨rfl, rfl, rfl, by decide +kernel, rfl, by decide +kernel, by decide +kernel⟩
theorem ok_law_other_table (T : Txt fa fn cs K mg)  (D_law_next : Def P w K mg base "_law_next" ["pool", "base"] 1 m_law_next) (D_law_other : Def P w K mg base "_law_other" ["pool", "most"] 2 m_law_other) (D_law_put : Def P w K mg base "_law_put" ["some", "at", "thing"] 1 m_law_put) : Def P w K mg base "_law_other_table" ["pool", "tables", "at", "rows", "boxes"] 3 m_law_other_table := by
  obtain ⟨fd, F⟩ := T.says.def_ 25 (d := d_law_other_table) rfl
  refine ⟨_, fd, T.glo 38, F.kp, F.bindsN fun _ _ _ _ _ _ us hl => match us, hl with | [_, _, _, _, _], _ => rfl, FnOk.mono (fn_ok (k := 2) F sc_law_other_table rfl rfl fun cdv A outer s H E hr => ?_) (by decide), funD_lk F⟩
  exact (so_blk (so_if (st_eq (fun _ => hu_room hr) so_var (so_tup so_nil)) (so_blk1 (so_ret (so_tup (so_cons (so_tup (so_cons (so_callIO D_law_other (fun _ => hr.mono (by decide)) (so_pP so_var (so_pF (so_sub so_var so_int) so_p0))) (so_cons (so_tup so_nil) so_nil))) so_nil)))) so_blk0)
  (so_blk (so_asgT (so_item (fun _ => hu_room hr) so_var (so_mod so_var (so_len (fun _ => T.free 4) (so_pP so_var so_p0)))) (so_gt (n := 2) (so_g1 (so_gn (fun _ => sc_law_other_table.nd)) (so_g1 (so_gn (fun _ => sc_law_other_table.nd)) so_g0)) (hl := by intro ds e e' h; exact lenG2 h)))
  (so_blk (so_set (fun _ => sc_law_other_table.nd) (so_mod so_var (so_len (fun _ => T.free 4) (so_pP so_var so_p0))))
  (so_blk (so_set (fun _ => sc_law_other_table.nd) (so_callIO D_law_next (fun _ => hr.mono (by decide)) (so_pP so_var (so_pF so_int so_p0))))
  (so_blk (so_if (st_eq (fun _ => hu_room hr) so_var so_int) (so_blk1 (so_ret (so_call D_law_put (fun _ => hr.mono (by decide)) (so_pF so_var (so_pF so_var (so_pF (so_tup (so_cons (so_callIO D_law_other (fun _ => hr.mono (by decide)) (so_pP so_var (so_pF (so_sub so_var so_int) so_p0))) (so_cons so_var so_nil))) so_p0)))))) so_blk0)
  (so_blk (so_if (st_eq (fun _ => hu_room hr) so_var so_int) (so_blk (so_set (fun _ => sc_law_other_table.nd) (so_lst (so_cons (so_tup (so_cons so_var so_nil)) (so_cons (so_tup (so_cons so_var (so_cons (so_list (fun _ => T.free 6) (so_pP so_var so_p0)) so_nil))) (so_cons (so_lst (so_cons so_var (so_cons so_var so_nil))) (so_cons (so_tup (so_cons so_var (so_cons so_var (so_cons so_int so_nil)))) (so_cons so_non so_nil)))))))
  (so_blk1 (so_ret (so_call D_law_put (fun _ => hr.mono (by decide)) (so_pF so_var (so_pF so_var (so_pF (so_item (fun _ => hu_room hr) so_var (so_callIO D_law_next (fun _ => hr.mono (by decide)) (so_pP so_var (so_pF so_int so_p0)))) so_p0))))))) so_blk0)
  (so_blk (so_if (SoW.t (so_or (st_eq (fun _ => hu_room hr) so_var so_int) (so_or1 (st_eq (fun _ => hu_room hr) so_var (so_tup so_nil))))) (so_blk (so_set (fun _ => sc_law_other_table.nd) (so_lst (so_cons (so_tup (so_cons (so_callIO D_law_other (fun _ => hr.mono (by decide)) (so_pP so_var (so_pF so_int so_p0))) (so_cons so_int so_nil))) (so_cons (so_tup (so_cons so_int (so_cons so_int so_nil))) (so_cons (so_tup (so_cons so_int so_nil)) (so_cons (so_lst (so_cons so_int (so_cons so_int so_nil))) so_nil))))))
  (so_blk (so_expr (so_app so_var (so_cons (so_tup (so_cons so_int (so_cons (so_callIO D_law_other (fun _ => hr.mono (by decide)) (so_pP so_var (so_pF (so_sub so_var so_int) so_p0))) so_nil))) so_nil)))
  (so_blk1 (so_ret (so_call D_law_put (fun _ => hr.mono (by decide)) (so_pF so_var (so_pF so_var (so_pF (so_tup (so_cons so_var (so_cons (so_add so_var (so_tup (so_cons (so_item (fun _ => hu_room hr) so_var (so_callIO D_law_next (fun _ => hr.mono (by decide)) (so_pP so_var (so_pF so_int so_p0)))) so_nil))) so_nil))) so_p0)))))))) so_blk0)
  (so_blk (so_set (fun _ => sc_law_other_table.nd) (so_callIO D_law_next (fun _ => hr.mono (by decide)) (so_pP so_var (so_pF (so_len (fun _ => T.free 4) (so_pP so_var so_p0)) so_p0))))
  (so_blk (so_if (st_eq (fun _ => hu_room hr) so_var so_int) (so_blk (so_set (fun _ => sc_law_other_table.nd) (so_add (so_add (so_cut so_var so_o0 (so_o1 so_var)) (so_cut so_var (so_o1 so_var) (so_o1 (so_add so_var so_int)))) (so_cut so_var (so_o1 so_var) so_o0)))
  (so_blk1 (so_ret (so_call D_law_put (fun _ => hr.mono (by decide)) (so_pF so_var (so_pF so_var (so_pF (so_tup (so_cons so_var (so_cons so_var so_nil))) so_p0))))))) so_blk0)
  (so_blk (so_if (st_eq (fun _ => hu_room hr) so_var so_int) (so_blk1 (so_ret (so_call D_law_put (fun _ => hr.mono (by decide)) (so_pF so_var (so_pF so_var (so_pF (so_tup (so_cons so_var (so_cons (so_add (so_cut so_var (so_o1 so_var) so_o0) (so_cut so_var so_o0 (so_o1 so_var))) so_nil))) so_p0)))))) so_blk0)
  (so_blk (so_asgT (so_item (fun _ => hu_room hr) so_var so_var) (so_gt (n := 2) (so_g1 (so_gn (fun _ => sc_law_other_table.nd)) (so_g1 (so_gn (fun _ => sc_law_other_table.nd)) so_g0)) (hl := by intro ds e e' h; exact lenG2 h)))
  (so_blk (so_set (fun _ => sc_law_other_table.nd) (so_lst (so_cons (so_tup (so_cons (so_callIO D_law_other (fun _ => hr.mono (by decide)) (so_pP so_var (so_pF so_int so_p0))) (so_cons so_var so_nil))) so_nil)))
  (so_blk (so_expr (so_app so_var (so_cons (so_tup (so_cons so_var (so_cons (so_callIO D_law_other (fun _ => hr.mono (by decide)) (so_pP so_var (so_pF (so_sub so_var so_int) so_p0))) so_nil))) so_nil)))
  (so_blk (so_set (fun _ => sc_law_other_table.nd) (so_item (fun _ => hu_room hr) so_var (so_callIO D_law_next (fun _ => hr.mono (by decide)) (so_pP so_var (so_pF so_int so_p0)))))
  (so_blk1 (so_ret (so_call D_law_put (fun _ => hr.mono (by decide)) (so_pF so_var (so_pF so_var (so_pF (so_tup (so_cons so_var (so_cons (so_call D_law_put (fun _ => hr.mono (by decide)) (so_pF so_var (so_pF so_var (so_pF so_var so_p0)))) so_nil))) so_p0))))))))))))))))))))
theorem sc_law_program : FnScope ["pool", "names", "many", "count", "tables", "words", "rows", "k", "name", "last", "doors", "made"] ["pool", "names"] (defScope s_law_program) := ⟨rfl, rfl, rfl, by decide +kernel, rfl, by decide +kernel, by decide +kernel⟩
theorem ok_law_program (T : Txt fa fn cs K mg)  (D_law_next : Def P w K mg base "_law_next" ["pool", "base"] 1 m_law_next) (D_law_ending : Def P w K mg base "_law_ending" [] 1 m_law_ending) (D_law_words : Def P w K mg base "_law_words" ["pool", "many"] 3 m_law_words) (D_law_row : Def P w K mg base "_law_row" ["pool", "name", "boxes", "rows", "tables"] 2 m_law_row) (D_law_table : Def P w K mg base "_law_table" ["pool", "words", "rows"] 2 m_law_table) : Def P w K mg base "_law_program" ["pool", "names"] 4 m_law_program := by
  obtain ⟨fd, F⟩ := T.says.def_ 17 (d := d_law_program) rfl
  refine ⟨_, fd, T.glo 30, F.kp, F.bindsN fun _ _ _ _ _ _ us hl => match us, hl with | [_, _], _ => rfl, FnOk.mono (fn_ok (k := 3) F sc_law_program rfl rfl fun cdv A outer s H E hr => ?_) (by decide), funD_lk F⟩
  exact (so_blk (so_set (fun _ => sc_law_program.nd) (so_item (fun _ => hu_room hr) (so_lst (so_cons so_int (so_cons so_int (so_cons so_int (so_cons so_int (so_cons so_int (so_cons so_int (so_cons so_int (so_cons so_int so_nil))))))))) (so_callIO D_law_next (fun _ => hr.mono (by decide)) (so_pP so_var (so_pF so_int so_p0)))))
  (so_blk (so_set (fun _ => sc_law_program.nd) (so_item (fun _ => hu_room hr) (so_lst (so_cons so_int (so_cons so_int (so_cons so_int (so_cons so_int (so_cons so_int (so_cons so_int (so_cons so_int (so_cons so_int so_nil))))))))) (so_callIO D_law_next (fun _ => hr.mono (by decide)) (so_pP so_var (so_pF so_int so_p0)))))
  (so_blk (so_set (fun _ => sc_law_program.nd) (so_callIO D_law_next (fun _ => hr.mono (by decide)) (so_pP so_var (so_pF so_int so_p0))))
  (so_blk (so_set (fun _ => sc_law_program.nd) (so_callIO D_law_words (fun _ => hr.mono (by decide)) (so_pP so_var (so_pF so_var so_p0))))
  (so_blk (so_set (fun _ => sc_law_program.nd) (so_lst so_nil))
  (so_blk (so_for (si_rng1 (fun _ => T.free 7) (so_cons (so_sub so_var so_int) so_nil) (by intro e ds e' h; exact lenA1 h)) (so_gn (fun _ => sc_law_program.nd)) (so_blk (so_set (fun _ => sc_law_program.nd) (so_item (fun _ => hu_room hr) so_var (so_callIO D_law_next (fun _ => hr.mono (by decide)) (so_pP so_var (so_pF (so_len (fun _ => T.free 4) (so_pP so_var so_p0)) so_p0)))))
  (so_blk (so_if (SoW.t (so_and (st_eq (fun _ => hu_room hr) so_var so_str) (so_and1 (st_eq (fun _ => hu_room hr) so_var so_int)))) (so_blk1 (so_set (fun _ => sc_law_program.nd) so_str)) so_blk0)
  (so_blk1 (so_expr (so_app so_var (so_cons (so_callIO D_law_row (fun _ => hr.mono (by decide)) (so_pP so_var (so_pF so_var (so_pF so_var (so_pF so_var (so_pF so_var so_p0)))))) so_nil)))))) (fun _ => PassesOwn.never))
  (so_blk (so_set (fun _ => sc_law_program.nd) (so_add (so_call0 D_law_ending (fun _ => hr.mono (by decide))) (so_cut (so_lst (so_cons so_str (so_cons so_str (so_cons so_str so_nil)))) so_o0 (so_o1 (so_add so_int (so_intC (fun _ => T.free 1) (so_pP (so_gt' so_var so_int) so_p0)))))))
  (so_blk (so_set (fun _ => sc_law_program.nd) (so_item (fun _ => hu_room hr) so_var (so_callIO D_law_next (fun _ => hr.mono (by decide)) (so_pP so_var (so_pF (so_len (fun _ => T.free 4) (so_pP so_var so_p0)) so_p0)))))
  (so_blk (so_expr (so_app so_var (so_cons (so_callIO D_law_row (fun _ => hr.mono (by decide)) (so_pP so_var (so_pF so_var (so_pF so_var (so_pF so_var (so_pF so_var so_p0)))))) so_nil)))
  (so_blk (so_set (fun _ => sc_law_program.nd) (so_lst so_nil))
  (so_blk (so_for (si_rng1 (fun _ => T.free 7) (so_cons so_var so_nil) (by intro e ds e' h; exact lenA1 h)) (so_gn (fun _ => sc_law_program.nd)) (so_blk1 (so_expr (so_app so_var (so_cons (so_item (fun _ => hu_room hr) (so_lst (so_cons so_non (so_cons (so_callIO D_law_next (fun _ => hr.mono (by decide)) (so_pP so_var (so_pF so_var so_p0))) (so_cons (so_callIO D_law_next (fun _ => hr.mono (by decide)) (so_pP so_var (so_pF so_var so_p0))) so_nil)))) (so_callIO D_law_next (fun _ => hr.mono (by decide)) (so_pP so_var (so_pF so_int so_p0)))) so_nil)))) (fun _ => PassesOwn.never))
  (so_blk (so_set (fun _ => sc_law_program.nd) (so_tuple (fun _ => T.free 3) (so_pP (so_lc (own := [("k", 7)]) (fun _ => sc_law_program.nd) (fun _ => blkOk_by (by rfl)) (si_rng1 (fun _ => T.free 7) (so_cons so_var so_nil) (by intro e ds e' h; exact lenA1 h)) (so_gn (fun _ => sc_law_program.nd)) so_c0 (so_callIO D_law_table (fun _ => hr.mono (by decide)) (so_pP so_var (so_pF so_var (so_pF so_var so_p0)))) (by decide)) so_p0)))
  (so_blk1 (so_ret (so_tup (so_cons (so_tuple (fun _ => T.free 3) (so_pP so_var so_p0)) (so_cons so_var (so_cons (so_tuple (fun _ => T.free 3) (so_pP so_var so_p0)) (so_cons so_var so_nil)))))))))))))))))))
theorem sc_law_due : FnScope ["thing", "rows", "tables", "doors", "boxes", "part", "word", "row", "door", "table"] ["thing"] (defScope s_law_due) := ⟨rfl, rfl, rfl, by decide +kernel, rfl, by decide +kernel, by decide +kernel⟩
theorem ok_law_due (T : Txt fa fn cs K mg)  (D_law_ending : Def P w K mg base "_law_ending" [] 1 m_law_ending) (D_law_within : Def P w K mg base "_law_within" ["thing", "low", "high"] 1 m_law_within) (D_law_row_good : Def P w K mg base "_law_row_good" ["row", "boxes", "tables", "rows"] 3 m_law_row_good) (D_law_table_good : Def P w K mg base "_law_table_good" ["table", "boxes", "rows"] 2 m_law_table_good) : Def P w K mg base "_law_due" ["thing"] 4 m_law_due__2 := by
  obtain ⟨fd, F⟩ := T.says.def_ 21 (d := d_law_due) rfl
  refine ⟨_, fd, T.glo 34, F.kp, F.bindsN fun _ _ _ _ _ _ us hl => match us, hl with | [_], _ => rfl, FnOk.mono (fn_ok (k := 3) F sc_law_due rfl rfl fun cdv A outer s H E hr => ?_) (by decide), funD_lk F⟩
  exact (so_blk (so_if (SoW.t (so_or (so_not (so_tval (so_isi (fun _ => T.free 0) (fun _ => T.free 3) (by decide +kernel) so_var))) (so_or1 (st_ne (fun _ => hu_room hr) (so_len (fun _ => T.free 4) (so_pP so_var so_p0)) so_int)))) (so_blk1 (so_ret so_bl)) so_blk0)
  (so_blk (so_if (so_not (so_tval (so_all (fun _ => T.free 8) (so_pP (so_lc (own := [("part", 5)]) (fun _ => sc_law_due.nd) (fun _ => blkOk_by (by rfl)) (si_seq (by intro _; rfl) so_var) (so_gn (fun _ => sc_law_due.nd)) so_c0 (so_isi (fun _ => T.free 0) (fun _ => T.free 3) (by decide +kernel) so_var) (by decide)) so_p0)))) (so_blk1 (so_ret so_bl)) so_blk0)
  (so_blk (so_asgT so_var (so_gt (n := 4) (so_g1 (so_gn (fun _ => sc_law_due.nd)) (so_g1 (so_gn (fun _ => sc_law_due.nd)) (so_g1 (so_gn (fun _ => sc_law_due.nd)) (so_g1 (so_gn (fun _ => sc_law_due.nd)) so_g0)))) (hl := by intro ds e e' h; exact lenG4 h)))
  (so_blk (so_if (SoW.t (so_or (so_not (st_ltlt so_int (so_len (fun _ => T.free 4) (so_pP so_var so_p0)) so_int)) (so_or1 (so_not (st_ltlt so_int (so_len (fun _ => T.free 4) (so_pP so_var so_p0)) so_int))))) (so_blk1 (so_ret so_bl)) so_blk0)
  (so_blk (so_if (SoW.t (so_or (st_gt (so_len (fun _ => T.free 4) (so_pP so_var so_p0)) so_int) (so_or1 (st_ne (fun _ => hu_room hr) (so_len (fun _ => T.free 4) (so_pP so_var so_p0)) (so_len (fun _ => T.free 4) (so_pP so_var so_p0)))))) (so_blk1 (so_ret so_bl)) so_blk0)
  (so_blk (so_if (so_not (so_tval (so_all (fun _ => T.free 8) (so_pP (so_lc (own := [("word", 6)]) (fun _ => sc_law_due.nd) (fun _ => blkOk_by (by rfl)) (si_seq (by intro _; rfl) so_var) (so_gn (fun _ => sc_law_due.nd)) so_c0 (so_call D_law_within (fun _ => hr.mono (by decide)) (so_pF so_var (so_pF so_int (so_pF so_int so_p0)))) (by decide)) so_p0)))) (so_blk1 (so_ret so_bl)) so_blk0)
  (so_blk (so_if (so_not (so_tval (so_all (fun _ => T.free 8) (so_pP (so_lc (own := [("row", 7)]) (fun _ => sc_law_due.nd) (fun _ => blkOk_by (by rfl)) (si_seq (by intro _; rfl) so_var) (so_gn (fun _ => sc_law_due.nd)) so_c0 (so_call D_law_row_good (fun _ => hr.mono (by decide)) (so_pF so_var (so_pF (so_len (fun _ => T.free 4) (so_pP so_var so_p0)) (so_pF (so_len (fun _ => T.free 4) (so_pP so_var so_p0)) (so_pF (so_len (fun _ => T.free 4) (so_pP so_var so_p0)) so_p0))))) (by decide)) so_p0)))) (so_blk1 (so_ret so_bl)) so_blk0)
  (so_blk (so_if (st_nin (fun _ => hu_room hr) (so_item (fun _ => hu_room hr) (so_item (fun _ => hu_room hr) so_var (so_neg so_int)) so_int) (so_add (so_call0 D_law_ending (fun _ => hr.mono (by decide))) (so_lst (so_cons so_str (so_cons so_str (so_cons so_str so_nil)))))) (so_blk1 (so_ret so_bl)) so_blk0)
  (so_blk (so_if (so_not (so_tval (so_all (fun _ => T.free 8) (so_pP (so_lc (own := [("door", 8)]) (fun _ => sc_law_due.nd) (fun _ => blkOk_by (by rfl)) (si_seq (by intro _; rfl) so_var) (so_gn (fun _ => sc_law_due.nd)) so_c0 (so_orV (so_is so_var so_non) (so_oneV (so_call D_law_within (fun _ => hr.mono (by decide)) (so_pF so_var (so_pF so_int (so_pF (so_sub (so_len (fun _ => T.free 4) (so_pP so_var so_p0)) so_int) so_p0)))))) (by decide)) so_p0)))) (so_blk1 (so_ret so_bl)) so_blk0)
  (so_blk1 (so_ret (so_all (fun _ => T.free 8) (so_pP (so_lc (own := [("table", 9)]) (fun _ => sc_law_due.nd) (fun _ => blkOk_by (by rfl)) (si_seq (by intro _; rfl) so_var) (so_gn (fun _ => sc_law_due.nd)) so_c0 (so_call D_law_table_good (fun _ => hr.mono (by decide)) (so_pF so_var (so_pF (so_len (fun _ => T.free 4) (so_pP so_var so_p0)) (so_pF (so_len (fun _ => T.free 4) (so_pP so_var so_p0)) so_p0)))) (by decide)) so_p0)))))))))))))
theorem sc_law_spoilt : FnScope ["pool", "kind", "program", "spot", "rows", "tables", "doors", "boxes", "made", "at", "door", "some"] ["pool", "kind", "program", "spot"] (defScope s_law_spoilt) := ⟨rfl, rfl, rfl, by decide +kernel, rfl, by decide +kernel, by decide +kernel⟩
theorem ok_law_spoilt (T : Txt fa fn cs K mg)  (D_law_next : Def P w K mg base "_law_next" ["pool", "base"] 1 m_law_next) (D_law_other : Def P w K mg base "_law_other" ["pool", "most"] 2 m_law_other) (D_law_put : Def P w K mg base "_law_put" ["some", "at", "thing"] 1 m_law_put) (D_law_other_row : Def P w K mg base "_law_other_row" ["pool", "rows", "at", "boxes", "tables"] 3 m_law_other_row) (D_law_other_table : Def P w K mg base "_law_other_table" ["pool", "tables", "at", "rows", "boxes"] 3 m_law_other_table) : Def P w K mg base "_law_spoilt" ["pool", "kind", "program", "spot"] 4 m_law_spoilt := by
  obtain ⟨fd, F⟩ := T.says.def_ 26 (d := d_law_spoilt) rfl
  refine ⟨_, fd, T.glo 39, F.kp, F.bindsN fun _ _ _ _ _ _ us hl => match us, hl with | [_, _, _, _], _ => rfl, FnOk.mono (fn_ok (k := 3) F sc_law_spoilt rfl rfl fun cdv A outer s H E hr => ?_) (by decide), funD_lk F⟩
  exact (so_blk (so_asgT so_var (so_gt (n := 4) (so_g1 (so_gn (fun _ => sc_law_spoilt.nd)) (so_g1 (so_gn (fun _ => sc_law_spoilt.nd)) (so_g1 (so_gn (fun _ => sc_law_spoilt.nd)) (so_g1 (so_gn (fun _ => sc_law_spoilt.nd)) so_g0)))) (hl := by intro ds e e' h; exact lenG4 h)))
  (so_blk (so_if (st_lt so_var so_int) (so_blk (so_set (fun _ => sc_law_spoilt.nd) (so_callIO D_law_other_row (fun _ => hr.mono (by decide)) (so_pP so_var (so_pF so_var (so_pF (so_mod so_var (so_len (fun _ => T.free 4) (so_pP so_var so_p0))) (so_pF (so_len (fun _ => T.free 4) (so_pP so_var so_p0)) (so_pF (so_len (fun _ => T.free 4) (so_pP so_var so_p0)) so_p0)))))))
  (so_blk1 (so_ret (so_tup (so_cons so_var (so_cons so_var (so_cons so_var (so_cons so_var so_nil)))))))) so_blk0)
  (so_blk (so_if (st_lt so_var so_int) (so_blk (so_set (fun _ => sc_law_spoilt.nd) (so_callIO D_law_other_table (fun _ => hr.mono (by decide)) (so_pP so_var (so_pF so_var (so_pF so_var (so_pF (so_len (fun _ => T.free 4) (so_pP so_var so_p0)) (so_pF (so_len (fun _ => T.free 4) (so_pP so_var so_p0)) so_p0)))))))
  (so_blk1 (so_ret (so_tup (so_cons so_var (so_cons so_var (so_cons so_var (so_cons so_var so_nil)))))))) so_blk0)
  (so_blk (so_set (fun _ => sc_law_spoilt.nd) (so_mod so_var (so_len (fun _ => T.free 4) (so_pP so_var so_p0))))
  (so_blk (so_if (st_eq (fun _ => hu_room hr) so_var so_int) (so_blk (so_set (fun _ => sc_law_spoilt.nd) (so_callIO D_law_other (fun _ => hr.mono (by decide)) (so_pP so_var (so_pF (so_sub (so_len (fun _ => T.free 4) (so_pP so_var so_p0)) so_int) so_p0))))
  (so_blk1 (so_ret (so_tup (so_cons so_var (so_cons so_var (so_cons (so_call D_law_put (fun _ => hr.mono (by decide)) (so_pF so_var (so_pF so_var (so_pF so_var so_p0)))) (so_cons so_var so_nil)))))))) so_blk0)
  (so_blk (so_if (st_eq (fun _ => hu_room hr) so_var so_int) (so_blk1 (so_ret (so_tup (so_cons so_var (so_cons so_var (so_cons so_var (so_cons (so_call D_law_put (fun _ => hr.mono (by decide)) (so_pF so_var (so_pF so_var (so_pF (so_callIO D_law_other (fun _ => hr.mono (by decide)) (so_pP so_var (so_pF so_int so_p0))) so_p0)))) so_nil))))))) so_blk0)
  (so_blk (so_if (st_eq (fun _ => hu_room hr) so_var so_int) (so_blk (so_set (fun _ => sc_law_spoilt.nd) (so_lst (so_cons (so_tup (so_cons so_var (so_cons so_var (so_cons (so_cut so_var (so_o1 so_int) so_o0) (so_cons so_var so_nil))))) (so_cons (so_tup (so_cons so_var (so_cons so_var (so_cons so_var so_nil)))) so_nil))))
  (so_blk (so_expr (so_ext so_var (so_cons (so_lst (so_cons (so_tup (so_cons so_var (so_cons so_var (so_cons so_var (so_cons (so_cut so_var so_o0 (so_o1 (so_neg so_int))) so_nil))))) (so_cons (so_tup so_nil) (so_cons (so_list (fun _ => T.free 6) (so_pP so_var so_p0)) so_nil)))) so_nil)))
  (so_blk (so_expr (so_ext so_var (so_cons (so_lst (so_cons (so_add so_var (so_tup (so_cons (so_tup so_nil) so_nil))) (so_cons (so_tup (so_cons (so_list (fun _ => T.free 6) (so_pP so_var so_p0)) (so_cons so_var (so_cons so_var (so_cons so_var so_nil))))) so_nil))) so_nil)))
  (so_blk (so_expr (so_ext so_var (so_cons (so_lst (so_cons (so_tup (so_cons so_var (so_cons (so_lst so_nil) (so_cons so_var (so_cons so_var so_nil))))) (so_cons (so_tup (so_cons (so_tup so_nil) (so_cons so_var (so_cons so_var (so_cons so_var so_nil))))) so_nil))) so_nil)))
  (so_blk (so_expr (so_app so_var (so_cons (so_tup (so_cons so_var (so_cons so_var (so_cons (so_list (fun _ => T.free 6) (so_pP so_var so_p0)) (so_cons so_var so_nil))))) so_nil)))
  (so_blk (so_expr (so_app so_var (so_cons (so_tup (so_cons so_var (so_cons so_var (so_cons so_var (so_cons (so_list (fun _ => T.free 6) (so_pP so_var so_p0)) so_nil))))) so_nil)))
  (so_blk1 (so_ret (so_item (fun _ => hu_room hr) so_var (so_callIO D_law_next (fun _ => hr.mono (by decide)) (so_pP so_var (so_pF so_int so_p0)))))))))))) so_blk0)
  (so_blk (so_set (fun _ => sc_law_spoilt.nd) (so_lst (so_cons so_non (so_cons so_bl (so_cons so_int (so_cons so_str (so_cons (so_lst so_nil) (so_cons so_dict0 (so_cons (so_tup (so_cons (so_tup so_nil) (so_cons (so_tup so_nil) (so_cons (so_tup so_nil) (so_cons (so_tup so_nil) so_nil))))) so_nil)))))))))
  (so_blk1 (so_ret (so_item (fun _ => hu_room hr) (so_add so_var (so_lst (so_cons (so_tup (so_cons so_var (so_cons so_non (so_cons so_var (so_cons so_var so_nil))))) so_nil))) (so_callIO D_law_next (fun _ => hr.mono (by decide)) (so_pP so_var (so_pF so_int so_p0))))))))))))))
theorem sc_law_bounds_right : FnScope ["rows", "many"] [] (defScope s_law_bounds_right) := ⟨rfl, rfl, rfl, by decide +kernel, rfl, by decide +kernel, by decide +kernel⟩
theorem ok_law_bounds_right (T : Txt fa fn cs K mg)  (D_is_still : Def P w K mg base "is_still" ["thing"] 3 m_is_still) : Def P w K mg base "_law_bounds_right" [] 4 m_law_bounds_right := by
  obtain ⟨fd, F⟩ := T.says.def_ 27 (d := d_law_bounds_right) rfl
  refine ⟨_, fd, T.glo 40, F.kp, F.bindsN fun _ _ _ _ _ _ us hl => match us, hl with | [], _ => rfl, FnOk.mono (fn_ok (k := 3) F sc_law_bounds_right rfl rfl fun cdv A outer s H E hr => ?_) (by decide), funD_lk F⟩
  exact (so_blk (so_set (fun _ => sc_law_bounds_right.nd) (so_tup (so_cons (so_tup (so_cons so_str (so_cons so_int (so_cons so_int so_nil)))) so_nil)))
  (so_blk (so_for (si_seq (by intro _; rfl) (so_lst (so_cons so_int (so_cons so_int so_nil)))) (so_gn (fun _ => sc_law_bounds_right.nd)) (so_blk1 (so_if (st_ne (fun _ => hu_room hr) (so_call D_is_still (fun _ => hr.mono (by decide)) (so_pF (so_tup (so_cons (so_mul so_var so_var) (so_cons (so_tup so_nil) (so_cons (so_tup (so_cons so_non so_nil)) (so_cons (so_tup (so_cons so_int so_nil)) so_nil))))) so_p0)) (so_eq (fun _ => hu_room hr) so_var so_int)) (so_blk1 (so_ret so_bl)) so_blk0)) (fun _ => PassesOwn.never))
  (so_blk (so_for (si_seq (by intro _; rfl) (so_lst (so_cons so_int (so_cons so_int so_nil)))) (so_gn (fun _ => sc_law_bounds_right.nd)) (so_blk (so_if (st_ne (fun _ => hu_room hr) (so_call D_is_still (fun _ => hr.mono (by decide)) (so_pF (so_tup (so_cons so_var (so_cons (so_mul (so_tup (so_cons (so_tup (so_cons so_int (so_cons (so_tup so_nil) so_nil))) so_nil)) so_var) (so_cons (so_tup (so_cons so_non so_nil)) (so_cons (so_tup (so_cons so_int so_nil)) so_nil))))) so_p0)) (so_eq (fun _ => hu_room hr) so_var so_int)) (so_blk1 (so_ret so_bl)) so_blk0)
  (so_blk1 (so_if (st_ne (fun _ => hu_room hr) (so_call D_is_still (fun _ => hr.mono (by decide)) (so_pF (so_tup (so_cons so_var (so_cons (so_tup so_nil) (so_cons (so_mul (so_tup (so_cons so_int so_nil)) so_var) (so_cons (so_mul (so_tup (so_cons so_int so_nil)) so_var) so_nil))))) so_p0)) (so_eq (fun _ => hu_room hr) so_var so_int)) (so_blk1 (so_ret so_bl)) so_blk0))) (fun _ => PassesOwn.never))
  (so_blk1 (so_ret so_bl)))))
theorem sc_law : FnScope ["script", "cell", "pool", "kinds", "spots", "program", "kind", "spot", "thing", "found", "turn"] ["script"] (defScope s_law) := ⟨rfl, rfl, rfl, by decide +kernel, rfl, by decide +kernel, by decide +kernel⟩
theorem ok_law (T : Txt fa fn cs K mg)  (D_is_still : Def P w K mg base "is_still" ["thing"] 3 m_is_still) (D_law_pool : Def P w K mg base "_law_pool" ["cell"] 1 m_law_pool) (D_law_next : Def P w K mg base "_law_next" ["pool", "base"] 1 m_law_next) (D_law_cells : Def P w K mg base "_law_cells" ["script", "most"] 1 m_law_cells) (D_law_names : Def P w K mg base "_law_names" [] 2 m_law_names) (D_law_program : Def P w K mg base "_law_program" ["pool", "names"] 4 m_law_program) (D_law_due : Def P w K mg base "_law_due" ["thing"] 4 m_law_due__2) (D_law_spoilt : Def P w K mg base "_law_spoilt" ["pool", "kind", "program", "spot"] 4 m_law_spoilt) (D_law_bounds_right : Def P w K mg base "_law_bounds_right" [] 4 m_law_bounds_right) : Def P w K mg base "law" ["script"] 5 m_main_k12 := by
  obtain ⟨fd, F⟩ := T.says.def_ 28 (d := d_law) rfl
  refine ⟨_, fd, T.glo 41, F.kp, F.bindsN fun _ _ _ _ _ _ us hl => match us, hl with | [_], _ => rfl, FnOk.mono (fn_ok (k := 4) F sc_law rfl rfl fun cdv A outer s H E hr => ?_) (by decide), funD_lk F⟩
  exact (so_blk (so_for (si_seq (by intro _; rfl) (so_add (so_lst (so_cons so_int so_nil)) (so_call D_law_cells (fun _ => hr.mono (by decide)) (so_pF so_var (so_pF so_int so_p0))))) (so_gn (fun _ => sc_law.nd)) (so_blk (so_set (fun _ => sc_law.nd) (so_call D_law_pool (fun _ => hr.mono (by decide)) (so_pF so_var so_p0)))
  (so_blk (so_setLc (own := [("turn", 10)]) (fun _ => sc_law.nd) (fun _ => blkOk_by (by rfl)) (si_rng1 (fun _ => T.free 7) (so_cons so_int so_nil) (by intro e ds e' h; exact lenA1 h)) (so_gn (fun _ => sc_law.nd)) so_c0 (so_callIO D_law_next (fun _ => hr.mono (by decide)) (so_pP so_var (so_pF so_int so_p0))) (by decide))
  (so_blk (so_setLc (own := [("turn", 10)]) (fun _ => sc_law.nd) (fun _ => blkOk_by (by rfl)) (si_rng1 (fun _ => T.free 7) (so_cons so_int so_nil) (by intro e ds e' h; exact lenA1 h)) (so_gn (fun _ => sc_law.nd)) so_c0 (so_callIO D_law_next (fun _ => hr.mono (by decide)) (so_pP so_var (so_pF so_int so_p0))) (by decide))
  (so_blk (so_set (fun _ => sc_law.nd) (so_callIO D_law_program (fun _ => hr.mono (by decide)) (so_pP so_var (so_pF (so_call0 D_law_names (fun _ => hr.mono (by decide))) so_p0))))
  (so_blk (so_if (SoW.t (so_or (st_isnt (so_call D_is_still (fun _ => hr.mono (by decide)) (so_pF so_var so_p0)) so_bl) (so_or1 (st_isnt (so_call D_law_due (fun _ => hr.mono (by decide)) (so_pF so_var so_p0)) so_bl)))) (so_blk1 (so_ret so_bl)) so_blk0)
  (so_blk1 (so_for (si_zip2 (fun _ => T.free 12) (so_cons so_var (so_cons so_var so_nil))) (so_gt (n := 2) (so_g1 (so_gn (fun _ => sc_law.nd)) (so_g1 (so_gn (fun _ => sc_law.nd)) so_g0)) (hl := by intro ds e e' h; exact lenG2 h)) (so_blk (so_set (fun _ => sc_law.nd) (so_callIO D_law_spoilt (fun _ => hr.mono (by decide)) (so_pP so_var (so_pF so_var (so_pF so_var (so_pF so_var so_p0))))))
  (so_blk (so_set (fun _ => sc_law.nd) (so_call D_is_still (fun _ => hr.mono (by decide)) (so_pF so_var so_p0)))
  (so_blk1 (so_if (SoW.t (so_or (so_not (so_tval (so_isi (fun _ => T.free 0) (fun _ => T.free 2) (by decide +kernel) so_var))) (so_or1 (st_ne (fun _ => hu_room hr) so_var (so_call D_law_due (fun _ => hr.mono (by decide)) (so_pF so_var so_p0)))))) (so_blk1 (so_ret so_bl)) so_blk0)))) (fun _ => PassesOwn.never)))))))) (fun _ => PassesOwn.never))
  (so_blk1 (so_ret (so_call0 D_law_bounds_right (fun _ => hr.mono (by decide))))))
/-- all of them -/
theorem ok_all (T : Txt fa fn cs K mg) : Def P w K mg base "law" ["script"] 5 m_main_k12 := by
  have D_is_from := ok_is_from (P := P) (w := w) (base := base) T 
  have D_is_tuple_of := ok_is_tuple_of (P := P) (w := w) (base := base) T 
  have D_law_pool := ok_law_pool (P := P) (w := w) (base := base) T 
  have D_law_next := ok_law_next (P := P) (w := w) (base := base) T 
  have D_law_cells := ok_law_cells (P := P) (w := w) (base := base) T 
  have D_law_doing := ok_law_doing (P := P) (w := w) (base := base) T 
  have D_law_ending := ok_law_ending (P := P) (w := w) (base := base) T 
  have D_law_within := ok_law_within (P := P) (w := w) (base := base) T 
  have D_law_put := ok_law_put (P := P) (w := w) (base := base) T 
  have D_are_boxes := ok_are_boxes (P := P) (w := w) (base := base) T D_is_from D_is_tuple_of
  have D_is_row := ok_is_row (P := P) (w := w) (base := base) T D_is_from D_is_tuple_of
  have D_is_table := ok_is_table (P := P) (w := w) (base := base) T D_is_from D_is_tuple_of
  have D_are_doors := ok_are_doors (P := P) (w := w) (base := base) T D_is_from D_is_tuple_of
  have D_law_names := ok_law_names (P := P) (w := w) (base := base) T D_law_doing D_law_ending
  have D_law_word := ok_law_word (P := P) (w := w) (base := base) T D_law_next
  have D_law_row := ok_law_row (P := P) (w := w) (base := base) T D_law_next D_law_ending
  have D_law_table := ok_law_table (P := P) (w := w) (base := base) T D_law_next
  have D_law_table_good := ok_law_table_good (P := P) (w := w) (base := base) T D_law_within
  have D_law_other := ok_law_other (P := P) (w := w) (base := base) T D_law_next
  have D_is_still := ok_is_still (P := P) (w := w) (base := base) T D_is_tuple_of D_are_boxes D_is_row D_is_table D_are_doors
  have D_law_words := ok_law_words (P := P) (w := w) (base := base) T D_law_word
  have D_law_row_good := ok_law_row_good (P := P) (w := w) (base := base) T D_law_ending D_law_names D_law_within
  have D_law_other_row := ok_law_other_row (P := P) (w := w) (base := base) T D_law_next D_law_names D_law_other D_law_put
  have D_law_other_table := ok_law_other_table (P := P) (w := w) (base := base) T D_law_next D_law_other D_law_put
  have D_law_program := ok_law_program (P := P) (w := w) (base := base) T D_law_next D_law_ending D_law_words D_law_row D_law_table
  have D_law_due := ok_law_due (P := P) (w := w) (base := base) T D_law_ending D_law_within D_law_row_good D_law_table_good
  have D_law_spoilt := ok_law_spoilt (P := P) (w := w) (base := base) T D_law_next D_law_other D_law_put D_law_other_row D_law_other_table
  have D_law_bounds_right := ok_law_bounds_right (P := P) (w := w) (base := base) T D_is_still
  have D_law := ok_law (P := P) (w := w) (base := base) T D_is_still D_law_pool D_law_next D_law_cells D_law_names D_law_program D_law_due D_law_spoilt D_law_bounds_right
  exact D_law
end Tk12

set_option Elab.async false
set_option linter.all false
set_option maxRecDepth 100000
set_option maxHeartbeats 0
set_option autoImplicit false
namespace Tk12
open PySem PySem.Spec PyProof.Rows L2 Sl Rd
abbrev RR : PySem.W.OpenRow := PySem.W.OpenLaw.row PySem.Challenge.rw_stillrow_k12_still_programs_known
abbrev hk : PySem.W.Hook := hookS 4 fa fn cs
def ob (s : PySem.W.SharedT) : He.AlD × Bool := obsSG 4 fa fn cs (HandSHeadRun.getT s)
theorem ob_eq (s : PySem.W.SharedT) : ob s = hk.obs s.abs := obsSG_eq (HandSHeadRun.getT_eq s)
def loose0 : List PySem.Str := ["__name__", "BY_BOX", "BY_ROW", "ENDING", "LAST", "MOST_WORD", "MOST_ITEM", "MOST_MARK", "MOST_BOXES", "MOST_ROWS", "MOST_TABLES", "is_from", "is_tuple_of", "are_boxes", "is_row", "is_table", "are_doors", "is_still", "_law_pool", "_law_next", "_law_cells", "_law_doing", "_law_ending", "_law_names", "_law_word", "_law_words", "_law_row", "_law_table", "_law_program", "_law_within"]
def loose1 : List PySem.Str := ["_law_row_good", "_law_table_good", "_law_due", "_law_other", "_law_put", "_law_other_row", "_law_other_table", "_law_spoilt", "_law_bounds_right"]
def looseA : List PySem.Str := loose0 ++ loose1
theorem run (w : World) : HandSHeadRun.RunEq RR (PySem.W.view RR.prog [40]) hk ob 2860 looseA w := by
  intro os
  kernel_rfl
end Tk12
open PySem PySem.W PySem.Calls PyProof.Rows
theorem PySem.Challenge.cw_stillrow_k12_still_programs_known_holds : PySem.Challenge.rw_stillrow_k12_still_programs_known.Holds := by
  w_on; o_law
  refine HandSHeadRun.head_any (r := OpenLaw.row PySem.Challenge.rw_stillrow_k12_still_programs_known) (q := view (OpenLaw.row PySem.Challenge.rw_stillrow_k12_still_programs_known).prog [40]) (H := Tk12.hk) (ob := Tk12.ob) (M := 2860) (loose := Tk12.looseA) (d := HandSHeadRun.topDef (OpenLaw.row PySem.Challenge.rw_stillrow_k12_still_programs_known).prog 40) (kwd := []) Tk12.ob_eq
    (by kernel_rfl) (fun s => by kernel_rfl) Tk12.run (by kernel_rfl) (by kernel_rfl) (by kernel_rfl) (by rfl) (by first | assumption | decide +kernel) (by decide +kernel) ⟨rfl, rfl, rfl, rfl, rfl, by decide +kernel⟩ ?hw ?hc
  case hw => w_witness2
  case hc =>
    refine L2.walk_ofE (l := PySem.Challenge.rw_stillrow_k12_still_programs_known) (n := 63) (k := 5) (x := "script") (CX := L2.CX0) rfl (by decide) (by kernel_rfl) ⟨rfl, by decide, by decide⟩ ?F (fun _ _ _ _ z => z)
    intro w mg fa h Y G hmg0
    obtain ⟨K, KX, c⟩ := Y
    have hmg : mg ("law" : PySem.Str) = some (.ref fa) := by
      have e : (HandSHeadRun.topDef (OpenLaw.row PySem.Challenge.rw_stillrow_k12_still_programs_known).prog 40).name = ("law" : PySem.Str) := by kernel_rfl
      rw [← e]
      exact hmg0
    have T : Sl.Txt Tk12.fa Tk12.fn Tk12.cs K mg := ⟨congrArg Prod.fst c, congrArg Prod.snd c, h, KX, G⟩
    obtain ⟨fd, F⟩ := T.says.def_ 28 (d := Tk12.d_law) rfl
    refine ⟨K, fd, Sl.spM K Rd.m_main_k12, KX, fun s v => (L2.FunD.bindsA (ps := ["script"]) F fun _ _ _ _ _ _ us hl => match us, hl with | [_], _ => rfl) s [v] rfl, fun H a ns hl _ hS => ?_, fun base hK hG => ?_⟩
    · obtain ⟨out, e⟩ := Rd.law_k12 ns hl
      exact Sl.spM_law hS e
    · have T2 : Sl.Txt Tk12.fa Tk12.fn Tk12.cs K mg := ⟨congrArg Prod.fst c, congrArg Prod.snd c, base, hK, hG⟩
      obtain ⟨f2, fd2, e1, _, _, F2, lk2⟩ := Tk12.ok_all (P := (PySem.Challenge.rw_stillrow_k12_still_programs_known).prog) (w := w) (base := base) T2
      have e2 := hmg.symm.trans e1
      have e3 := hmg.symm.trans (T.glo 41 (x := "law"))
      cases e2
      cases e3
      have e4 := Sl.same_fd (Sl.funD_lk F) lk2
      cases e4
      exact F2

